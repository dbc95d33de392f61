/- LevelStable: for every program and every two lists of inputs the law returns true: an output whose node is stable has the same value in both runs, if no field of a constructor is changeable; the statement levelStableCardSaid, as it is given; nothing is assumed beyond it. -/
import Derived.Test.YtghdfphedgcpdaaGreatDoorZ14
import Derived.Test.YtghdfphedgcpdaaGreatDoorZ15
set_option linter.unusedVariables false
set_option linter.unusedSimpArgs false
namespace Go.Proofs.YtghdfphedgcpdaaGreatDoor
open Go.ChangeShapes Go.WideShapes Go.ChangeAt Go.RowKit Go.Sw
set_option maxRecDepth 100000
theorem tt {a b:Bool} (ha:a=true) (hb:b=true):(a&&b)=true:=by rw [ha,hb];rfl
theorem y0i:Rows.levelStableRow.wf (OpenSpec.ofChange Rows.levelStableSpec)=true:=by kernel_rfl
theorem y0j:laidOutB Tryz.prog=true:=by kernel_rfl
theorem y0k:mapsRowed Tryz.prog=true:=by kernel_rfl
theorem y0l:Tryz.f10.params.all (Tryz.prog.readableRec ·)=true:=by kernel_rfl
theorem y0m:namedTie Tryz.prog Rows.levelStableRow.named Rows.levelStableSpec.vars=true:=by kernel_rfl
theorem y0n:(Rows.levelStableRow.stops==[])=true:=by kernel_rfl
theorem y0o:(Tryz.prog.stops==[])=true:=by kernel_rfl
theorem y0p:(Rows.levelStableRow.knobs==[])=true:=by kernel_rfl
theorem y0q:(Tryz.prog.stopKnobs==[])=true:=by kernel_rfl
theorem y0r:(Rows.levelStableRow.inPlace==Tryz.prog.inPlace 10)=true:=by kernel_rfl
theorem z6t:(Rows.levelStableRow.unfollowed==Tryz.prog.unfollowed 10)=true:=by kernel_rfl
theorem z6u:(Rows.levelStableRow.recurses==Tryz.prog.recurses 10)=true:=by kernel_rfl
theorem z6v:(Rows.levelStableRow.named==Tryz.prog.varsNamed 10)=true:=by kernel_rfl
theorem z6w:(Rows.levelStableRow.maps==(Tryz.f10.params.toList++Rows.levelStableSpec.plain.varTypes Tryz.prog).any (Tryz.prog.mapsRec ·))=true:=by kernel_rfl
theorem z6x:(Rows.levelStableRow.ifaces==(Tryz.f10.params.toList++Rows.levelStableSpec.plain.varTypes Tryz.prog).any (Tryz.prog.ifacesRec ·))=true:=by kernel_rfl
theorem z6y:(Rows.levelStableRow.mapsOut==Tryz.prog.mapsAmong Tryz.f10.resultTypes.toList)=true:=by kernel_rfl
theorem z6z:(Rows.levelStableRow.loops==(Tryz.f10.params.toList++Rows.levelStableSpec.plain.varTypes Tryz.prog).any (Tryz.prog.loopsFrom ·))=true:=by kernel_rfl
theorem z7a:(Rows.levelStableRow.wideKeys==(Tryz.f10.params.toList++Rows.levelStableSpec.plain.varTypes Tryz.prog++Tryz.f10.resultTypes.toList).any (Tryz.prog.wideKeysFrom ·))=true:=by kernel_rfl
theorem z7b:Rows.levelStableSpec.vars.all (Tryz.prog.varReadable ·)=true:=by kernel_rfl
theorem z7c:Tryz.f10.resultTypes.all (fun t=>Tryz.prog.readableRec t&&decide (t < Tryz.prog.types.size))=true:=by kernel_rfl
theorem z7d:(Rows.levelStableRow.ifacesOut==Tryz.f10.resultTypes.toList.any (Tryz.prog.ifacesRec ·))=true:=by kernel_rfl
theorem z7e:(Rows.levelStableRow.loopsOut==Tryz.f10.resultTypes.toList.any (Tryz.prog.loopsFrom ·))=true:=by kernel_rfl
theorem z7f:(Rows.levelStableRow.plainKeys==Tryz.prog.plainKeys)=true:=by kernel_rfl
theorem z7g:Rows.levelStableRow.shortTexts.isNone=true:=by kernel_rfl
theorem z7h:Tryz.prog.stopsHeard=true:=by kernel_rfl
theorem z7i:Tryz.prog.mayEnter=true:=by kernel_rfl
theorem z7j:(Rows.levelStableRow.lifted==Tryz.prog.liftsFinal)=true:=by kernel_rfl
theorem z7k:(Tryz.prog.make==some Rows.levelStableRow.make)=true:=by kernel_rfl
theorem z7l:(Rows.levelStableRow.kinds==(if Rows.levelStableRow.domain.isEmpty then [] else Tryz.f10.params.toList.map fun t=>match Tryz.prog.underlying t with | some (.int k)=>some k | _=>Option.none))=true:=by kernel_rfl
theorem z7m:(Rows.levelStableRow.pinned==Rows.levelStableRow.pinnedBy)=true:=by kernel_rfl
theorem z7n:(Rows.levelStableRow.veiled==(Tryz.f10.params.toList++Rows.levelStableSpec.plain.varTypes Tryz.prog++Tryz.f10.resultTypes.toList).any (Tryz.prog.veiledRec ·))=true:=by kernel_rfl
theorem z7o:Rows.levelStableRow.veiledFits Tryz.prog Tryz.f10.params.toList (Tryz.f10.params.toList++Rows.levelStableSpec.plain.varTypes Tryz.prog++Tryz.f10.resultTypes.toList)=true:=by kernel_rfl
theorem z0q:joinedFacts Tryz.prog 10 Tryz.f10 Rows.levelStableSpec Rows.levelStableRow=true:=(tt (tt (tt (tt (tt (tt (tt (tt (tt (tt (tt (tt (tt (tt (tt (tt (tt (tt (tt (tt (tt (tt (tt (tt (tt (tt (tt (tt (tt (tt (tt y0i y0j) y0k) y0l) y0m) y0n) y0o) y0p) y0q) y0r) z6t) z6u) z6v) z6w) z6x) z6y) z6z) z7a) z7b) z7c) z7d) z7e) z7f) z7g) z7h) z7i) z7j) z7k) z7l) z7m) z7n) z7o)
theorem levelStable_named:Tryz.prog.funcNamed "restitch/restitchlaw11.LevelStable" = some 10:=by kernel_rfl
theorem z0s:Tryz.checked.prog.inits.idxOf? 10=none:=by kernel_rfl
theorem uZ:Tryz.f10.resultTypes=#[4]:=by kernel_rfl
theorem z4q:([27,51,51].all fun t=>Tryz.prog.readableRec t&&decide (t < Tryz.prog.types.size))=true:=by kernel_rfl
theorem z0t:Rows.levelStableRow.wfByText (OpenSpec.ofChange Rows.levelStableSpec)=true:=by kernel_rfl
theorem z4p:false=Rows.levelStableRow.goesBy Tryz.prog:=by kernel_rfl
theorem z2k:([27,51,51].all fun u => !Tryz.prog.wantsStandIn u)=true:=by kernel_rfl
abbrev levelStable_args:Array Value:=#[.agg #[.slice none 0 0,.slice none 0 0,.slice none 0 0,.slice none 0 0],.slice none 0 0,.slice none 0 0]
theorem z0r (os:Os) (started:os.Started) (H:Type) (enc:TypeId×Value→H) :
  ReturnsInHanded {} Tryz.checked os 10 .any (fun w args=>(Rows.levelStableSpec.pre enc Tryz.prog Tryz.f10 [] false w args∧laidMetH Tryz.prog laidAll w)∧sizedMet enc Tryz.prog Tryz.f10 (OpenSpec.ofChange Rows.levelStableSpec) false w args)
   (Rows.levelStableSpec.post enc Tryz.prog Tryz.f10 false true false false):=by
 refine q3m (C:=Tryz.checked) (X:=fun w _=>laidMetH Tryz.prog laidAll w) (fun _ _ _ hh h=>h.of_heap hh) own started z0s Tryz.func10
  (ChangeSpec.witness_shaped (enc:=enc) (C:=Tryz.checked) (os:=os) (X:=fun w _=>laidMetH Tryz.prog laidAll w) false (World.laidAll Tryz.prog os laidAll) levelStable_args 8 (World.laidAll_os _ _ _)
   (World.shaped_of_ZipB (by as_aux_lemma=>kernel_rfl) (by as_aux_lemma=>kernel_rfl)) (by as_aux_lemma=>kernel_rfl) (by as_aux_lemma=>kernel_rfl) (by as_aux_lemma=>kernel_rfl)
   (by rw [z5x];exact j8p os _)) ?_
 intro W base args ds gs before hval0 hW hL hsh
 have hval:∀(j:Nat) t v,Tryz.f10.params[j]? = some t→args[j]? = some v→Value.okWide Tryz.prog W .any base t v:=hval0
 have hW':=hW
 obtain ⟨p,q,hA0,hV,rfl,_,_⟩:=hW
 have hA:DataW.TrodAll enc Tryz.prog W 0 (fun _=>true) true Tryz.f10.params.toList args.toList ds p:=hA0
 rw [Tryz.params10] at hA hval
 obtain ⟨v0,v1,v2,d0,d1,d2,p0,p1,p2,rfl,rfl,rfl,h0,h1,h2⟩:=trodAll_three hA
 rw [z5x] at hL
 obtain ⟨cs,c,rfl,rpc⟩:=j4z (hval 0 27 v0 rfl rfl) h0
 obtain ⟨l1,rl1⟩:=y1a (hval 1 51 v1 rfl rfl) h1
 obtain ⟨l2,rl2⟩:=y1a (hval 2 51 v2 rfl rfl) h2
 refine (y0s rpc rl1 rl2 (glob_of hsh hL) (Mem.whole W)).mono fun e W' ⟨he,hm⟩ =>?_
 subst he
 exact ⟨_,rfl,j8q hW' rfl (fun gs hg=>by subst hg;rfl) uZ (by rw [Tryz.params10];exact fun t ht=>read_of z4q ht) hm⟩
theorem z2j:Rows.LevelStableSaid :=
 OpenClaim.holds_of_wide 10 Tryz.f10 rfl rfl rfl rfl rfl rfl rfl ⟨rfl,rfl,rfl,rfl,rfl⟩ rfl rfl rfl rfl rfl levelStable_named Tryz.func10 z0q
  (of_decide_eq_true (by as_aux_lemma=>kernel_rfl)) (by unfold Func.isWrapper;first | (rw [if_pos (by decide +kernel)];as_aux_lemma=>kernel_rfl) | (rw [if_neg (by decide +kernel)];exact ⟨rfl,rfl⟩))
  (fun os started H enc _=>z0r os started H enc)
theorem levelStable_card:Rows.LevelStableCardSaid :=
 Claim7.holds_tied_plain_at .later [] [.data,.data,.data,.data,.sentinel,.sentinel,.pinned] true (true,"8dfb172be620e644952a3b3fbef38f53abbde8464159391a13788f707abd56a4") true z2j (fun _ h=>by cases h) z0t (fun _ h=>by cases h) levelStable_row_tie rfl ⟨rfl,rfl⟩ main_is rfl
  (fun f fn hf hfn=>by
   obtain rfl:f=10:=Option.some.inj (levelStable_named.symm.trans hf) |>.symm
   obtain rfl:fn=Tryz.f10:=(Option.some.inj (Tryz.func10.symm.trans hfn)).symm
   exact ⟨j8y,fun j t ht=>by
    rw [Tryz.params10] at ht
    have hm:t∈[27,51,51]:=by simpa using Array.mem_of_getElem? ht
    exact (show Tryz.prog.wantsStandIn t=false by simpa using List.all_eq_true.1 z2k t hm)⟩)
  z4p
#print axioms levelStable_card
end Go.Proofs.YtghdfphedgcpdaaGreatDoor
