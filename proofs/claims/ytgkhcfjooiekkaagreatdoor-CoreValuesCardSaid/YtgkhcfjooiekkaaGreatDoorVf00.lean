/- CoreValues: for every program, every type with a name, and every list of named values, the law returns true: CheckValue and CheckInputs answer as the specification does; the statement coreValuesCardSaid, as it is given; nothing is assumed beyond it. -/
import Derived.Test.YtgkhcfjooiekkaaGreatDoorX17
set_option linter.unusedVariables false
set_option linter.unusedSimpArgs false
namespace Go.Proofs.YtgkhcfjooiekkaaGreatDoor
open Go.ChangeShapes Go.WideShapes Go.ChangeAt Go.RowKit Go.Sw
set_option maxRecDepth 100000
theorem tt {a b:Bool} (c:a=true) (hb:b=true):(a&&b)=true:=by rw [c,hb];rfl
theorem y6g:Rows.coreValuesRow.wf (OpenSpec.ofChange Rows.coreValuesSpec)=true:=by kernel_rfl
theorem y6h:laidOutB Tryz.prog=true:=by kernel_rfl
theorem y6i:mapsRowed Tryz.prog=true:=by kernel_rfl
theorem y6j:Tryz.f11.params.all (Tryz.prog.readableRec ·)=true:=by kernel_rfl
theorem y6k:namedTie Tryz.prog Rows.coreValuesRow.named Rows.coreValuesSpec.vars=true:=by kernel_rfl
theorem y6l:(Rows.coreValuesRow.stops==[])=true:=by kernel_rfl
theorem y6m:(Tryz.prog.stops==[])=true:=by kernel_rfl
theorem y6n:(Rows.coreValuesRow.knobs==[])=true:=by kernel_rfl
theorem y6o:(Tryz.prog.stopKnobs==[])=true:=by kernel_rfl
theorem y6p:(Rows.coreValuesRow.inPlace==Tryz.prog.inPlace 11)=true:=by kernel_rfl
theorem y0z:(Rows.coreValuesRow.unfollowed==Tryz.prog.unfollowed 11)=true:=by kernel_rfl
theorem y1a:(Rows.coreValuesRow.recurses==Tryz.prog.recurses 11)=true:=by kernel_rfl
theorem y1b:(Rows.coreValuesRow.named==Tryz.prog.varsNamed 11)=true:=by kernel_rfl
theorem y1c:(Rows.coreValuesRow.maps==(Tryz.f11.params.toList++Rows.coreValuesSpec.plain.varTypes Tryz.prog).any (Tryz.prog.mapsRec ·))=true:=by kernel_rfl
theorem y1d:(Rows.coreValuesRow.ifaces==(Tryz.f11.params.toList++Rows.coreValuesSpec.plain.varTypes Tryz.prog).any (Tryz.prog.ifacesRec ·))=true:=by kernel_rfl
theorem y1e:(Rows.coreValuesRow.mapsOut==Tryz.prog.mapsAmong Tryz.f11.resultTypes.toList)=true:=by kernel_rfl
theorem y1f:(Rows.coreValuesRow.loops==(Tryz.f11.params.toList++Rows.coreValuesSpec.plain.varTypes Tryz.prog).any (Tryz.prog.loopsFrom ·))=true:=by kernel_rfl
theorem y1g:(Rows.coreValuesRow.wideKeys==(Tryz.f11.params.toList++Rows.coreValuesSpec.plain.varTypes Tryz.prog++Tryz.f11.resultTypes.toList).any (Tryz.prog.wideKeysFrom ·))=true:=by kernel_rfl
theorem y1h:Rows.coreValuesSpec.vars.all (Tryz.prog.varReadable ·)=true:=by kernel_rfl
theorem y1i:Tryz.f11.resultTypes.all (fun t=>Tryz.prog.readableRec t&&decide (t < Tryz.prog.types.size))=true:=by kernel_rfl
theorem y1j:(Rows.coreValuesRow.ifacesOut==Tryz.f11.resultTypes.toList.any (Tryz.prog.ifacesRec ·))=true:=by kernel_rfl
theorem y1k:(Rows.coreValuesRow.loopsOut==Tryz.f11.resultTypes.toList.any (Tryz.prog.loopsFrom ·))=true:=by kernel_rfl
theorem y1l:(Rows.coreValuesRow.plainKeys==Tryz.prog.plainKeys)=true:=by kernel_rfl
theorem y1m:Rows.coreValuesRow.shortTexts.isNone=true:=by kernel_rfl
theorem y1n:Tryz.prog.stopsHeard=true:=by kernel_rfl
theorem y1o:Tryz.prog.mayEnter=true:=by kernel_rfl
theorem y1p:(Rows.coreValuesRow.lifted==Tryz.prog.liftsFinal)=true:=by kernel_rfl
theorem y1q:(Tryz.prog.make==some Rows.coreValuesRow.make)=true:=by kernel_rfl
theorem y1r:(Rows.coreValuesRow.kinds==(if Rows.coreValuesRow.domain.isEmpty then [] else Tryz.f11.params.toList.map fun t=>match Tryz.prog.underlying t with | some (.int k)=>some k | _=>Option.none))=true:=by kernel_rfl
theorem y1s:(Rows.coreValuesRow.pinned==Rows.coreValuesRow.pinnedBy)=true:=by kernel_rfl
theorem y1t:(Rows.coreValuesRow.veiled==(Tryz.f11.params.toList++Rows.coreValuesSpec.plain.varTypes Tryz.prog++Tryz.f11.resultTypes.toList).any (Tryz.prog.veiledRec ·))=true:=by kernel_rfl
theorem y1u:Rows.coreValuesRow.veiledFits Tryz.prog Tryz.f11.params.toList (Tryz.f11.params.toList++Rows.coreValuesSpec.plain.varTypes Tryz.prog++Tryz.f11.resultTypes.toList)=true:=by kernel_rfl
theorem z4n:joinedFacts Tryz.prog 11 Tryz.f11 Rows.coreValuesSpec Rows.coreValuesRow=true:=(tt (tt (tt (tt (tt (tt (tt (tt (tt (tt (tt (tt (tt (tt (tt (tt (tt (tt (tt (tt (tt (tt (tt (tt (tt (tt (tt (tt (tt (tt (tt y6g y6h) y6i) y6j) y6k) y6l) y6m) y6n) y6o) y6p) y0z) y1a) y1b) y1c) y1d) y1e) y1f) y1g) y1h) y1i) y1j) y1k) y1l) y1m) y1n) y1o) y1p) y1q) y1r) y1s) y1t) y1u)
theorem coreValues_named:Tryz.prog.funcNamed "restitch/restitchlaw08.CoreValues" = some 11:=by kernel_rfl
theorem z4p:Tryz.checked.prog.inits.idxOf? 11=none:=by kernel_rfl
theorem z3k:Tryz.f11.resultTypes=#[4]:=by kernel_rfl
theorem z9r:([27,72,28].all fun t=>Tryz.prog.readableRec t&&decide (t < Tryz.prog.types.size))=true:=by kernel_rfl
theorem z4q:Rows.coreValuesRow.wfByText (OpenSpec.ofChange Rows.coreValuesSpec)=true:=by kernel_rfl
theorem z9q:false=Rows.coreValuesRow.goesBy Tryz.prog:=by kernel_rfl
theorem z6u:([27,72,28].all fun u=> !Tryz.prog.wantsStandIn u)=true:=by kernel_rfl
abbrev coreValues_args:Array Value:=#[.agg #[.slice none 0 0,.slice none 0 0,.slice none 0 0,.slice none 0 0],.agg #[.string ⟨#[]⟩,.string ⟨#[]⟩],.slice none 0 0]
theorem z4o (os:Os) (started:os.Started) (H:Type) (enc:TypeId×Value->H) :
  ReturnsInHanded {} Tryz.checked os 11 .any (fun w args=>(Rows.coreValuesSpec.pre enc Tryz.prog Tryz.f11 [] false w args/\laidMetH Tryz.prog laidAll w)/\sizedMet enc Tryz.prog Tryz.f11 (OpenSpec.ofChange Rows.coreValuesSpec) false w args)
   (Rows.coreValuesSpec.post enc Tryz.prog Tryz.f11 false true false false):=by
 refine q8c (C:=Tryz.checked) (X:=fun w _=>laidMetH Tryz.prog laidAll w) (fun _ _ _ u h=>h.of_heap u) own started z4p Tryz.func11
  (ChangeSpec.witness_shaped (enc:=enc) (C:=Tryz.checked) (os:=os) (X:=fun w _=>laidMetH Tryz.prog laidAll w) false (World.laidAll Tryz.prog os laidAll) coreValues_args 8 (World.laidAll_os _ _ _)
   (World.shaped_of_ZipB (by as_aux_lemma=>kernel_rfl) (by as_aux_lemma=>kernel_rfl)) (by as_aux_lemma=>kernel_rfl) (by as_aux_lemma=>kernel_rfl) (by as_aux_lemma=>kernel_rfl)
   (by rw [z8x];exact x2m os _)) ?_
 intro W base args ds gs before b o f g
 have a:∀(j:Nat) t v,Tryz.f11.params[j]? = some t->args[j]? = some v->Value.okWide Tryz.prog W .any base t v:=b
 have hW':=o
 obtain ⟨p,q,d,A,rfl,_,_⟩:=o
 have n:DataW.TrodAll enc Tryz.prog W 0 (fun _=>true) true Tryz.f11.params.toList args.toList ds p:=d
 rw [Tryz.params11] at n a
 obtain ⟨v0,z,v2,d0,d1,d2,B,D,E,rfl,rfl,rfl,m,h1,r⟩:=trodAll_three n
 rw [z8x] at f
 obtain ⟨cs,c,rfl,i⟩:=j9v (a 0 27 v0 rfl rfl) m
 obtain ⟨cx,x,rfl,k⟩:=j7g (a 1 72 z rfl rfl) h1
 obtain ⟨l,rl⟩:=j0j (a 2 28 v2 rfl rfl) r
 refine (y6q i k rl (j9w m) (glob_of g f) (j4h f) (Mem.whole W)).mono fun e W' ⟨J,N⟩=>?_
 subst J
 exact ⟨_,rfl,x2n hW' rfl (fun gs s=>by subst s;rfl) z3k (by rw [Tryz.params11];exact fun t y=>read_of z9r y) N⟩
theorem z6t:Rows.CoreValuesSaid :=
 OpenClaim.holds_of_wide 11 Tryz.f11 rfl rfl rfl rfl rfl rfl rfl ⟨rfl,rfl,rfl,rfl,rfl⟩ rfl rfl rfl rfl rfl coreValues_named Tryz.func11 z4n
  (of_decide_eq_true (by as_aux_lemma=>kernel_rfl)) (by unfold Func.isWrapper;first | (rw [if_pos (by decide +kernel)];as_aux_lemma=>kernel_rfl) | (rw [if_neg (by decide +kernel)];exact ⟨rfl,rfl⟩))
  (fun os started H enc _=>z4o os started H enc)
theorem coreValues_card:Rows.CoreValuesCardSaid :=
 Claim7.holds_tied_plain_at .later [] [.data,.data,.data,.data,.sentinel,.sentinel,.pinned] true (true,"455426ae17f5cebd1e869bbd2c7c15e1646e82f384eadf6ce8080b103650fe81") true z6t (fun _ h=>by cases h) z4q (fun _ h=>by cases h) coreValues_row_tie rfl ⟨rfl,rfl⟩ main_is rfl
  (fun f fn c a=>by
   obtain rfl:f=11:=Option.some.inj (coreValues_named.symm.trans c) |>.symm
   obtain rfl:fn=Tryz.f11:=(Option.some.inj (Tryz.func11.symm.trans a)).symm
   exact ⟨x2t,fun j t b=>by
    rw [Tryz.params11] at b
    have N:t∈[27,72,28]:=by simpa using Array.mem_of_getElem? b
    exact (show Tryz.prog.wantsStandIn t=false by simpa using List.all_eq_true.1 z6u t N)⟩)
  z9q
#print axioms coreValues_card
end Go.Proofs.YtgkhcfjooiekkaaGreatDoor
