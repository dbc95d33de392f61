/- CoreParses: for every text the law returns true: Parse answers as the specification does; the statement coreParsesCardSaid, as it is given; nothing is assumed beyond it. -/
import Derived.Test.YtgkhcfjooiekkaaGreatDoorX16
set_option linter.unusedVariables false
set_option linter.unusedSimpArgs false
namespace Go.Proofs.YtgkhcfjooiekkaaGreatDoor
open Go.ChangeShapes Go.WideShapes Go.ChangeAt Go.RowKit Go.Sw
set_option maxRecDepth 100000
theorem tt {a b:Bool} (c:a=true) (hb:b=true):(a&&b)=true:=by rw [c,hb];rfl
theorem y8j:Rows.coreParsesRow.wf (OpenSpec.ofChange Rows.coreParsesSpec)=true:=by kernel_rfl
theorem y8k:laidOutB Tryz.prog=true:=by kernel_rfl
theorem y8l:mapsRowed Tryz.prog=true:=by kernel_rfl
theorem y8m:Tryz.f6.params.all (Tryz.prog.readableRec ·)=true:=by kernel_rfl
theorem y8n:namedTie Tryz.prog Rows.coreParsesRow.named Rows.coreParsesSpec.vars=true:=by kernel_rfl
theorem y8o:(Rows.coreParsesRow.stops==[])=true:=by kernel_rfl
theorem y8p:(Tryz.prog.stops==[])=true:=by kernel_rfl
theorem y8q:(Rows.coreParsesRow.knobs==[])=true:=by kernel_rfl
theorem y8r:(Tryz.prog.stopKnobs==[])=true:=by kernel_rfl
theorem y8s:(Rows.coreParsesRow.inPlace==Tryz.prog.inPlace 6)=true:=by kernel_rfl
theorem y2r:(Rows.coreParsesRow.unfollowed==Tryz.prog.unfollowed 6)=true:=by kernel_rfl
theorem y2s:(Rows.coreParsesRow.recurses==Tryz.prog.recurses 6)=true:=by kernel_rfl
theorem y2t:(Rows.coreParsesRow.named==Tryz.prog.varsNamed 6)=true:=by kernel_rfl
theorem y2u:(Rows.coreParsesRow.maps==(Tryz.f6.params.toList++Rows.coreParsesSpec.plain.varTypes Tryz.prog).any (Tryz.prog.mapsRec ·))=true:=by kernel_rfl
theorem y2v:(Rows.coreParsesRow.ifaces==(Tryz.f6.params.toList++Rows.coreParsesSpec.plain.varTypes Tryz.prog).any (Tryz.prog.ifacesRec ·))=true:=by kernel_rfl
theorem y2w:(Rows.coreParsesRow.mapsOut==Tryz.prog.mapsAmong Tryz.f6.resultTypes.toList)=true:=by kernel_rfl
theorem y2x:(Rows.coreParsesRow.loops==(Tryz.f6.params.toList++Rows.coreParsesSpec.plain.varTypes Tryz.prog).any (Tryz.prog.loopsFrom ·))=true:=by kernel_rfl
theorem y2y:(Rows.coreParsesRow.wideKeys==(Tryz.f6.params.toList++Rows.coreParsesSpec.plain.varTypes Tryz.prog++Tryz.f6.resultTypes.toList).any (Tryz.prog.wideKeysFrom ·))=true:=by kernel_rfl
theorem y2z:Rows.coreParsesSpec.vars.all (Tryz.prog.varReadable ·)=true:=by kernel_rfl
theorem y3a:Tryz.f6.resultTypes.all (fun t=>Tryz.prog.readableRec t&&decide (t < Tryz.prog.types.size))=true:=by kernel_rfl
theorem y3b:(Rows.coreParsesRow.ifacesOut==Tryz.f6.resultTypes.toList.any (Tryz.prog.ifacesRec ·))=true:=by kernel_rfl
theorem y3c:(Rows.coreParsesRow.loopsOut==Tryz.f6.resultTypes.toList.any (Tryz.prog.loopsFrom ·))=true:=by kernel_rfl
theorem y3d:(Rows.coreParsesRow.plainKeys==Tryz.prog.plainKeys)=true:=by kernel_rfl
theorem y3e:Rows.coreParsesRow.shortTexts.isNone=true:=by kernel_rfl
theorem y3f:Tryz.prog.stopsHeard=true:=by kernel_rfl
theorem y3g:Tryz.prog.mayEnter=true:=by kernel_rfl
theorem y3h:(Rows.coreParsesRow.lifted==Tryz.prog.liftsFinal)=true:=by kernel_rfl
theorem y3i:(Tryz.prog.make==some Rows.coreParsesRow.make)=true:=by kernel_rfl
theorem y3j:(Rows.coreParsesRow.kinds==(if Rows.coreParsesRow.domain.isEmpty then [] else Tryz.f6.params.toList.map fun t=>match Tryz.prog.underlying t with | some (.int k)=>some k | _=>Option.none))=true:=by kernel_rfl
theorem y3k:(Rows.coreParsesRow.pinned==Rows.coreParsesRow.pinnedBy)=true:=by kernel_rfl
theorem y3l:(Rows.coreParsesRow.veiled==(Tryz.f6.params.toList++Rows.coreParsesSpec.plain.varTypes Tryz.prog++Tryz.f6.resultTypes.toList).any (Tryz.prog.veiledRec ·))=true:=by kernel_rfl
theorem y3m:Rows.coreParsesRow.veiledFits Tryz.prog Tryz.f6.params.toList (Tryz.f6.params.toList++Rows.coreParsesSpec.plain.varTypes Tryz.prog++Tryz.f6.resultTypes.toList)=true:=by kernel_rfl
theorem z5m:joinedFacts Tryz.prog 6 Tryz.f6 Rows.coreParsesSpec Rows.coreParsesRow=true:=(tt (tt (tt (tt (tt (tt (tt (tt (tt (tt (tt (tt (tt (tt (tt (tt (tt (tt (tt (tt (tt (tt (tt (tt (tt (tt (tt (tt (tt (tt (tt y8j y8k) y8l) y8m) y8n) y8o) y8p) y8q) y8r) y8s) y2r) y2s) y2t) y2u) y2v) y2w) y2x) y2y) y2z) y3a) y3b) y3c) y3d) y3e) y3f) y3g) y3h) y3i) y3j) y3k) y3l) y3m)
theorem coreParses_named:Tryz.prog.funcNamed "restitch/restitchlaw08.CoreParses" = some 6:=by kernel_rfl
theorem z5o:Tryz.checked.prog.inits.idxOf? 6=none:=by kernel_rfl
theorem z3x:Tryz.f6.resultTypes=#[4]:=by kernel_rfl
theorem y1a:([9].all fun t=>Tryz.prog.readableRec t&&decide (t < Tryz.prog.types.size))=true:=by kernel_rfl
theorem z5p:Rows.coreParsesRow.wfByText (OpenSpec.ofChange Rows.coreParsesSpec)=true:=by kernel_rfl
theorem y0z:false=Rows.coreParsesRow.goesBy Tryz.prog:=by kernel_rfl
theorem z7t:([9].all fun u=> !Tryz.prog.wantsStandIn u)=true:=by kernel_rfl
abbrev coreParses_args:Array Value:=#[.string ⟨#[]⟩]
theorem x7o {W:World} {base:Nat} {v:Value} (h:Value.okWide Tryz.prog W .any base 9 v):∃s:Bs,v=.string s:=by
 cases v
 case string s=>exact ⟨s,rfl⟩
 all_goals (exfalso;simp [Value.okWide,Cell.okWide,Cell.ok,Tryz.underlying9] at h)
theorem z5n (os:Os) (started:os.Started) (H:Type) (enc:TypeId×Value->H) :
  ReturnsInHanded {} Tryz.checked os 6 .any (fun w args=>(Rows.coreParsesSpec.pre enc Tryz.prog Tryz.f6 [] false w args/\laidMetH Tryz.prog laidAll w)/\sizedMet enc Tryz.prog Tryz.f6 (OpenSpec.ofChange Rows.coreParsesSpec) false w args)
   (Rows.coreParsesSpec.post enc Tryz.prog Tryz.f6 false true false false):=by
 refine j0p (C:=Tryz.checked) (X:=fun w _=>laidMetH Tryz.prog laidAll w) (fun _ _ _ l h=>h.of_heap l) own started z5o Tryz.func6
  (ChangeSpec.witness_shaped (enc:=enc) (C:=Tryz.checked) (os:=os) (X:=fun w _=>laidMetH Tryz.prog laidAll w) false (World.laidAll Tryz.prog os laidAll) coreParses_args 1 (World.laidAll_os _ _ _)
   (World.shaped_of_ZipB (by as_aux_lemma=>kernel_rfl) (by as_aux_lemma=>kernel_rfl)) (by as_aux_lemma=>kernel_rfl) (by as_aux_lemma=>kernel_rfl) (by as_aux_lemma=>kernel_rfl)
   (by rw [z9y];exact x5l os _)) ?_
 intro W base args ds gs before b i d f
 have a:∀(j:Nat) t v,Tryz.f6.params[j]? = some t->args[j]? = some v->Value.okWide Tryz.prog W .any base t v:=b
 have hW':=i
 obtain ⟨p,q,c,o,rfl,_,_⟩:=i
 have g:DataW.TrodAll enc Tryz.prog W 0 (fun _=>true) true Tryz.f6.params.toList args.toList ds p:=c
 rw [Tryz.params6] at g a
 obtain ⟨v0,d0,rfl,rfl,n⟩:=trodAll_one g
 rw [z9y] at d
 obtain ⟨t0,rfl⟩:=x7o (a 0 9 v0 rfl rfl)
 refine (y8t (t:=t0) (glob_of f d) (j7p d) (Mem.whole W)).mono fun e W' ⟨J,N⟩=>?_
 subst J
 exact ⟨_,rfl,x5m hW' rfl (fun gs k=>by subst k;rfl) z3x (by rw [Tryz.params6];exact fun t m=>read_of y1a m) N⟩
theorem z7s:Rows.CoreParsesSaid :=
 OpenClaim.holds_of_wide 6 Tryz.f6 rfl rfl rfl rfl rfl rfl rfl ⟨rfl,rfl,rfl,rfl,rfl⟩ rfl rfl rfl rfl rfl coreParses_named Tryz.func6 z5m
  (of_decide_eq_true (by as_aux_lemma=>kernel_rfl)) (by unfold Func.isWrapper;first | (rw [if_pos (by decide +kernel)];as_aux_lemma=>kernel_rfl) | (rw [if_neg (by decide +kernel)];exact ⟨rfl,rfl⟩))
  (fun os started H enc _=>z5n os started H enc)
theorem coreParses_card:Rows.CoreParsesCardSaid :=
 Claim7.holds_tied_plain_at .later [] [.data,.data,.data,.data,.sentinel,.sentinel,.pinned] true (true,"455426ae17f5cebd1e869bbd2c7c15e1646e82f384eadf6ce8080b103650fe81") true z7s (fun _ h=>by cases h) z5p (fun _ h=>by cases h) coreParses_row_tie rfl ⟨rfl,rfl⟩ main_is rfl
  (fun f fn c a=>by
   obtain rfl:f=6:=Option.some.inj (coreParses_named.symm.trans c) |>.symm
   obtain rfl:fn=Tryz.f6:=(Option.some.inj (Tryz.func6.symm.trans a)).symm
   exact ⟨x5s,fun j t b=>by
    rw [Tryz.params6] at b
    have N:t∈[9]:=by simpa using Array.mem_of_getElem? b
    exact (show Tryz.prog.wantsStandIn t=false by simpa using List.all_eq_true.1 z7t t N)⟩)
  y0z
#print axioms coreParses_card
end Go.Proofs.YtgkhcfjooiekkaaGreatDoor
