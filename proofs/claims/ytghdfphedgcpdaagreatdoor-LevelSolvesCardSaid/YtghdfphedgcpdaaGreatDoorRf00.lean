/- LevelSolves: for every program and every list of nodes the law returns true: Solve, Check, Least and Forced answer as the specification does; the statement levelSolvesCardSaid, as it is given; nothing is assumed beyond it. -/
import Derived.Test.YtghdfphedgcpdaaGreatDoorX16
set_option linter.unusedVariables false
set_option linter.unusedSimpArgs false
namespace Go.Proofs.YtghdfphedgcpdaaGreatDoor
open Go.ChangeShapes Go.WideShapes Go.ChangeAt Go.RowKit Go.Sw
set_option maxRecDepth 100000
theorem tt {a b:Bool} (c:a=true) (hb:b=true):(a&&b)=true:=by rw [c,hb];rfl
theorem y5t:Rows.levelSolvesRow.wf (OpenSpec.ofChange Rows.levelSolvesSpec)=true:=by kernel_rfl
theorem y5u:laidOutB Tryz.prog=true:=by kernel_rfl
theorem y5v:mapsRowed Tryz.prog=true:=by kernel_rfl
theorem y5w:Tryz.f5.params.all (Tryz.prog.readableRec ·)=true:=by kernel_rfl
theorem y5x:namedTie Tryz.prog Rows.levelSolvesRow.named Rows.levelSolvesSpec.vars=true:=by kernel_rfl
theorem y5y:(Rows.levelSolvesRow.stops==[])=true:=by kernel_rfl
theorem y5z:(Tryz.prog.stops==[])=true:=by kernel_rfl
theorem y6a:(Rows.levelSolvesRow.knobs==[])=true:=by kernel_rfl
theorem y6b:(Tryz.prog.stopKnobs==[])=true:=by kernel_rfl
theorem y6c:(Rows.levelSolvesRow.inPlace==Tryz.prog.inPlace 5)=true:=by kernel_rfl
theorem y1r:(Rows.levelSolvesRow.unfollowed==Tryz.prog.unfollowed 5)=true:=by kernel_rfl
theorem y1s:(Rows.levelSolvesRow.recurses==Tryz.prog.recurses 5)=true:=by kernel_rfl
theorem y1t:(Rows.levelSolvesRow.named==Tryz.prog.varsNamed 5)=true:=by kernel_rfl
theorem y1u:(Rows.levelSolvesRow.maps==(Tryz.f5.params.toList++Rows.levelSolvesSpec.plain.varTypes Tryz.prog).any (Tryz.prog.mapsRec ·))=true:=by kernel_rfl
theorem y1v:(Rows.levelSolvesRow.ifaces==(Tryz.f5.params.toList++Rows.levelSolvesSpec.plain.varTypes Tryz.prog).any (Tryz.prog.ifacesRec ·))=true:=by kernel_rfl
theorem y1w:(Rows.levelSolvesRow.mapsOut==Tryz.prog.mapsAmong Tryz.f5.resultTypes.toList)=true:=by kernel_rfl
theorem y1x:(Rows.levelSolvesRow.loops==(Tryz.f5.params.toList++Rows.levelSolvesSpec.plain.varTypes Tryz.prog).any (Tryz.prog.loopsFrom ·))=true:=by kernel_rfl
theorem y1y:(Rows.levelSolvesRow.wideKeys==(Tryz.f5.params.toList++Rows.levelSolvesSpec.plain.varTypes Tryz.prog++Tryz.f5.resultTypes.toList).any (Tryz.prog.wideKeysFrom ·))=true:=by kernel_rfl
theorem y1z:Rows.levelSolvesSpec.vars.all (Tryz.prog.varReadable ·)=true:=by kernel_rfl
theorem y2a:Tryz.f5.resultTypes.all (fun t=>Tryz.prog.readableRec t&&decide (t < Tryz.prog.types.size))=true:=by kernel_rfl
theorem y2b:(Rows.levelSolvesRow.ifacesOut==Tryz.f5.resultTypes.toList.any (Tryz.prog.ifacesRec ·))=true:=by kernel_rfl
theorem y2c:(Rows.levelSolvesRow.loopsOut==Tryz.f5.resultTypes.toList.any (Tryz.prog.loopsFrom ·))=true:=by kernel_rfl
theorem y2d:(Rows.levelSolvesRow.plainKeys==Tryz.prog.plainKeys)=true:=by kernel_rfl
theorem y2e:Rows.levelSolvesRow.shortTexts.isNone=true:=by kernel_rfl
theorem y2f:Tryz.prog.stopsHeard=true:=by kernel_rfl
theorem y2g:Tryz.prog.mayEnter=true:=by kernel_rfl
theorem y2h:(Rows.levelSolvesRow.lifted==Tryz.prog.liftsFinal)=true:=by kernel_rfl
theorem y2i:(Tryz.prog.make==some Rows.levelSolvesRow.make)=true:=by kernel_rfl
theorem y2j:(Rows.levelSolvesRow.kinds==(if Rows.levelSolvesRow.domain.isEmpty then [] else Tryz.f5.params.toList.map fun t=>match Tryz.prog.underlying t with | some (.int k)=>some k | _=>Option.none))=true:=by kernel_rfl
theorem y2k:(Rows.levelSolvesRow.pinned==Rows.levelSolvesRow.pinnedBy)=true:=by kernel_rfl
theorem y2l:(Rows.levelSolvesRow.veiled==(Tryz.f5.params.toList++Rows.levelSolvesSpec.plain.varTypes Tryz.prog++Tryz.f5.resultTypes.toList).any (Tryz.prog.veiledRec ·))=true:=by kernel_rfl
theorem y2m:Rows.levelSolvesRow.veiledFits Tryz.prog Tryz.f5.params.toList (Tryz.f5.params.toList++Rows.levelSolvesSpec.plain.varTypes Tryz.prog++Tryz.f5.resultTypes.toList)=true:=by kernel_rfl
theorem z4x:joinedFacts Tryz.prog 5 Tryz.f5 Rows.levelSolvesSpec Rows.levelSolvesRow=true:=(tt (tt (tt (tt (tt (tt (tt (tt (tt (tt (tt (tt (tt (tt (tt (tt (tt (tt (tt (tt (tt (tt (tt (tt (tt (tt (tt (tt (tt (tt (tt y5t y5u) y5v) y5w) y5x) y5y) y5z) y6a) y6b) y6c) y1r) y1s) y1t) y1u) y1v) y1w) y1x) y1y) y1z) y2a) y2b) y2c) y2d) y2e) y2f) y2g) y2h) y2i) y2j) y2k) y2l) y2m)
theorem levelSolves_named:Tryz.prog.funcNamed "restitch/restitchlaw11.LevelSolves" = some 5:=by kernel_rfl
theorem z4z:Tryz.checked.prog.inits.idxOf? 5=none:=by kernel_rfl
theorem z3t:Tryz.f5.resultTypes=#[4]:=by kernel_rfl
theorem z9c:([27,25].all fun t=>Tryz.prog.readableRec t&&decide (t < Tryz.prog.types.size))=true:=by kernel_rfl
theorem z5a:Rows.levelSolvesRow.wfByText (OpenSpec.ofChange Rows.levelSolvesSpec)=true:=by kernel_rfl
theorem z9b:false=Rows.levelSolvesRow.goesBy Tryz.prog:=by kernel_rfl
theorem z6u:([27,25].all fun u=> !Tryz.prog.wantsStandIn u)=true:=by kernel_rfl
abbrev levelSolves_args:Array Value:=#[.agg #[.slice none 0 0,.slice none 0 0,.slice none 0 0,.slice none 0 0],.slice none 0 0]
theorem z4y (os:Os) (started:os.Started) (H:Type) (enc:TypeId×Value->H) :
  ReturnsInHanded {} Tryz.checked os 5 .any (fun w args=>(Rows.levelSolvesSpec.pre enc Tryz.prog Tryz.f5 [] false w args/\laidMetH Tryz.prog laidAll w)/\sizedMet enc Tryz.prog Tryz.f5 (OpenSpec.ofChange Rows.levelSolvesSpec) false w args)
   (Rows.levelSolvesSpec.post enc Tryz.prog Tryz.f5 false true false false):=by
 refine j5n (C:=Tryz.checked) (X:=fun w _=>laidMetH Tryz.prog laidAll w) (fun _ _ _ B h=>h.of_heap B) own started z4z Tryz.func5
  (ChangeSpec.witness_shaped (enc:=enc) (C:=Tryz.checked) (os:=os) (X:=fun w _=>laidMetH Tryz.prog laidAll w) false (World.laidAll Tryz.prog os laidAll) levelSolves_args 8 (World.laidAll_os _ _ _)
   (World.shaped_of_ZipB (by as_aux_lemma=>kernel_rfl) (by as_aux_lemma=>kernel_rfl)) (by as_aux_lemma=>kernel_rfl) (by as_aux_lemma=>kernel_rfl) (by as_aux_lemma=>kernel_rfl)
   (by rw [y0k];exact x7i os _)) ?_
 intro W base args ds gs before b u s F k
 have a:∀(j:Nat) t v,Tryz.f5.params[j]? = some t->args[j]? = some v->Value.okWide Tryz.prog W .any base t v:=b
 have hW':=u
 obtain ⟨p,q,f,Q,rfl,_,_⟩:=u
 have o:DataW.TrodAll enc Tryz.prog W 0 (fun _=>true) true Tryz.f5.params.toList args.toList ds p:=f
 rw [Tryz.params5] at o a
 obtain ⟨v0,z,d0,d1,p0,S,rfl,rfl,rfl,n,h1⟩:=trodAll_two o
 rw [y0k] at s
 obtain ⟨_,ds',gs',before',i,l⟩:=F
 obtain ⟨pz,qz,g,_,rfl,_,_⟩:=i
 have r:DataW.TrodAll enc Tryz.prog W 0 (fun _=>true) true Tryz.f5.params.toList _ ds' pz:=g
 rw [Tryz.params5] at r
 obtain ⟨I,K,L,M,T,U,E,rfl,rfl,P,g1⟩:=trodAll_two r
 obtain ⟨rfl,rfl⟩:v0=I/\z=K:=by simpa using E
 have y:=List.all_eq_true.1 l
 rw [Tryz.params5] at y
 obtain ⟨cs,c,rfl,m⟩:=x4d (a 0 27 v0 rfl rfl) n
 obtain ⟨R,d⟩:=v0h (a 1 25 z rfl rfl) h1
 have G:=j0s d g1 fun q hq=>of_decide_eq_true (y q (List.mem_append_right _ (List.mem_append_left _ hq)))
 refine (y6d m d G (x4e n) (glob_of k s) (Mem.whole W)).mono fun e W' ⟨J,N⟩=>?_
 subst J
 exact ⟨_,rfl,x7j hW' rfl (fun gs A=>by subst A;rfl) z3t (by rw [Tryz.params5];exact fun t D=>read_of z9c D) N⟩
theorem z6t:Rows.LevelSolvesSaid :=
 OpenClaim.holds_of_wide 5 Tryz.f5 rfl rfl rfl rfl rfl rfl rfl ⟨rfl,rfl,rfl,rfl,rfl⟩ rfl rfl rfl rfl rfl levelSolves_named Tryz.func5 z4x
  (of_decide_eq_true (by as_aux_lemma=>kernel_rfl)) (by unfold Func.isWrapper;first | (rw [if_pos (by decide +kernel)];as_aux_lemma=>kernel_rfl) | (rw [if_neg (by decide +kernel)];exact ⟨rfl,rfl⟩))
  (fun os started H enc _=>z4y os started H enc)
theorem levelSolves_card:Rows.LevelSolvesCardSaid :=
 Claim7.holds_tied_plain_at .later [] [.data,.data,.data,.data,.sentinel,.sentinel,.pinned] true (true,"8dfb172be620e644952a3b3fbef38f53abbde8464159391a13788f707abd56a4") true z6t (fun _ h=>by cases h) z5a (fun _ h=>by cases h) levelSolves_row_tie rfl ⟨rfl,rfl⟩ main_is rfl
  (fun f fn c a=>by
   obtain rfl:f=5:=Option.some.inj (levelSolves_named.symm.trans c) |>.symm
   obtain rfl:fn=Tryz.f5:=(Option.some.inj (Tryz.func5.symm.trans a)).symm
   exact ⟨x7s,fun j t b=>by
    rw [Tryz.params5] at b
    have N:t∈[27,25]:=by simpa using Array.mem_of_getElem? b
    exact (show Tryz.prog.wantsStandIn t=false by simpa using List.all_eq_true.1 z6u t N)⟩)
  z9b
#print axioms levelSolves_card
end Go.Proofs.YtghdfphedgcpdaaGreatDoor
