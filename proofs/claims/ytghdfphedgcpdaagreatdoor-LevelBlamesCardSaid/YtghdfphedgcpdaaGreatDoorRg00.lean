/- LevelBlames: for every program, every node and every path the law returns true: Changeable, CheckPath, Depends and the error of Blame answer as the specification does; the statement levelBlamesCardSaid, as it is given; nothing is assumed beyond it. -/
import Derived.Test.YtghdfphedgcpdaaGreatDoorY16
set_option linter.unusedVariables false
set_option linter.unusedSimpArgs false
namespace Go.Proofs.YtghdfphedgcpdaaGreatDoor
open Go.ChangeShapes Go.WideShapes Go.ChangeAt Go.RowKit Go.Sw
set_option maxRecDepth 100000
theorem tt {a b:Bool} (c:a=true) (hb:b=true):(a&&b)=true:=by rw [c,hb];rfl
theorem y5s:Rows.levelBlamesRow.wf (OpenSpec.ofChange Rows.levelBlamesSpec)=true:=by kernel_rfl
theorem y5t:laidOutB Tryz.prog=true:=by kernel_rfl
theorem y5u:mapsRowed Tryz.prog=true:=by kernel_rfl
theorem y5v:Tryz.f8.params.all (Tryz.prog.readableRec ·)=true:=by kernel_rfl
theorem y5w:namedTie Tryz.prog Rows.levelBlamesRow.named Rows.levelBlamesSpec.vars=true:=by kernel_rfl
theorem y5x:(Rows.levelBlamesRow.stops==[])=true:=by kernel_rfl
theorem y5y:(Tryz.prog.stops==[])=true:=by kernel_rfl
theorem y5z:(Rows.levelBlamesRow.knobs==[])=true:=by kernel_rfl
theorem y6a:(Tryz.prog.stopKnobs==[])=true:=by kernel_rfl
theorem y6b:(Rows.levelBlamesRow.inPlace==Tryz.prog.inPlace 8)=true:=by kernel_rfl
theorem y1l:(Rows.levelBlamesRow.unfollowed==Tryz.prog.unfollowed 8)=true:=by kernel_rfl
theorem y1m:(Rows.levelBlamesRow.recurses==Tryz.prog.recurses 8)=true:=by kernel_rfl
theorem y1n:(Rows.levelBlamesRow.named==Tryz.prog.varsNamed 8)=true:=by kernel_rfl
theorem y1o:(Rows.levelBlamesRow.maps==(Tryz.f8.params.toList++Rows.levelBlamesSpec.plain.varTypes Tryz.prog).any (Tryz.prog.mapsRec ·))=true:=by kernel_rfl
theorem y1p:(Rows.levelBlamesRow.ifaces==(Tryz.f8.params.toList++Rows.levelBlamesSpec.plain.varTypes Tryz.prog).any (Tryz.prog.ifacesRec ·))=true:=by kernel_rfl
theorem y1q:(Rows.levelBlamesRow.mapsOut==Tryz.prog.mapsAmong Tryz.f8.resultTypes.toList)=true:=by kernel_rfl
theorem y1r:(Rows.levelBlamesRow.loops==(Tryz.f8.params.toList++Rows.levelBlamesSpec.plain.varTypes Tryz.prog).any (Tryz.prog.loopsFrom ·))=true:=by kernel_rfl
theorem y1s:(Rows.levelBlamesRow.wideKeys==(Tryz.f8.params.toList++Rows.levelBlamesSpec.plain.varTypes Tryz.prog++Tryz.f8.resultTypes.toList).any (Tryz.prog.wideKeysFrom ·))=true:=by kernel_rfl
theorem y1t:Rows.levelBlamesSpec.vars.all (Tryz.prog.varReadable ·)=true:=by kernel_rfl
theorem y1u:Tryz.f8.resultTypes.all (fun t=>Tryz.prog.readableRec t&&decide (t < Tryz.prog.types.size))=true:=by kernel_rfl
theorem y1v:(Rows.levelBlamesRow.ifacesOut==Tryz.f8.resultTypes.toList.any (Tryz.prog.ifacesRec ·))=true:=by kernel_rfl
theorem y1w:(Rows.levelBlamesRow.loopsOut==Tryz.f8.resultTypes.toList.any (Tryz.prog.loopsFrom ·))=true:=by kernel_rfl
theorem y1x:(Rows.levelBlamesRow.plainKeys==Tryz.prog.plainKeys)=true:=by kernel_rfl
theorem y1y:Rows.levelBlamesRow.shortTexts.isNone=true:=by kernel_rfl
theorem y1z:Tryz.prog.stopsHeard=true:=by kernel_rfl
theorem y2a:Tryz.prog.mayEnter=true:=by kernel_rfl
theorem y2b:(Rows.levelBlamesRow.lifted==Tryz.prog.liftsFinal)=true:=by kernel_rfl
theorem y2c:(Tryz.prog.make==some Rows.levelBlamesRow.make)=true:=by kernel_rfl
theorem y2d:(Rows.levelBlamesRow.kinds==(if Rows.levelBlamesRow.domain.isEmpty then [] else Tryz.f8.params.toList.map fun t=>match Tryz.prog.underlying t with | some (.int k)=>some k | _=>Option.none))=true:=by kernel_rfl
theorem y2e:(Rows.levelBlamesRow.pinned==Rows.levelBlamesRow.pinnedBy)=true:=by kernel_rfl
theorem y2f:(Rows.levelBlamesRow.veiled==(Tryz.f8.params.toList++Rows.levelBlamesSpec.plain.varTypes Tryz.prog++Tryz.f8.resultTypes.toList).any (Tryz.prog.veiledRec ·))=true:=by kernel_rfl
theorem y2g:Rows.levelBlamesRow.veiledFits Tryz.prog Tryz.f8.params.toList (Tryz.f8.params.toList++Rows.levelBlamesSpec.plain.varTypes Tryz.prog++Tryz.f8.resultTypes.toList)=true:=by kernel_rfl
theorem z4q:joinedFacts Tryz.prog 8 Tryz.f8 Rows.levelBlamesSpec Rows.levelBlamesRow=true:=(tt (tt (tt (tt (tt (tt (tt (tt (tt (tt (tt (tt (tt (tt (tt (tt (tt (tt (tt (tt (tt (tt (tt (tt (tt (tt (tt (tt (tt (tt (tt y5s y5t) y5u) y5v) y5w) y5x) y5y) y5z) y6a) y6b) y1l) y1m) y1n) y1o) y1p) y1q) y1r) y1s) y1t) y1u) y1v) y1w) y1x) y1y) y1z) y2a) y2b) y2c) y2d) y2e) y2f) y2g)
theorem levelBlames_named:Tryz.prog.funcNamed "restitch/restitchlaw11.LevelBlames" = some 8:=by kernel_rfl
theorem z4s:Tryz.checked.prog.inits.idxOf? 8=none:=by kernel_rfl
theorem z3r:Tryz.f8.resultTypes=#[4]:=by kernel_rfl
theorem z9b:([27,9,25].all fun t=>Tryz.prog.readableRec t&&decide (t < Tryz.prog.types.size))=true:=by kernel_rfl
theorem z4t:Rows.levelBlamesRow.wfByText (OpenSpec.ofChange Rows.levelBlamesSpec)=true:=by kernel_rfl
theorem z9a:false=Rows.levelBlamesRow.goesBy Tryz.prog:=by kernel_rfl
theorem z6q:([27,9,25].all fun u=> !Tryz.prog.wantsStandIn u)=true:=by kernel_rfl
abbrev levelBlames_args:Array Value:=#[.agg #[.slice none 0 0,.slice none 0 0,.slice none 0 0,.slice none 0 0],.string ⟨#[]⟩,.slice none 0 0]
theorem str_arg {W:World} {base:Nat} {v:Value} (h:Value.okWide Tryz.prog W .any base 9 v):∃s:Bs,v=.string s:=by
 cases v
 case string s=>exact ⟨s,rfl⟩
 all_goals (exfalso;simp [Value.okWide,Cell.okWide,Cell.ok,Tryz.underlying9] at h)
theorem z4r (os:Os) (started:os.Started) (H:Type) (enc:TypeId×Value->H) :
  ReturnsInHanded {} Tryz.checked os 8 .any (fun w args=>(Rows.levelBlamesSpec.pre enc Tryz.prog Tryz.f8 [] false w args/\laidMetH Tryz.prog laidAll w)/\sizedMet enc Tryz.prog Tryz.f8 (OpenSpec.ofChange Rows.levelBlamesSpec) false w args)
   (Rows.levelBlamesSpec.post enc Tryz.prog Tryz.f8 false true false false):=by
 refine j0r (C:=Tryz.checked) (X:=fun w _=>laidMetH Tryz.prog laidAll w) (fun _ _ _ s h=>h.of_heap s) own started z4s Tryz.func8
  (ChangeSpec.witness_shaped (enc:=enc) (C:=Tryz.checked) (os:=os) (X:=fun w _=>laidMetH Tryz.prog laidAll w) false (World.laidAll Tryz.prog os laidAll) levelBlames_args 8 (World.laidAll_os _ _ _)
   (World.shaped_of_ZipB (by as_aux_lemma=>kernel_rfl) (by as_aux_lemma=>kernel_rfl)) (by as_aux_lemma=>kernel_rfl) (by as_aux_lemma=>kernel_rfl) (by as_aux_lemma=>kernel_rfl)
   (by rw [y0j];exact x6r os _)) ?_
 intro W base args ds gs before b n m f
 have a:∀(j:Nat) t v,Tryz.f8.params[j]? = some t->args[j]? = some v->Value.okWide Tryz.prog W .any base t v:=b
 have hW':=n
 obtain ⟨p,q,d,z,rfl,_,_⟩:=n
 have l:DataW.TrodAll enc Tryz.prog W 0 (fun _=>true) true Tryz.f8.params.toList args.toList ds p:=d
 rw [Tryz.params8] at l a
 obtain ⟨v0,y,v2,d0,d1,d2,p0,B,D,rfl,rfl,rfl,k,h1,o⟩:=trodAll_three l
 rw [y0j] at m
 obtain ⟨cs,c,rfl,i⟩:=x3p (a 0 27 v0 rfl rfl) k
 obtain ⟨E,rfl⟩:=str_arg (a 1 9 y rfl rfl)
 obtain ⟨A,g⟩:=x9j (a 2 25 v2 rfl rfl) o
 refine (y6c i g (x3q k) (glob_of f m) (Mem.whole W)).mono fun e W' ⟨J,N⟩=>?_
 subst J
 exact ⟨_,rfl,x6s hW' rfl (fun gs r=>by subst r;rfl) z3r (by rw [Tryz.params8];exact fun t u=>read_of z9b u) N⟩
theorem z6p:Rows.LevelBlamesSaid :=
 OpenClaim.holds_of_wide 8 Tryz.f8 rfl rfl rfl rfl rfl rfl rfl ⟨rfl,rfl,rfl,rfl,rfl⟩ rfl rfl rfl rfl rfl levelBlames_named Tryz.func8 z4q
  (of_decide_eq_true (by as_aux_lemma=>kernel_rfl)) (by unfold Func.isWrapper;first | (rw [if_pos (by decide +kernel)];as_aux_lemma=>kernel_rfl) | (rw [if_neg (by decide +kernel)];exact ⟨rfl,rfl⟩))
  (fun os started H enc _=>z4r os started H enc)
theorem levelBlames_card:Rows.LevelBlamesCardSaid :=
 Claim7.holds_tied_plain_at .later [] [.data,.data,.data,.data,.sentinel,.sentinel,.pinned] true (true,"8dfb172be620e644952a3b3fbef38f53abbde8464159391a13788f707abd56a4") true z6p (fun _ h=>by cases h) z4t (fun _ h=>by cases h) levelBlames_row_tie rfl ⟨rfl,rfl⟩ main_is rfl
  (fun f fn c a=>by
   obtain rfl:f=8:=Option.some.inj (levelBlames_named.symm.trans c) |>.symm
   obtain rfl:fn=Tryz.f8:=(Option.some.inj (Tryz.func8.symm.trans a)).symm
   exact ⟨x7b,fun j t b=>by
    rw [Tryz.params8] at b
    have N:t∈[27,9,25]:=by simpa using Array.mem_of_getElem? b
    exact (show Tryz.prog.wantsStandIn t=false by simpa using List.all_eq_true.1 z6q t N)⟩)
  z9a
#print axioms levelBlames_card
end Go.Proofs.YtghdfphedgcpdaaGreatDoor
