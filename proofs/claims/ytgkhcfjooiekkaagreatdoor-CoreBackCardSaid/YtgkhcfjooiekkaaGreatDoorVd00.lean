/- CoreBack: the statement coreBackCardSaid, of any program, as it is given; nothing is assumed beyond it. -/
import Derived.Test.YtgkhcfjooiekkaaGreatDoorProg
import Derived.Test.YtgkhcfjooiekkaaGreatDoorX03
import Derived.Test.YtgkhcfjooiekkaaGreatDoorX04
import Derived.Test.YtgkhcfjooiekkaaGreatDoorX15
set_option linter.unusedVariables false
set_option linter.unusedSimpArgs false
namespace Go.Sw
open Go.Proofs.Tryz
open Go.Proofs
set_option maxRecDepth 20000
set_option maxHeartbeats 4000000
theorem coreBack_ok {Φ:Fz} {K:List Res} {w:World} {d0:List Value} {c:Core} (rpc:RCore Φ d0 c) (G:Glob Φ) (T_:Tabs Φ) (hm:Mem Φ K w) :
  Calls Tryz.prog 9 (List.toArray [.agg d0.toArray]) w (fun ee w'=>ee=.returned (.bool true)∧Mem Φ K w'):=by
 obtain ⟨p3,c4,p9,c10,p15,c16,p21,c22,rfl,h2,h8,h14,h20,hm5,hn6,hm11,hn12,hm17,hn18,hm23,hn24⟩:=RCore.fm rpc
 refine z0m func9 ntmps9 fun Q hQ a he =>?_
 refine Bx he hm fun b26 w hm a he =>?_
 refine z0x call18 he hm (fun w hm a he =>?_) (c:=sane_ok G T_ hm)
 refine z0x call23 he hm (fun w hm a he =>?_) (c:=print_ok rpc G T_ hm)
 refine go he hm fun a he =>?_
 by_cases h31:(z6q c).2=0
 refine z2n call25 he hm (fun y33 w hG34 hm a he =>?_) (c:=parseBack_ok rpc h31 G hm)
 obtain ⟨Ψ35,d36⟩:=y33
 obtain ⟨le37,hr38⟩:=hG34
 simp only at le37 hr38 hm he
 replace rpc:=RCore.mono _ _ _ _ le37 rpc
 replace G:=G.mono le37
 replace T_:=Tabs.mono T_ le37
 replace hm:=hm.nf
 obtain ⟨p41,c42,p47,c48,p53,c54,p59,c60,rfl,h40,h46,h52,h58,hm43,hn44,hm49,hn50,hm55,hn56,hm61,hn62⟩:=RCore.fm hr38
 refine Alc he hm fun b63 w hm a he =>?_
 refine Sto 0 he hm fun w hm a he =>?_
 refine Qq he hm (fun a he =>?_) (o:=by exact fun _ _ _ he hs=>z4n true he rfl rfl rfl)
 refine Qq he hm (fun a he =>?_) (o:=by exact fun _ _ _ he hs=>z4n true he rfl rfl rfl)
 refine z0x call27 he hm (fun w hm a he =>?_) (c:=sameT_core rpc hr38 rfl hm)
 refine go he hm fun a he =>?_
 replace hm:=hm.le (le37)
 replace hm:=hm.dl [1,0]
 refine Ret1 hQ he hm ?_
 exact ⟨by rfl,hm⟩
 refine go he hm fun a he =>?_
 have hz_:=print_err h31
 refine go he hm fun a he =>?_
 replace hm:=hm.dl [0]
 refine Ret1 hQ he hm ?_
 exact ⟨by simp [hz_],hm⟩
end Go.Sw

namespace Go.Proofs.YtgkhcfjooiekkaaGreatDoor
open Go.ChangeShapes Go.WideShapes Go.ChangeAt Go.RowKit Go.Sw
set_option maxRecDepth 100000
theorem tt {a b:Bool} (ha:a=true) (hb:b=true):(a&&b)=true:=by rw [ha,hb];rfl
theorem coreBack_k0:Rows.coreBackRow.wf (OpenSpec.ofChange Rows.coreBackSpec)=true:=by kernel_rfl
theorem coreBack_k1:laidOutB Tryz.prog=true:=by kernel_rfl
theorem coreBack_k2:mapsRowed Tryz.prog=true:=by kernel_rfl
theorem coreBack_k3:Tryz.f9.params.all (Tryz.prog.readableRec ·)=true:=by kernel_rfl
theorem coreBack_k4:namedTie Tryz.prog Rows.coreBackRow.named Rows.coreBackSpec.vars=true:=by kernel_rfl
theorem coreBack_k5:(Rows.coreBackRow.stops==[])=true:=by kernel_rfl
theorem coreBack_k6:(Tryz.prog.stops==[])=true:=by kernel_rfl
theorem coreBack_k7:(Rows.coreBackRow.knobs==[])=true:=by kernel_rfl
theorem coreBack_k8:(Tryz.prog.stopKnobs==[])=true:=by kernel_rfl
theorem coreBack_k9:(Rows.coreBackRow.inPlace==Tryz.prog.inPlace 9)=true:=by kernel_rfl
theorem coreBack_k10:(Rows.coreBackRow.unfollowed==Tryz.prog.unfollowed 9)=true:=by kernel_rfl
theorem coreBack_k11:(Rows.coreBackRow.recurses==Tryz.prog.recurses 9)=true:=by kernel_rfl
theorem coreBack_k12:(Rows.coreBackRow.named==Tryz.prog.varsNamed 9)=true:=by kernel_rfl
theorem coreBack_k13:(Rows.coreBackRow.maps==(Tryz.f9.params.toList++Rows.coreBackSpec.plain.varTypes Tryz.prog).any (Tryz.prog.mapsRec ·))=true:=by kernel_rfl
theorem coreBack_k14:(Rows.coreBackRow.ifaces==(Tryz.f9.params.toList++Rows.coreBackSpec.plain.varTypes Tryz.prog).any (Tryz.prog.ifacesRec ·))=true:=by kernel_rfl
theorem coreBack_k15:(Rows.coreBackRow.mapsOut==Tryz.prog.mapsAmong Tryz.f9.resultTypes.toList)=true:=by kernel_rfl
theorem coreBack_k16:(Rows.coreBackRow.loops==(Tryz.f9.params.toList++Rows.coreBackSpec.plain.varTypes Tryz.prog).any (Tryz.prog.loopsFrom ·))=true:=by kernel_rfl
theorem coreBack_k17:(Rows.coreBackRow.wideKeys==(Tryz.f9.params.toList++Rows.coreBackSpec.plain.varTypes Tryz.prog++Tryz.f9.resultTypes.toList).any (Tryz.prog.wideKeysFrom ·))=true:=by kernel_rfl
theorem coreBack_k18:Rows.coreBackSpec.vars.all (Tryz.prog.varReadable ·)=true:=by kernel_rfl
theorem coreBack_k19:Tryz.f9.resultTypes.all (fun t=>Tryz.prog.readableRec t&&decide (t < Tryz.prog.types.size))=true:=by kernel_rfl
theorem coreBack_k20:(Rows.coreBackRow.ifacesOut==Tryz.f9.resultTypes.toList.any (Tryz.prog.ifacesRec ·))=true:=by kernel_rfl
theorem coreBack_k21:(Rows.coreBackRow.loopsOut==Tryz.f9.resultTypes.toList.any (Tryz.prog.loopsFrom ·))=true:=by kernel_rfl
theorem coreBack_k22:(Rows.coreBackRow.plainKeys==Tryz.prog.plainKeys)=true:=by kernel_rfl
theorem coreBack_k23:Rows.coreBackRow.shortTexts.isNone=true:=by kernel_rfl
theorem coreBack_k24:Tryz.prog.stopsHeard=true:=by kernel_rfl
theorem coreBack_k25:Tryz.prog.mayEnter=true:=by kernel_rfl
theorem coreBack_k26:(Rows.coreBackRow.lifted==Tryz.prog.liftsFinal)=true:=by kernel_rfl
theorem coreBack_k27:(Tryz.prog.make==some Rows.coreBackRow.make)=true:=by kernel_rfl
theorem coreBack_k28:(Rows.coreBackRow.kinds==(if Rows.coreBackRow.domain.isEmpty then [] else Tryz.f9.params.toList.map fun t=>match Tryz.prog.underlying t with | some (.int k)=>some k | _=>Option.none))=true:=by kernel_rfl
theorem coreBack_k29:(Rows.coreBackRow.pinned==Rows.coreBackRow.pinnedBy)=true:=by kernel_rfl
theorem coreBack_k30:(Rows.coreBackRow.veiled==(Tryz.f9.params.toList++Rows.coreBackSpec.plain.varTypes Tryz.prog++Tryz.f9.resultTypes.toList).any (Tryz.prog.veiledRec ·))=true:=by kernel_rfl
theorem coreBack_k31:Rows.coreBackRow.veiledFits Tryz.prog Tryz.f9.params.toList (Tryz.f9.params.toList++Rows.coreBackSpec.plain.varTypes Tryz.prog++Tryz.f9.resultTypes.toList)=true:=by kernel_rfl
theorem coreBack_closed:joinedFacts Tryz.prog 9 Tryz.f9 Rows.coreBackSpec Rows.coreBackRow=true:=(tt (tt (tt (tt (tt (tt (tt (tt (tt (tt (tt (tt (tt (tt (tt (tt (tt (tt (tt (tt (tt (tt (tt (tt (tt (tt (tt (tt (tt (tt (tt coreBack_k0 coreBack_k1) coreBack_k2) coreBack_k3) coreBack_k4) coreBack_k5) coreBack_k6) coreBack_k7) coreBack_k8) coreBack_k9) coreBack_k10) coreBack_k11) coreBack_k12) coreBack_k13) coreBack_k14) coreBack_k15) coreBack_k16) coreBack_k17) coreBack_k18) coreBack_k19) coreBack_k20) coreBack_k21) coreBack_k22) coreBack_k23) coreBack_k24) coreBack_k25) coreBack_k26) coreBack_k27) coreBack_k28) coreBack_k29) coreBack_k30) coreBack_k31)
theorem coreBack_named:Tryz.prog.funcNamed "restitch/restitchlaw08.CoreBack" = some 9:=by kernel_rfl
theorem coreBack_noInit:Tryz.checked.prog.inits.idxOf? 9=none:=by kernel_rfl
theorem coreBack_results:Tryz.f9.resultTypes=#[4]:=by kernel_rfl
theorem coreBack_read:([27].all fun t=>Tryz.prog.readableRec t&&decide (t < Tryz.prog.types.size))=true:=by kernel_rfl
theorem coreBack_wfText:Rows.coreBackRow.wfByText (OpenSpec.ofChange Rows.coreBackSpec)=true:=by kernel_rfl
theorem coreBack_goes:false=Rows.coreBackRow.goesBy Tryz.prog:=by kernel_rfl
theorem coreBack_stand:([27].all fun u => !Tryz.prog.wantsStandIn u)=true:=by kernel_rfl
abbrev coreBack_args:Array Value:=#[.agg #[.slice none 0 0,.slice none 0 0,.slice none 0 0,.slice none 0 0]]
theorem coreBack_lifted (os:Os) (started:os.Started) (H:Type) (enc:TypeId×Value→H) :
  ReturnsInHanded {} Tryz.checked os 9 .any (fun w args=>(Rows.coreBackSpec.pre enc Tryz.prog Tryz.f9 [] false w args∧laidMetH Tryz.prog laidAll w)∧sizedMet enc Tryz.prog Tryz.f9 (OpenSpec.ofChange Rows.coreBackSpec) false w args)
   (Rows.coreBackSpec.post enc Tryz.prog Tryz.f9 false true false false):=by
 refine wrap_shaped (C:=Tryz.checked) (X:=fun w _=>laidMetH Tryz.prog laidAll w) (fun _ _ _ hh h=>h.of_heap hh) own started coreBack_noInit Tryz.func9
  (ChangeSpec.witness_shaped (enc:=enc) (C:=Tryz.checked) (os:=os) (X:=fun w _=>laidMetH Tryz.prog laidAll w) false (World.laidAll Tryz.prog os laidAll) coreBack_args 9 (World.laidAll_os _ _ _)
   (World.shaped_of_ZipB (by as_aux_lemma=>kernel_rfl) (by as_aux_lemma=>kernel_rfl)) (by as_aux_lemma=>kernel_rfl) (by as_aux_lemma=>kernel_rfl) (by as_aux_lemma=>kernel_rfl)
   (by rw [laidH_plain];exact laid_met os _)) ?_
 intro W base args ds gs before hval0 hW hL hsh
 have hval:∀(j:Nat) t v,Tryz.f9.params[j]? = some t→args[j]? = some v→Value.okWide Tryz.prog W .any base t v:=hval0
 have hW':=hW
 obtain ⟨p,q,hA0,hV,rfl,_,_⟩:=hW
 have hA:DataW.TrodAll enc Tryz.prog W 0 (fun _=>true) true Tryz.f9.params.toList args.toList ds p:=hA0
 rw [Tryz.params9] at hA hval
 obtain ⟨v0,d0,rfl,rfl,h0⟩:=trodAll_one hA
 rw [laidH_plain] at hL
 obtain ⟨cs,c,rfl,rpc⟩:=core_arg (hval 0 27 v0 rfl rfl) h0
 refine (coreBack_ok rpc (glob_of hsh hL) (tabs_of hL) (Mem.whole W)).mono fun e W' ⟨he,hm⟩ =>?_
 subst he
 exact ⟨_,rfl,law_post hW' rfl (fun gs hg=>by subst hg;rfl) coreBack_results (by rw [Tryz.params9];exact fun t ht=>read_of coreBack_read ht) hm⟩
theorem coreBack_holds:Rows.CoreBackSaid :=
 OpenClaim.holds_of_wide 9 Tryz.f9 rfl rfl rfl rfl rfl rfl rfl ⟨rfl,rfl,rfl,rfl,rfl⟩ rfl rfl rfl rfl rfl coreBack_named Tryz.func9 coreBack_closed
  (of_decide_eq_true (by as_aux_lemma=>kernel_rfl)) (by unfold Func.isWrapper;first | (rw [if_pos (by decide +kernel)];as_aux_lemma=>kernel_rfl) | (rw [if_neg (by decide +kernel)];exact ⟨rfl,rfl⟩))
  (fun os started H enc _=>coreBack_lifted os started H enc)
theorem coreBack_card:Rows.CoreBackCardSaid :=
 Claim7.holds_tied_plain_at .later [] [.data,.data,.data,.data,.sentinel,.sentinel,.pinned] true (true,"455426ae17f5cebd1e869bbd2c7c15e1646e82f384eadf6ce8080b103650fe81") true coreBack_holds (fun _ h=>by cases h) coreBack_wfText (fun _ h=>by cases h) coreBack_row_tie rfl ⟨rfl,rfl⟩ main_is rfl
  (fun f fn hf hfn=>by
   obtain rfl:f=9:=Option.some.inj (coreBack_named.symm.trans hf) |>.symm
   obtain rfl:fn=Tryz.f9:=(Option.some.inj (Tryz.func9.symm.trans hfn)).symm
   exact ⟨looks_is,fun j t ht=>by
    rw [Tryz.params9] at ht
    have hm:t∈[27]:=by simpa using Array.mem_of_getElem? ht
    exact (show Tryz.prog.wantsStandIn t=false by simpa using List.all_eq_true.1 coreBack_stand t hm)⟩)
  coreBack_goes
#print axioms coreBack_card
end Go.Proofs.YtgkhcfjooiekkaaGreatDoor
