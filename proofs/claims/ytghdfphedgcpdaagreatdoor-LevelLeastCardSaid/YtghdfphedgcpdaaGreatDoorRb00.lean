/- LevelLeast: for every program and every list of nodes the law returns true: Solve returns a solution, Least accepts it, and each solution has all its nodes; the statement levelLeastCardSaid, as it is given; nothing is assumed beyond it. -/
import Derived.Test.YtghdfphedgcpdaaGreatDoorProg
import Derived.Test.YtghdfphedgcpdaaGreatDoorX03
import Derived.Test.YtghdfphedgcpdaaGreatDoorX08
import Derived.Test.YtghdfphedgcpdaaGreatDoorX12
import Derived.Test.YtghdfphedgcpdaaGreatDoorX13
set_option linter.unusedVariables false
set_option linter.unusedSimpArgs false
namespace Go.Sw
open Go.Proofs
set_option maxRecDepth 20000
set_option maxHeartbeats 4000000
theorem z1d {Φ:Fz} {K:List Res} {w:World} {v0:Value} {l:List Bs} {s:Bs} (rpl:SliceOf RStr Φ 1 v0 l) (hm:Mem Φ K w) :
  Calls Tryz.prog 18 (List.toArray [v0,.string s]) w (fun ee w'=>ee=.returned (.bool (tQ l s))∧Mem Φ K w'):=by
 obtain ⟨p0,c0,rfl,hm0,hn0⟩:=rpl.fm
 refine zN Tryz.func18 Tryz.ntmps18 fun Q hQ a he =>?_
 refine go fun a he =>?_
 refine yG (he.ks [0,1]) hm (fun R mm a w=>∃(i:Nat),mm=l.length - i∧R Φ [(5,.int .i64 ((i:Nat):Int))] [] a w∧(tQ l s=tQ (l.drop i) s)) (l.length - 0) ⟨0,rfl,⟨he.pk,hm⟩,rfl⟩ ?_
 clear hm he
 rintro mm a w ⟨i,hmu,⟨he,hm⟩,hI5⟩ L4 hL4
 by_cases h8:i < l.length
 refine go fun a he =>?_
 obtain ⟨q11,rfl,x12,hx13,cs14,hl15,ha16,hr17⟩:=rpl.el hn0 h8
 obtain rfl:cs14=[.string x12]:=hr17
 by_cases h18:x12=s
 refine zF ?_
 exact yE hm (by rw [hI5,zA hx13,z3r];simp [*])
 refine go fun a he =>?_
 refine hL4 _ _ _ (by subst hmu;omega) ⟨(i+1),rfl,⟨he.pk,hm⟩,?_⟩
 rw [hI5,zA hx13,z3r];simp [*]
 refine zF ?_
 exact yE hm (by rw [hI5,zH h8];rfl)
end Go.Sw

namespace Go.Sw
section
variable {c:Core} {a b l:List Bs} {s x:Bs} {i:Nat}
theorem hasB_in:∀{l:List Bs} {s:Bs},tQ l s=true↔s∈l
 | [],s=>by simp [tQ]
 | y::l,s=>by
  rw [z3r,List.mem_cons]
  by_cases h:y=s
  ·simp [h]
  ·have h2:¬s=y:=fun e=>h e.symm
   simp [h,h2,hasB_in (l:=l)]
theorem gok (h0:zP c=0):GOk (zD c) (zY c):=(yJ h0).gok
theorem q5r (ha:xT c a=true):∀r∈zO c++a,r∈zD c:=fun r hr=>by
 rcases List.mem_append.1 hr with h | h
 ·exact dA r h
 ·exact of_decide_eq_true (List.all_eq_true.1 ha r h)
theorem nH (h0:zP c=0) (ha:xT c a=true):jP (zD c) (zY c) (zO c) (zZ c a)=true :=
 q3o (gok h0) (fun r hr=>List.mem_append_left _ hr) (q5r ha)
theorem y5s (c:Core):cG c=zZ c []:=by rw [cG,zZ,List.append_nil]
theorem y5u (h0:zP c=0):jP (zD c) (zY c) (zO c) (cG c)=true:=by rw [y5s];exact nH h0 rfl
theorem aF (h0:zP c=0):pZ c l=0↔jP (zD c) (zY c) (zO c) l=true:=by
 cases h:jP (zD c) (zY c) (zO c) l
 ·rw [y8u h0 h];simp
 ·rw [y8v h0 h];simp
theorem j4a (h0:zP c=0):pZ c (cG c)=0:=(aF h0).2 (y5u h0)
theorem q0s (h0:zP c=0):(yB (yY (zY c)) (zO c)).length=(cG c).length:=q3b (gok h0) dA
theorem j5u (h0:zP c=0):pK c (cG c)=0:=by rw [pK,if_pos h0,y5u h0,if_pos rfl,if_pos (q0s h0)]
theorem y9z (h0:zP c=0) (hc:pZ c l=0):(pK c l=0)↔((cG c).length=l.length):=by
 rw [pK,if_pos h0,(aF h0).1 hc,if_pos rfl,q0s h0]
 by_cases h:(cG c).length=l.length <;> simp [h]
theorem j5t (h0:zP c=0) (hc:¬pZ c l=0):pK c l=111:=by
 cases h:jP (zD c) (zY c) (zO c) l
 ·exact y9y h0 h
 ·exact absurd ((aF h0).2 h) hc
theorem has_sol (h0:zP c=0) (hc:pZ c l=0) (hx:(cG c)[i]? = some x):tQ l x=true :=
 hasB_in.2 (q3n ((aF h0).1 hc) ((nK (gok h0) dA x).1 (List.mem_of_getElem? hx)))
end
end Go.Sw

namespace Go.Sw
open Go.Proofs.Tryz
open Go.Proofs
set_option maxRecDepth 20000
set_option maxHeartbeats 4000000
theorem y7l {Φ:Fz} {K:List Res} {w:World} {d0:List Value} {c:Core} {v:Value} {l:List Bs} (rpc:RCore Φ d0 c) (rl:SliceOf RStr Φ 1 v l) (G:Glob Φ) (hm:Mem Φ K w) :
  Calls prog 4 (List.toArray [.agg d0.toArray,v]) w (fun ee w'=>ee=.returned (.bool true)∧Mem Φ K w'):=by
 have rpc0_:=rpc
 obtain ⟨p3,c4,p9,c10,p15,c16,p21,c22,rfl,h2,h8,h14,h20,hm5,hn6,hm11,hn12,hm17,hn18,hm23,hn24⟩:=RCore.fm rpc
 obtain ⟨p25,c26,rfl,hmx27,hn28⟩:=rl.fm
 refine zN func4 ntmps4 fun Q hQ a he =>?_
 refine Bx fun b30 w hm a he =>?_
 refine zT call11 (fun w hm a he =>?_) (c:=z2s G (fun _=>yJ) hm)
 refine go fun a he =>?_
 refine st he rfl rfl rfl (qA he rfl call15 (z4s rpc0_ G yJ hm) (fun q33 y34 w hq35 hG36 hm a he =>?_) (fun q33 w hq35 hm a he =>?_))
 obtain ⟨h0,rfl⟩:=q1b hq35
 replace hm:=hm.nf
 refine go fun a he =>?_
 have hm0_:=hm
 clear hm
 obtain ⟨Ψ39,le40,hm,hrow41⟩:=hm0_.freezeRow (i:=0) rfl
 clear hm0_
 replace rpc0_:=RCore.mono _ _ _ _ le40 rpc0_
 replace G:=G.mono le40
 replace rl:=rl.up le40
 replace hm:=hm.nf
 have hsl42:SliceOf RStr Ψ39 1 _ ((cG c)):=SliceOf.strs.2 hrow41
 obtain ⟨p43,c44,hv_,hm45,hn46⟩:=hsl42.form (by decide)
 have hmk_:=hm
 clear hm
 subst hv_
 have hm:=hmk_
 clear hmk_
 refine Qq (fun a he =>?_) (o:=by exact fun he hs=>qF false he rfl rfl rfl)
 refine zT call16 (fun w hm a he =>?_) (c:=((j4a h0)▸mU rpc0_ hsl42 G yJ hm))
 refine Qq (fun a he =>?_) (o:=by exact fun he hs=>qF false he rfl rfl rfl)
 refine zT call17 (fun w hm a he =>?_) (c:=(j5u h0▸tH rpc0_ hsl42 G yJ hm))
 refine Qq (fun a he =>?_) (o:=by exact fun he hs=>qF false he rfl rfl rfl)
 refine zT call16 (fun w hm a he =>?_) (c:=mU rpc0_ rl G yJ hm)
 by_cases h51:(pZ c l)=0
 refine go fun a he =>?_
 refine yG (he.ks [1,2,5,6]) hm (fun R mm a w=>∃(i:Nat),mm=(cG c).length - i∧R Ψ39 [(8,.int .i64 ((i:Nat):Int))] [] a w∧(True)) ((cG c).length - 0) ⟨0,rfl,⟨he.pk,hm⟩,trivial⟩ ?_
 clear hm he
 rintro mm a w ⟨i,hmu,⟨he,hm⟩,hI55⟩ L54 hL54
 by_cases h58:i < ((cG c)).length
 refine go fun a he =>?_
 obtain ⟨q61,rfl,x62,hx63,cs64,hl65,ha66,hr67⟩:=hsl42.el hn46 h58
 obtain rfl:cs64=[.string x62]:=hr67
 refine yH call18 (fun hB68 w hm a he =>?_) (fun hB68 w hm a he =>?_) (c:=z1d (l:=l) rl hm)
 refine go fun a he =>?_
 refine hL54 _ _ _ (by subst hmu;omega) ⟨(i+1),rfl,⟨he.pk,hm⟩,?_⟩
 trivial
 refine zF ?_
 replace hm:=hm.le (le40)
 replace hm:=hm.dl [0]
 rw [has_sol h0 h51 hx63] at hB68;cases hB68
 refine Qq (fun a he =>?_) (o:=by exact fun he hs=>q3t (i:=(((cG c)).length)) (j:=l.length) he rfl rfl)
 refine zT call17 (fun w hm a he =>?_) (c:=tH rpc0_ rl G yJ hm)
 refine Qq (fun a he =>?_) (o:=by exact fun he hs=>pH he rfl rfl)
 refine go fun a he =>?_
 generalize hb73:(decide ((pK c l)=0))=bb72 at he
 cases bb72
 generalize hb75:(decide (((cG c)).length=l.length))=bb74 at he
 cases bb74
 refine Qq (fun a he =>?_) (o:=by exact fun he hs=>pX (v:=.bool true) he rfl rfl rfl (by kernel_rfl))
 refine zF ?_
 replace hm:=hm.le (le40)
 replace hm:=hm.dl [0]
 exact ⟨rfl,hm⟩
 refine Qq (fun a he =>?_) (o:=by exact fun he hs=>pX (v:=.bool false) he rfl rfl rfl (by kernel_rfl))
 refine zF ?_
 replace hm:=hm.le (le40)
 replace hm:=hm.dl [0]
 have hl_:=y9z h0 h51
 simp only [decide_eq_true_eq,decide_eq_false_iff_not] at hb73 hb75
 first | exact absurd (hl_.1 hb73) hb75 | exact absurd (hl_.2 hb75) hb73 | exact absurd (hl_.1 hb75) hb73 | exact absurd (hl_.2 hb73) hb75
 generalize hb77:(decide (((cG c)).length=l.length))=bb76 at he
 cases bb76
 refine Qq (fun a he =>?_) (o:=by exact fun he hs=>pX (v:=.bool false) he rfl rfl rfl (by kernel_rfl))
 refine zF ?_
 replace hm:=hm.le (le40)
 replace hm:=hm.dl [0]
 have hl_:=y9z h0 h51
 simp only [decide_eq_true_eq,decide_eq_false_iff_not] at hb73 hb77
 first | exact absurd (hl_.1 hb73) hb77 | exact absurd (hl_.2 hb77) hb73 | exact absurd (hl_.1 hb77) hb73 | exact absurd (hl_.2 hb73) hb77
 refine Qq (fun a he =>?_) (o:=by exact fun he hs=>pX (v:=.bool true) he rfl rfl rfl (by kernel_rfl))
 refine zF ?_
 replace hm:=hm.le (le40)
 replace hm:=hm.dl [0]
 exact ⟨rfl,hm⟩
 refine zT call17 (fun w hm a he =>?_) (c:=(j5t h0 h51▸tH rpc0_ rl G yJ hm))
 refine Qq (fun a he =>?_) (o:=by exact fun he hs=>jR true he rfl rfl rfl)
 refine zF ?_
 replace hm:=hm.le (le40)
 replace hm:=hm.dl [0]
 exact ⟨rfl,hm⟩
 obtain ⟨hz_,rfl⟩:=z5y hq35
 refine Qq (fun a he =>?_) (o:=by exact fun he hs=>jR true he rfl rfl rfl)
 refine zF ?_
 replace hm:=hm.dl [0]
 exact ⟨rfl,hm⟩
end Go.Sw

namespace Go.Proofs.YtghdfphedgcpdaaGreatDoor
open Go.ChangeShapes Go.WideShapes Go.ChangeAt Go.RowKit Go.Sw
set_option maxRecDepth 100000
theorem tt {a b:Bool} (ha:a=true) (hb:b=true):(a&&b)=true:=by rw [ha,hb];rfl
theorem y7b:Rows.levelLeastRow.wf (OpenSpec.ofChange Rows.levelLeastSpec)=true:=by kernel_rfl
theorem y7c:laidOutB Tryz.prog=true:=by kernel_rfl
theorem y7d:mapsRowed Tryz.prog=true:=by kernel_rfl
theorem y7e:Tryz.f4.params.all (Tryz.prog.readableRec ·)=true:=by kernel_rfl
theorem y7f:namedTie Tryz.prog Rows.levelLeastRow.named Rows.levelLeastSpec.vars=true:=by kernel_rfl
theorem y7g:(Rows.levelLeastRow.stops==[])=true:=by kernel_rfl
theorem y7h:(Tryz.prog.stops==[])=true:=by kernel_rfl
theorem y7i:(Rows.levelLeastRow.knobs==[])=true:=by kernel_rfl
theorem y7j:(Tryz.prog.stopKnobs==[])=true:=by kernel_rfl
theorem y7k:(Rows.levelLeastRow.inPlace==Tryz.prog.inPlace 4)=true:=by kernel_rfl
theorem y1v:(Rows.levelLeastRow.unfollowed==Tryz.prog.unfollowed 4)=true:=by kernel_rfl
theorem y1w:(Rows.levelLeastRow.recurses==Tryz.prog.recurses 4)=true:=by kernel_rfl
theorem y1x:(Rows.levelLeastRow.named==Tryz.prog.varsNamed 4)=true:=by kernel_rfl
theorem y1y:(Rows.levelLeastRow.maps==(Tryz.f4.params.toList++Rows.levelLeastSpec.plain.varTypes Tryz.prog).any (Tryz.prog.mapsRec ·))=true:=by kernel_rfl
theorem y1z:(Rows.levelLeastRow.ifaces==(Tryz.f4.params.toList++Rows.levelLeastSpec.plain.varTypes Tryz.prog).any (Tryz.prog.ifacesRec ·))=true:=by kernel_rfl
theorem y2a:(Rows.levelLeastRow.mapsOut==Tryz.prog.mapsAmong Tryz.f4.resultTypes.toList)=true:=by kernel_rfl
theorem y2b:(Rows.levelLeastRow.loops==(Tryz.f4.params.toList++Rows.levelLeastSpec.plain.varTypes Tryz.prog).any (Tryz.prog.loopsFrom ·))=true:=by kernel_rfl
theorem y2c:(Rows.levelLeastRow.wideKeys==(Tryz.f4.params.toList++Rows.levelLeastSpec.plain.varTypes Tryz.prog++Tryz.f4.resultTypes.toList).any (Tryz.prog.wideKeysFrom ·))=true:=by kernel_rfl
theorem y2d:Rows.levelLeastSpec.vars.all (Tryz.prog.varReadable ·)=true:=by kernel_rfl
theorem y2e:Tryz.f4.resultTypes.all (fun t=>Tryz.prog.readableRec t&&decide (t < Tryz.prog.types.size))=true:=by kernel_rfl
theorem y2f:(Rows.levelLeastRow.ifacesOut==Tryz.f4.resultTypes.toList.any (Tryz.prog.ifacesRec ·))=true:=by kernel_rfl
theorem y2g:(Rows.levelLeastRow.loopsOut==Tryz.f4.resultTypes.toList.any (Tryz.prog.loopsFrom ·))=true:=by kernel_rfl
theorem y2h:(Rows.levelLeastRow.plainKeys==Tryz.prog.plainKeys)=true:=by kernel_rfl
theorem y2i:Rows.levelLeastRow.shortTexts.isNone=true:=by kernel_rfl
theorem y2j:Tryz.prog.stopsHeard=true:=by kernel_rfl
theorem y2k:Tryz.prog.mayEnter=true:=by kernel_rfl
theorem y2l:(Rows.levelLeastRow.lifted==Tryz.prog.liftsFinal)=true:=by kernel_rfl
theorem y2m:(Tryz.prog.make==some Rows.levelLeastRow.make)=true:=by kernel_rfl
theorem y2n:(Rows.levelLeastRow.kinds==(if Rows.levelLeastRow.domain.isEmpty then [] else Tryz.f4.params.toList.map fun t=>match Tryz.prog.underlying t with | some (.int k)=>some k | _=>Option.none))=true:=by kernel_rfl
theorem y2o:(Rows.levelLeastRow.pinned==Rows.levelLeastRow.pinnedBy)=true:=by kernel_rfl
theorem y2p:(Rows.levelLeastRow.veiled==(Tryz.f4.params.toList++Rows.levelLeastSpec.plain.varTypes Tryz.prog++Tryz.f4.resultTypes.toList).any (Tryz.prog.veiledRec ·))=true:=by kernel_rfl
theorem y2q:Rows.levelLeastRow.veiledFits Tryz.prog Tryz.f4.params.toList (Tryz.f4.params.toList++Rows.levelLeastSpec.plain.varTypes Tryz.prog++Tryz.f4.resultTypes.toList)=true:=by kernel_rfl
theorem z1p:joinedFacts Tryz.prog 4 Tryz.f4 Rows.levelLeastSpec Rows.levelLeastRow=true:=(tt (tt (tt (tt (tt (tt (tt (tt (tt (tt (tt (tt (tt (tt (tt (tt (tt (tt (tt (tt (tt (tt (tt (tt (tt (tt (tt (tt (tt (tt (tt y7b y7c) y7d) y7e) y7f) y7g) y7h) y7i) y7j) y7k) y1v) y1w) y1x) y1y) y1z) y2a) y2b) y2c) y2d) y2e) y2f) y2g) y2h) y2i) y2j) y2k) y2l) y2m) y2n) y2o) y2p) y2q)
theorem levelLeast_named:Tryz.prog.funcNamed "restitch/restitchlaw11.LevelLeast" = some 4:=by kernel_rfl
theorem z1r:Tryz.checked.prog.inits.idxOf? 4=none:=by kernel_rfl
theorem uN:Tryz.f4.resultTypes=#[4]:=by kernel_rfl
theorem z8f:([27,25].all fun t=>Tryz.prog.readableRec t&&decide (t < Tryz.prog.types.size))=true:=by kernel_rfl
theorem z1s:Rows.levelLeastRow.wfByText (OpenSpec.ofChange Rows.levelLeastSpec)=true:=by kernel_rfl
theorem z8e:false=Rows.levelLeastRow.goesBy Tryz.prog:=by kernel_rfl
theorem z4e:([27,25].all fun u => !Tryz.prog.wantsStandIn u)=true:=by kernel_rfl
abbrev levelLeast_args:Array Value:=#[.agg #[.slice none 0 0,.slice none 0 0,.slice none 0 0,.slice none 0 0],.slice none 0 0]
theorem z1q (os:Os) (started:os.Started) (H:Type) (enc:TypeId×Value→H) :
  ReturnsInHanded {} Tryz.checked os 4 .any (fun w args=>(Rows.levelLeastSpec.pre enc Tryz.prog Tryz.f4 [] false w args∧laidMetH Tryz.prog laidAll w)∧sizedMet enc Tryz.prog Tryz.f4 (OpenSpec.ofChange Rows.levelLeastSpec) false w args)
   (Rows.levelLeastSpec.post enc Tryz.prog Tryz.f4 false true false false):=by
 refine sX (C:=Tryz.checked) (X:=fun w _=>laidMetH Tryz.prog laidAll w) (fun _ _ _ hh h=>h.of_heap hh) own started z1r Tryz.func4
  (ChangeSpec.witness_shaped (enc:=enc) (C:=Tryz.checked) (os:=os) (X:=fun w _=>laidMetH Tryz.prog laidAll w) false (World.laidAll Tryz.prog os laidAll) levelLeast_args 8 (World.laidAll_os _ _ _)
   (World.shaped_of_ZipB (by as_aux_lemma=>kernel_rfl) (by as_aux_lemma=>kernel_rfl)) (by as_aux_lemma=>kernel_rfl) (by as_aux_lemma=>kernel_rfl) (by as_aux_lemma=>kernel_rfl)
   (by rw [xL];exact sD os _)) ?_
 intro W base args ds gs before hval0 hW hL hsh
 have hval:∀(j:Nat) t v,Tryz.f4.params[j]? = some t→args[j]? = some v→Value.okWide Tryz.prog W .any base t v:=hval0
 have hW':=hW
 obtain ⟨p,q,hA0,hV,rfl,_,_⟩:=hW
 have hA:DataW.TrodAll enc Tryz.prog W 0 (fun _=>true) true Tryz.f4.params.toList args.toList ds p:=hA0
 rw [Tryz.params4] at hA hval
 obtain ⟨v0,v1,d0,d1,p0,p1,rfl,rfl,rfl,h0,h1⟩:=trodAll_two hA
 rw [xL] at hL
 obtain ⟨cs,c,rfl,rpc⟩:=oQ (hval 0 27 v0 rfl rfl) h0
 obtain ⟨l1,rl1⟩:=sO (hval 1 25 v1 rfl rfl) h1
 refine (y7l rpc rl1 (z1c hsh hL) (Mem.whole W)).mono fun e W' ⟨he,hm⟩ =>?_
 subst he
 exact ⟨_,rfl,sF hW' rfl (fun gs hg=>by subst hg;rfl) uN (by rw [Tryz.params4];exact fun t ht=>z2o z8f ht) hm⟩
theorem z4d:Rows.LevelLeastSaid :=
 OpenClaim.holds_of_wide 4 Tryz.f4 rfl rfl rfl rfl rfl rfl rfl ⟨rfl,rfl,rfl,rfl,rfl⟩ rfl rfl rfl rfl rfl levelLeast_named Tryz.func4 z1p
  (of_decide_eq_true (by as_aux_lemma=>kernel_rfl)) (by unfold Func.isWrapper;first | (rw [if_pos (by decide +kernel)];as_aux_lemma=>kernel_rfl) | (rw [if_neg (by decide +kernel)];exact ⟨rfl,rfl⟩))
  (fun os started H enc _=>z1q os started H enc)
theorem levelLeast_card:Rows.LevelLeastCardSaid :=
 Claim7.holds_tied_plain_at .later [] [.data,.data,.data,.data,.sentinel,.sentinel,.pinned] true (true,"8dfb172be620e644952a3b3fbef38f53abbde8464159391a13788f707abd56a4") true z4d (fun _ h=>by cases h) z1s (fun _ h=>by cases h) levelLeast_row_tie rfl ⟨rfl,rfl⟩ z2d rfl
  (fun f fn hf hfn=>by
   obtain rfl:f=4:=Option.some.inj (levelLeast_named.symm.trans hf) |>.symm
   obtain rfl:fn=Tryz.f4:=(Option.some.inj (Tryz.func4.symm.trans hfn)).symm
   exact ⟨sI,fun j t ht=>by
    rw [Tryz.params4] at ht
    have hm:t∈[27,25]:=by simpa using Array.mem_of_getElem? ht
    exact (show Tryz.prog.wantsStandIn t=false by simpa using List.all_eq_true.1 z4e t hm)⟩)
  z8e
#print axioms levelLeast_card
end Go.Proofs.YtghdfphedgcpdaaGreatDoor
