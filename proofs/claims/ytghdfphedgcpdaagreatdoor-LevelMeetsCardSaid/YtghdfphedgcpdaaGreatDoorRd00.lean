/- LevelMeets: for every program and every two lists of nodes the law returns true: what is in two solutions made by Forced is a solution; the statement levelMeetsCardSaid, as it is given; nothing is assumed beyond it. -/
import Derived.Test.YtghdfphedgcpdaaGreatDoorProg
import Derived.Test.YtghdfphedgcpdaaGreatDoorX03
import Derived.Test.YtghdfphedgcpdaaGreatDoorX08
import Derived.Test.YtghdfphedgcpdaaGreatDoorX12
import Derived.Test.YtghdfphedgcpdaaGreatDoorX13
set_option linter.unusedVariables false
set_option linter.unusedSimpArgs false
namespace Go.Sw
open Go.Proofs
set_option maxRecDepth 20000
set_option maxHeartbeats 4000000
theorem z1d {Φ:Fz} {K:List Res} {w:World} {v0:Value} {l:List Bs} {s:Bs} (rpl:SliceOf RStr Φ 1 v0 l) (hm:Mem Φ K w) :
  Calls Tryz.prog 18 (List.toArray [v0,.string s]) w (fun ee w'=>ee=.returned (.bool (tQ l s))∧Mem Φ K w'):=by
 obtain ⟨p0,c0,rfl,hm0,hn0⟩:=rpl.fm
 refine zN Tryz.func18 Tryz.ntmps18 fun Q hQ a he =>?_
 refine go fun a he =>?_
 refine yG (he.ks [0,1]) hm (fun R mm a w=>∃(i:Nat),mm=l.length - i∧R Φ [(5,.int .i64 ((i:Nat):Int))] [] a w∧(tQ l s=tQ (l.drop i) s)) (l.length - 0) ⟨0,rfl,⟨he.pk,hm⟩,rfl⟩ ?_
 clear hm he
 rintro mm a w ⟨i,hmu,⟨he,hm⟩,hI5⟩ L4 hL4
 by_cases h8:i < l.length
 refine go fun a he =>?_
 obtain ⟨q11,rfl,x12,hx13,cs14,hl15,ha16,hr17⟩:=rpl.el hn0 h8
 obtain rfl:cs14=[.string x12]:=hr17
 by_cases h18:x12=s
 refine zF ?_
 exact yE hm (by rw [hI5,zA hx13,z3r];simp [*])
 refine go fun a he =>?_
 refine hL4 _ _ _ (by subst hmu;omega) ⟨(i+1),rfl,⟨he.pk,hm⟩,?_⟩
 rw [hI5,zA hx13,z3r];simp [*]
 refine zF ?_
 exact yE hm (by rw [hI5,zH h8];rfl)
end Go.Sw

namespace Go.Sw
section
variable {c:Core} {a b l:List Bs} {s x:Bs} {i:Nat}
theorem hasB_in:∀{l:List Bs} {s:Bs},tQ l s=true↔s∈l
 | [],s=>by simp [tQ]
 | y::l,s=>by
  rw [z3r,List.mem_cons]
  by_cases h:y=s
  ·simp [h]
  ·have h2:¬s=y:=fun e=>h e.symm
   simp [h,h2,hasB_in (l:=l)]
theorem gok (h0:zP c=0):GOk (zD c) (zY c):=(yJ h0).gok
theorem q5r (ha:xT c a=true):∀r∈zO c++a,r∈zD c:=fun r hr=>by
 rcases List.mem_append.1 hr with h | h
 ·exact dA r h
 ·exact of_decide_eq_true (List.all_eq_true.1 ha r h)
theorem nH (h0:zP c=0) (ha:xT c a=true):jP (zD c) (zY c) (zO c) (zZ c a)=true :=
 q3o (gok h0) (fun r hr=>List.mem_append_left _ hr) (q5r ha)
theorem aF (h0:zP c=0):pZ c l=0↔jP (zD c) (zY c) (zO c) l=true:=by
 cases h:jP (zD c) (zY c) (zO c) l
 ·rw [y8u h0 h];simp
 ·rw [y8v h0 h];simp
theorem nV (h0:zP c=0) (ha:xT c a=true):pZ c (zZ c a)=0:=(aF h0).2 (nH h0 ha)
theorem q8i (h0:zP c=0) (ha:xT c a=true) (hb:xT c b=true):pZ c ((zZ c a).filter (tQ (zZ c b)))=0:=by
 rw [aF h0,cH]
 obtain ⟨_,a2,a3⟩:=(cH _ _ _ _).1 (nH h0 ha)
 obtain ⟨_,b2,b3⟩:=(cH _ _ _ _).1 (nH h0 hb)
 refine ⟨?_,fun r hr=>List.mem_filter.2 ⟨a2 r hr,hasB_in.2 (b2 r hr)⟩,fun x y hxy hx =>?_⟩
 ·have key:∀p:Bs→Bool,gP (zD c) ((zZ c a).filter p)=(zZ c a).filter p:=fun p=>by rw [zZ,jO,List.filter_filter];exact oX _ _
  exact key _
 ·obtain ⟨h1,h2⟩:=List.mem_filter.1 hx
  exact List.mem_filter.2 ⟨a3 x y hxy h1,hasB_in.2 (b3 x y hxy (hasB_in.1 h2))⟩
theorem mV {r:List Bs} (h:mD c l=.ok r):zP c=0∧xT c l=true∧r=zZ c l:=by
 unfold mD at h
 by_cases h0:zP c=0
 ·rw [if_pos h0] at h
  by_cases ha:xT c l=true
  ·rw [if_pos ha] at h;cases h;exact ⟨h0,ha,rfl⟩
  ·rw [if_neg ha] at h;cases h
 ·rw [if_neg h0] at h;cases h
theorem gM {e:Int} (h:mD c l=.error e):¬e=0:=by
 unfold mD at h
 by_cases h0:zP c=0
 ·rw [if_pos h0] at h
  by_cases ha:xT c l=true
  ·rw [if_pos ha] at h;cases h
  ·rw [if_neg ha] at h;cases h;decide
 ·rw [if_neg h0] at h;cases h;exact h0
end
end Go.Sw

namespace Go.Sw
open Go.Proofs.Tryz
open Go.Proofs
set_option maxRecDepth 20000
set_option maxHeartbeats 4000000
theorem y7w {Φ:Fz} {K:List Res} {w:World} {d0:List Value} {c:Core} {va vb:Value} {la lb:List Bs} (rpc:RCore Φ d0 c) (ra:SliceOf RStr Φ 1 va la) (rb:SliceOf RStr Φ 1 vb lb) (hlal_:la.length≤8796093022208) (hlbl_:lb.length≤8796093022208) (G:Glob Φ) (hm:Mem Φ K w) :
  Calls prog 6 (List.toArray [.agg d0.toArray,va,vb]) w (fun ee w'=>ee=.returned (.bool true)∧Mem Φ K w'):=by
 have rpc0_:=rpc
 obtain ⟨p3,c4,p9,c10,p15,c16,p21,c22,rfl,h2,h8,h14,h20,hm5,hn6,hm11,hn12,hm17,hn18,hm23,hn24⟩:=RCore.fm rpc
 obtain ⟨p25,c26,rfl,hmx27,hn28⟩:=ra.fm
 obtain ⟨p29,c30,rfl,hmx31,hn32⟩:=rb.fm
 refine zN func6 ntmps6 fun Q hQ a he =>?_
 refine Bx fun b34 w hm a he =>?_
 refine zT call11 (fun w hm a he =>?_) (c:=z2s G (fun _=>yJ) hm)
 refine go fun a he =>?_
 refine st he rfl rfl rfl (qA he rfl call20 (kE rpc0_ ra hlal_ G yJ hm) (fun q37 y38 w hq39 hG40 hm a he =>?_) (fun q37 w hq39 hm a he =>?_))
 obtain ⟨h0,hina_,rfl⟩:=mV hq39
 replace hm:=hm.nf
 refine go fun a he =>?_
 refine st he rfl rfl rfl (qA he rfl call20 (kE rpc0_ rb hlbl_ G yJ hm) (fun q42 y43 w hq44 hG45 hm a he =>?_) (fun q42 w hq44 hm a he =>?_))
 obtain ⟨h0_,hinb_,rfl⟩:=mV hq44
 replace hm:=hm.nf
 refine go fun a he =>?_
 have hm0_:=hm
 clear hm
 obtain ⟨Ψ48,le49,hm,hrow50⟩:=hm0_.freezeRow (i:=1) rfl
 clear hm0_
 replace rpc0_:=RCore.mono _ _ _ _ le49 rpc0_
 replace G:=G.mono le49
 replace rb:=rb.up le49
 replace hm:=hm.nf
 have hsl51:SliceOf RStr Ψ48 1 _ ((zZ c la)):=SliceOf.strs.2 hrow50
 obtain ⟨p52,c53,hv_,hm54,hn55⟩:=hsl51.form (by decide)
 have hmk_:=hm
 clear hm
 subst hv_
 have hm:=hmk_
 clear hmk_
 have hm0_:=hm
 clear hm
 obtain ⟨Ψ56,le57,hm,hrow58⟩:=hm0_.freezeRow (i:=0) rfl
 clear hm0_
 replace rpc0_:=RCore.mono _ _ _ _ le57 rpc0_
 replace G:=G.mono le57
 replace rb:=rb.up le57
 replace hsl51:=hsl51.up le57
 replace hm:=hm.nf
 have hsl59:SliceOf RStr Ψ56 1 _ ((zZ c lb)):=SliceOf.strs.2 hrow58
 obtain ⟨p60,c61,hv_,hm62,hn63⟩:=hsl59.form (by decide)
 have hmk_:=hm
 clear hm
 subst hv_
 have hm:=hmk_
 clear hmk_
 refine Qq (fun a he =>?_) (o:=by exact fun he hs=>qF false he rfl rfl rfl)
 refine Qq (fun a he =>?_) (o:=by exact fun he hs=>qF false he rfl rfl rfl)
 refine go fun a he =>?_
 replace hm:=hm.nilRow 9 1
 replace hm:=hm.nf
 refine yG (he.ks [3,7,8,10]) hm (fun R mm a w=>∃(i:Nat) (u:Value) (acc:List Bs),mm=(zZ c la).length - i∧R Ψ56 [(12,u),(13,.int .i64 ((i:Nat):Int))] [(0,.gs (u) 9 1 (strs acc))] a w∧(((zZ c la).filter (tQ (zZ c lb)))=acc++((zZ c la).drop i).filter (tQ (zZ c lb)))) ((zZ c la).length - 0) ⟨0,.slice none 0 0,[],rfl,⟨he.pk,hm⟩,rfl⟩ ?_
 clear hm he
 rintro mm a w ⟨i,u,acc,hmu,⟨he,hm⟩,hI68⟩ L67 hL67
 replace hm:=hm.nf
 by_cases h71:i < ((zZ c la)).length
 refine go fun a he =>?_
 have hmk_:=hm
 have hek_:=he
 clear hm he
 obtain ⟨q74,rfl⟩:=hn55 (wO h71)
 have hm:=hmk_
 have he:=hek_
 clear hmk_ hek_
 obtain ⟨x75,hx76⟩:=yF h71
 obtain ⟨cs77,hl78,ha79,hr80⟩:=hsl51.elem hx76
 obtain rfl:cs77=[.string x75]:=hr80
 refine yH call18 (fun hB81 w hm a he =>?_) (fun hB81 w hm a he =>?_) (c:=z1d (l:=(zZ c lb)) hsl59 hm)
 refine kW fun v82 w hm a he =>?_
 refine wL 1 vV (fun v83 w hm a he =>?_) (hb:=by have hq_:=congrArg List.length hI68;have hz_:=List.length_filter_le (tQ (zZ c lb)) (zZ c la);have hn_:=uT (zD c) (yB (yY (zY c)) (zO c++la));have hL_:=(yJ h0).nl;rw [zA hx76,List.filter_cons,if_pos hB81] at hq_;simp only [List.length_append,List.length_cons,yA,List.length_nil] at hq_ ⊢;rw [zZ] at hz_ hq_;unfold zZ at *;omega)
 replace hm:Mem Ψ56 (.gs (v82) 9 1 [.string x75]::.gs (v83) 9 1 (strs (acc++[x75]))::.blk b34 (ob [.slice p3 c.datas.length c4,.slice p9 c.inputs.length c10,.slice p15 c.funs.length c16,.slice p21 c.outputs.length c22] 27)::K) w:=by rw [qK] at hm;exact hm
 refine go fun a he =>?_
 replace hm:=hm.dl [0]
 refine hL67 _ _ _ (by subst hmu;omega) ⟨(i+1),(v83),((acc++[x75])),rfl,⟨he.pk,hm⟩,?_⟩
 rw [hI68,zA hx76,List.filter_cons,if_pos hB81];simp
 refine go fun a he =>?_
 refine hL67 _ _ _ (by subst hmu;omega) ⟨(i+1),(u),(acc),rfl,⟨he.pk,hm⟩,?_⟩
 rw [hI68,zA hx76,List.filter_cons,if_neg (by rw [hB81];simp)]
 refine go fun a he =>?_
 have hbo_:=hI68
 rw [zH h71,List.filter_nil,List.append_nil] at hbo_
 rw [← hbo_] at hm
 have hm0_:=hm
 clear hm
 obtain ⟨Ψ85,le86,hm,hrow87⟩:=hm0_.freezeRow (i:=0) rfl
 clear hm0_
 replace rpc0_:=RCore.mono _ _ _ _ le86 rpc0_
 replace G:=G.mono le86
 replace rb:=rb.up le86
 replace hsl51:=hsl51.up le86
 replace hsl59:=hsl59.up le86
 replace hm:=hm.nf
 have hsl88:SliceOf RStr Ψ85 1 _ (((zZ c la).filter (tQ (zZ c lb)))):=SliceOf.strs.2 hrow87
 obtain ⟨p89,c90,hv_,hm91,hn92⟩:=hsl88.form (by decide)
 have hmk_:=hm
 clear hm
 subst hv_
 have hm:=hmk_
 clear hmk_
 refine zT call16 (fun w hm a he =>?_) (c:=((nV h0 hina_)▸mU rpc0_ hsl51 G yJ hm))
 refine Qq (fun a he =>?_) (o:=by exact fun he hs=>jR true he rfl rfl rfl)
 refine zT call16 (fun w hm a he =>?_) (c:=((nV h0_ hinb_)▸mU rpc0_ hsl59 G yJ hm))
 refine Qq (fun a he =>?_) (o:=by exact fun he hs=>jR true he rfl rfl rfl)
 refine zT call16 (fun w hm a he =>?_) (c:=((q8i h0 hina_ hinb_)▸mU rpc0_ hsl88 G yJ hm))
 refine Qq (fun a he =>?_) (o:=by exact fun he hs=>jR true he rfl rfl rfl)
 refine zF ?_
 replace hm:=hm.le (((le49).trans le57).trans le86)
 replace hm:=hm.dl [0]
 exact ⟨rfl,hm⟩
 have hzq42_:=gM hq44
 refine go fun a he =>?_
 have hm0_:=hm
 clear hm
 obtain ⟨Ψ95,le96,hm,hrow97⟩:=hm0_.freezeRow (i:=0) rfl
 clear hm0_
 replace rpc0_:=RCore.mono _ _ _ _ le96 rpc0_
 replace G:=G.mono le96
 replace rb:=rb.up le96
 replace hm:=hm.nf
 have hsl98:SliceOf RStr Ψ95 1 _ ((zZ c la)):=SliceOf.strs.2 hrow97
 obtain ⟨p99,c100,hv_,hm101,hn102⟩:=hsl98.form (by decide)
 have hmk_:=hm
 clear hm
 subst hv_
 have hm:=hmk_
 clear hmk_
 refine Qq (fun a he =>?_) (o:=by exact fun he hs=>qF false he rfl rfl rfl)
 refine zF ?_
 replace hm:=hm.le (le96)
 replace hm:=hm.dl [0]
 exact ⟨rfl,hm⟩
 have hzq37_:=gM hq39
 refine go fun a he =>?_
 refine st he rfl rfl rfl (qA he rfl call20 (kE rpc0_ rb hlbl_ G yJ hm) (fun q105 y106 w hq107 hG108 hm a he =>?_) (fun q105 w hq107 hm a he =>?_))
 obtain ⟨h0,hinb_,rfl⟩:=mV hq107
 replace hm:=hm.nf
 refine go fun a he =>?_
 have hm0_:=hm
 clear hm
 obtain ⟨Ψ111,le112,hm,hrow113⟩:=hm0_.freezeRow (i:=0) rfl
 clear hm0_
 replace rpc0_:=RCore.mono _ _ _ _ le112 rpc0_
 replace G:=G.mono le112
 replace hm:=hm.nf
 have hsl114:SliceOf RStr Ψ111 1 _ ((zZ c lb)):=SliceOf.strs.2 hrow113
 obtain ⟨p115,c116,hv_,hm117,hn118⟩:=hsl114.form (by decide)
 have hmk_:=hm
 clear hm
 subst hv_
 have hm:=hmk_
 clear hmk_
 refine zF ?_
 replace hm:=hm.le (le112)
 replace hm:=hm.dl [0]
 exact ⟨rfl,hm⟩
 have hzq105_:=gM hq107
 refine zF ?_
 replace hm:=hm.dl [0]
 exact ⟨rfl,hm⟩
end Go.Sw

namespace Go.Proofs.YtghdfphedgcpdaaGreatDoor
open Go.ChangeShapes Go.WideShapes Go.ChangeAt Go.RowKit Go.Sw
set_option maxRecDepth 100000
theorem tt {a b:Bool} (ha:a=true) (hb:b=true):(a&&b)=true:=by rw [ha,hb];rfl
theorem y7m:Rows.levelMeetsRow.wf (OpenSpec.ofChange Rows.levelMeetsSpec)=true:=by kernel_rfl
theorem y7n:laidOutB Tryz.prog=true:=by kernel_rfl
theorem y7o:mapsRowed Tryz.prog=true:=by kernel_rfl
theorem y7p:Tryz.f6.params.all (Tryz.prog.readableRec ·)=true:=by kernel_rfl
theorem y7q:namedTie Tryz.prog Rows.levelMeetsRow.named Rows.levelMeetsSpec.vars=true:=by kernel_rfl
theorem y7r:(Rows.levelMeetsRow.stops==[])=true:=by kernel_rfl
theorem y7s:(Tryz.prog.stops==[])=true:=by kernel_rfl
theorem y7t:(Rows.levelMeetsRow.knobs==[])=true:=by kernel_rfl
theorem y7u:(Tryz.prog.stopKnobs==[])=true:=by kernel_rfl
theorem y7v:(Rows.levelMeetsRow.inPlace==Tryz.prog.inPlace 6)=true:=by kernel_rfl
theorem y2r:(Rows.levelMeetsRow.unfollowed==Tryz.prog.unfollowed 6)=true:=by kernel_rfl
theorem y2s:(Rows.levelMeetsRow.recurses==Tryz.prog.recurses 6)=true:=by kernel_rfl
theorem y2t:(Rows.levelMeetsRow.named==Tryz.prog.varsNamed 6)=true:=by kernel_rfl
theorem y2u:(Rows.levelMeetsRow.maps==(Tryz.f6.params.toList++Rows.levelMeetsSpec.plain.varTypes Tryz.prog).any (Tryz.prog.mapsRec ·))=true:=by kernel_rfl
theorem y2v:(Rows.levelMeetsRow.ifaces==(Tryz.f6.params.toList++Rows.levelMeetsSpec.plain.varTypes Tryz.prog).any (Tryz.prog.ifacesRec ·))=true:=by kernel_rfl
theorem y2w:(Rows.levelMeetsRow.mapsOut==Tryz.prog.mapsAmong Tryz.f6.resultTypes.toList)=true:=by kernel_rfl
theorem y2x:(Rows.levelMeetsRow.loops==(Tryz.f6.params.toList++Rows.levelMeetsSpec.plain.varTypes Tryz.prog).any (Tryz.prog.loopsFrom ·))=true:=by kernel_rfl
theorem y2y:(Rows.levelMeetsRow.wideKeys==(Tryz.f6.params.toList++Rows.levelMeetsSpec.plain.varTypes Tryz.prog++Tryz.f6.resultTypes.toList).any (Tryz.prog.wideKeysFrom ·))=true:=by kernel_rfl
theorem y2z:Rows.levelMeetsSpec.vars.all (Tryz.prog.varReadable ·)=true:=by kernel_rfl
theorem y3a:Tryz.f6.resultTypes.all (fun t=>Tryz.prog.readableRec t&&decide (t < Tryz.prog.types.size))=true:=by kernel_rfl
theorem y3b:(Rows.levelMeetsRow.ifacesOut==Tryz.f6.resultTypes.toList.any (Tryz.prog.ifacesRec ·))=true:=by kernel_rfl
theorem y3c:(Rows.levelMeetsRow.loopsOut==Tryz.f6.resultTypes.toList.any (Tryz.prog.loopsFrom ·))=true:=by kernel_rfl
theorem y3d:(Rows.levelMeetsRow.plainKeys==Tryz.prog.plainKeys)=true:=by kernel_rfl
theorem y3e:Rows.levelMeetsRow.shortTexts.isNone=true:=by kernel_rfl
theorem y3f:Tryz.prog.stopsHeard=true:=by kernel_rfl
theorem y3g:Tryz.prog.mayEnter=true:=by kernel_rfl
theorem y3h:(Rows.levelMeetsRow.lifted==Tryz.prog.liftsFinal)=true:=by kernel_rfl
theorem y3i:(Tryz.prog.make==some Rows.levelMeetsRow.make)=true:=by kernel_rfl
theorem y3j:(Rows.levelMeetsRow.kinds==(if Rows.levelMeetsRow.domain.isEmpty then [] else Tryz.f6.params.toList.map fun t=>match Tryz.prog.underlying t with | some (.int k)=>some k | _=>Option.none))=true:=by kernel_rfl
theorem y3k:(Rows.levelMeetsRow.pinned==Rows.levelMeetsRow.pinnedBy)=true:=by kernel_rfl
theorem y3l:(Rows.levelMeetsRow.veiled==(Tryz.f6.params.toList++Rows.levelMeetsSpec.plain.varTypes Tryz.prog++Tryz.f6.resultTypes.toList).any (Tryz.prog.veiledRec ·))=true:=by kernel_rfl
theorem y3m:Rows.levelMeetsRow.veiledFits Tryz.prog Tryz.f6.params.toList (Tryz.f6.params.toList++Rows.levelMeetsSpec.plain.varTypes Tryz.prog++Tryz.f6.resultTypes.toList)=true:=by kernel_rfl
theorem z1t:joinedFacts Tryz.prog 6 Tryz.f6 Rows.levelMeetsSpec Rows.levelMeetsRow=true:=(tt (tt (tt (tt (tt (tt (tt (tt (tt (tt (tt (tt (tt (tt (tt (tt (tt (tt (tt (tt (tt (tt (tt (tt (tt (tt (tt (tt (tt (tt (tt y7m y7n) y7o) y7p) y7q) y7r) y7s) y7t) y7u) y7v) y2r) y2s) y2t) y2u) y2v) y2w) y2x) y2y) y2z) y3a) y3b) y3c) y3d) y3e) y3f) y3g) y3h) y3i) y3j) y3k) y3l) y3m)
theorem levelMeets_named:Tryz.prog.funcNamed "restitch/restitchlaw11.LevelMeets" = some 6:=by kernel_rfl
theorem z1v:Tryz.checked.prog.inits.idxOf? 6=none:=by kernel_rfl
theorem uO:Tryz.f6.resultTypes=#[4]:=by kernel_rfl
theorem z8h:([27,25,25].all fun t=>Tryz.prog.readableRec t&&decide (t < Tryz.prog.types.size))=true:=by kernel_rfl
theorem z1w:Rows.levelMeetsRow.wfByText (OpenSpec.ofChange Rows.levelMeetsSpec)=true:=by kernel_rfl
theorem z8g:false=Rows.levelMeetsRow.goesBy Tryz.prog:=by kernel_rfl
theorem z4g:([27,25,25].all fun u => !Tryz.prog.wantsStandIn u)=true:=by kernel_rfl
abbrev levelMeets_args:Array Value:=#[.agg #[.slice none 0 0,.slice none 0 0,.slice none 0 0,.slice none 0 0],.slice none 0 0,.slice none 0 0]
theorem z1u (os:Os) (started:os.Started) (H:Type) (enc:TypeId×Value→H) :
  ReturnsInHanded {} Tryz.checked os 6 .any (fun w args=>(Rows.levelMeetsSpec.pre enc Tryz.prog Tryz.f6 [] false w args∧laidMetH Tryz.prog laidAll w)∧sizedMet enc Tryz.prog Tryz.f6 (OpenSpec.ofChange Rows.levelMeetsSpec) false w args)
   (Rows.levelMeetsSpec.post enc Tryz.prog Tryz.f6 false true false false):=by
 refine y6k (C:=Tryz.checked) (X:=fun w _=>laidMetH Tryz.prog laidAll w) (fun _ _ _ hh h=>h.of_heap hh) own started z1v Tryz.func6
  (ChangeSpec.witness_shaped (enc:=enc) (C:=Tryz.checked) (os:=os) (X:=fun w _=>laidMetH Tryz.prog laidAll w) false (World.laidAll Tryz.prog os laidAll) levelMeets_args 8 (World.laidAll_os _ _ _)
   (World.shaped_of_ZipB (by as_aux_lemma=>kernel_rfl) (by as_aux_lemma=>kernel_rfl)) (by as_aux_lemma=>kernel_rfl) (by as_aux_lemma=>kernel_rfl) (by as_aux_lemma=>kernel_rfl)
   (by rw [xL];exact sD os _)) ?_
 intro W base args ds gs before hval0 hW hL hz hsh
 have hval:∀(j:Nat) t v,Tryz.f6.params[j]? = some t→args[j]? = some v→Value.okWide Tryz.prog W .any base t v:=hval0
 have hW':=hW
 obtain ⟨p,q,hA0,hV,rfl,_,_⟩:=hW
 have hA:DataW.TrodAll enc Tryz.prog W 0 (fun _=>true) true Tryz.f6.params.toList args.toList ds p:=hA0
 rw [Tryz.params6] at hA hval
 obtain ⟨v0,v1,v2,d0,d1,d2,p0,p1,p2,rfl,rfl,rfl,h0,h1,h2⟩:=trodAll_three hA
 rw [xL] at hL
 obtain ⟨_,ds',gs',before',hW2,hwt⟩:=hz
 obtain ⟨pz,qz,hB0,_,rfl,_,_⟩:=hW2
 have hB:DataW.TrodAll enc Tryz.prog W 0 (fun _=>true) true Tryz.f6.params.toList _ ds' pz:=hB0
 rw [Tryz.params6] at hB
 obtain ⟨u0,u1,u2,e0,e1,e2,r0,r1,r2,hu,rfl,rfl,g0,g1,g2⟩:=trodAll_three hB
 obtain ⟨rfl,rfl,rfl⟩:v0=u0∧v1=u1∧v2=u2:=by simpa using hu
 have hw:=List.all_eq_true.1 hwt
 rw [Tryz.params6] at hw
 obtain ⟨cs,c,rfl,rpc⟩:=oQ (hval 0 27 v0 rfl rfl) h0
 obtain ⟨l1,rl1⟩:=sO (hval 1 25 v1 rfl rfl) h1
 obtain ⟨l2,rl2⟩:=sO (hval 2 25 v2 rfl rfl) h2
 have k1:=z6a rl1 g1 fun q hq=>of_decide_eq_true (hw q (List.mem_append_right _ (List.mem_append_left _ hq)))
 have k2:=z6a rl2 g2 fun q hq=>of_decide_eq_true (hw q (List.mem_append_right _ (List.mem_append_right _ (List.mem_append_left _ hq))))
 refine (y7w rpc rl1 rl2 k1 k2 (z1c hsh hL) (Mem.whole W)).mono fun e W' ⟨he,hm⟩ =>?_
 subst he
 exact ⟨_,rfl,sF hW' rfl (fun gs hg=>by subst hg;rfl) uO (by rw [Tryz.params6];exact fun t ht=>z2o z8h ht) hm⟩
theorem z4f:Rows.LevelMeetsSaid :=
 OpenClaim.holds_of_wide 6 Tryz.f6 rfl rfl rfl rfl rfl rfl rfl ⟨rfl,rfl,rfl,rfl,rfl⟩ rfl rfl rfl rfl rfl levelMeets_named Tryz.func6 z1t
  (of_decide_eq_true (by as_aux_lemma=>kernel_rfl)) (by unfold Func.isWrapper;first | (rw [if_pos (by decide +kernel)];as_aux_lemma=>kernel_rfl) | (rw [if_neg (by decide +kernel)];exact ⟨rfl,rfl⟩))
  (fun os started H enc _=>z1u os started H enc)
theorem levelMeets_card:Rows.LevelMeetsCardSaid :=
 Claim7.holds_tied_plain_at .later [] [.data,.data,.data,.data,.sentinel,.sentinel,.pinned] true (true,"8dfb172be620e644952a3b3fbef38f53abbde8464159391a13788f707abd56a4") true z4f (fun _ h=>by cases h) z1w (fun _ h=>by cases h) levelMeets_row_tie rfl ⟨rfl,rfl⟩ z2d rfl
  (fun f fn hf hfn=>by
   obtain rfl:f=6:=Option.some.inj (levelMeets_named.symm.trans hf) |>.symm
   obtain rfl:fn=Tryz.f6:=(Option.some.inj (Tryz.func6.symm.trans hfn)).symm
   exact ⟨sI,fun j t ht=>by
    rw [Tryz.params6] at ht
    have hm:t∈[27,25,25]:=by simpa using Array.mem_of_getElem? ht
    exact (show Tryz.prog.wantsStandIn t=false by simpa using List.all_eq_true.1 z4g t hm)⟩)
  z8g
#print axioms levelMeets_card
end Go.Proofs.YtghdfphedgcpdaaGreatDoor
