/- CoreAdds: the statement coreAddsCardSaid, of any program, as it is given; nothing is assumed beyond it. -/
import Derived.Test.YtgkhcfjooiekkaaGreatDoorProg
import Derived.Test.YtgkhcfjooiekkaaGreatDoorX03
import Derived.Test.YtgkhcfjooiekkaaGreatDoorX04
import Derived.Test.YtgkhcfjooiekkaaGreatDoorX14
set_option linter.unusedVariables false
set_option linter.unusedSimpArgs false
namespace Go.Sw
open Go.Proofs
set_option maxRecDepth 20000
set_option maxHeartbeats 4000000
end Go.Sw

namespace Go.Sw
open Go.Proofs
noncomputable def costs (c:Core) (l:List Named):Int:=(l.map fun x=>costP c x.name).sum
theorem costs_snoc (c:Core) (l:List Named) (x:Named):costs c (l++[x])=costs c l+costP c x.name:=by simp [costs]
theorem costs_le {c:Core}:∀{l:List Named},(∀x∈l,0≤costP c x.name∧costP c x.name≤4001)→0≤costs c l∧costs c l≤4001 * l.length
 | [],_=>by simp [costs]
 | x::l,h=>by
  have h1:=h x List.mem_cons_self
  have h2:=costs_le fun y hy=>h y (List.mem_cons_of_mem _ hy)
  have e:costs c (x::l)=costP c x.name+costs c l:=by simp [costs]
  rw [e,List.length_cons]
  omega
theorem names_costs {c:Core}:∀{os:List Bs} {vs:List Val},os.length=vs.length→costs c (namesP os vs)=(os.map (costP c)).sum
 | [],[],_=>rfl
 | o::os,v::vs,h=>by
  have:=names_costs (c:=c) (os:=os) (vs:=vs) (by simpa using h)
  simp only [costs,namesP,List.zipWith_cons_cons,List.map_cons,List.sum_cons] at this ⊢
  rw [this]
 | [],_::_,h=>by cases h
 | _::_,[],h=>by cases h
theorem adds_named {c:Core} {o:Outcome} (h:runP c [] 4000=(o,0)):o.outputs.length≤6∧costs c o.outputs=o.steps+o.outputs.length ∧
  ∀(i:Nat) (x:Named),o.outputs[i]? = some x→callAllP c x.name [] 4001=(x.value,costP c x.name,0)∧0≤costP c x.name∧costP c x.name≤4001:=by
 have h0:=(run_ok_inv h).1
 obtain ⟨vs,e,ha,hs⟩:=adds_law h
 have hl:=All2.length ha
 have hle:c.outputs.length≤6:=by
  obtain ⟨hlg,_⟩:=look_parts h0
  simp only [longP,Bool.or_eq_false_iff,decide_eq_false_iff_not] at hlg
  omega
 refine ⟨by rw [e];simp [namesP];omega,?_,fun i x hx =>?_⟩
 ·rw [e,names_costs hl,hs]
  simp [namesP]
  omega
 ·rw [e] at hx
  have hi:i < (namesP c.outputs vs).length:=(List.getElem?_eq_some_iff.1 hx).1
  simp only [namesP,List.length_zipWith] at hi
  obtain ⟨n,hn⟩:=at_of_lt (l:=c.outputs) (i:=i) (by omega)
  obtain ⟨v,hv⟩:=at_of_lt (l:=vs) (i:=i) (by omega)
  rw [names_get hn hv] at hx
  simp only [Option.some.injEq] at hx
  subst hx
  obtain ⟨h1,h2,h3,h4⟩:=All2.get ha hn hv
  exact ⟨Prod.ext h1 (Prod.ext rfl h2),h3,h4⟩
theorem sameVT_ok {Φ:Fz} {K:List Res} {w:World} {d0 d1:List Value} {v u:Val} (rpv:RVal Φ d0 v) (rpu:RVal Φ d1 u) (h:v=u) (hm:Mem Φ K w) :
  Calls Tryz.prog 22 (List.toArray [.agg d0.toArray,.agg d1.toArray]) w (fun ee w'=>ee=.returned (.bool true)∧Mem Φ K w'):=by
 subst h
 refine (sameValue_ok rpv rpu hm).mono fun ee w' h =>?_
 rw [sameV_refl] at h
 exact h
end Go.Sw

namespace Go.Sw
open Go.Proofs
set_option maxRecDepth 20000
set_option maxHeartbeats 4000000
theorem coreAdds_ok {Φ:Fz} {K:List Res} {w:World} {d0:List Value} {c:Core} (rpc:RCore Φ d0 c) (G:Glob Φ) (T_:Tabs Φ) (hm:Mem Φ K w) :
  Calls Tryz.prog 8 (List.toArray [.agg d0.toArray]) w (fun ee w'=>ee=.returned (.bool true)∧Mem Φ K w'):=by
 obtain ⟨p3,c4,p9,c10,p15,c16,p21,c22,rfl,h2,h8,h14,h20,hm5,hn6,hm11,hn12,hm17,hn18,hm23,hn24⟩:=RCore.fm rpc
 refine Enter Tryz.func8 Tryz.ntmps8 fun Q hQ a he =>?_
 refine Bx he hm fun b26 w hm a he =>?_
 refine CallR Tryz.call18 he hm (fun w hm a he =>?_) (c:=sane_ok G T_ hm)
 refine CallY Tryz.call15 he hm (fun y29 w hG30 hm a he =>?_) (c:=runAll_ok (fuel:=4000) rpc (SliceOf.nil 4) G hm)
 obtain ⟨Ψ31,d32⟩:=y29
 obtain ⟨le33,ho34⟩:=hG30
 simp only at le33 ho34 hm he
 replace rpc:=RCore.mono _ _ _ _ le33 rpc
 replace G:=G.mono le33
 replace T_:=Tabs.mono T_ le33
 replace hm:=hm.nf
 obtain ⟨s35,rfl,h36⟩:=id ho34
 obtain ⟨p37,c38,rfl,hm39,hn40⟩:=h36.fm
 refine Alc he hm fun b41 w hm a he =>?_
 refine Sto 0 he hm fun w hm a he =>?_
 refine go he hm fun a he =>?_
 by_cases h44:(runP c [] 4000).2=0
 refine go he hm fun a he =>?_
 have hr_:runP c [] 4000=((runP c [] 4000).1,0):=run_pair h44
 have had_:=adds_named hr_
 have hfs_:=(fuel_same hr_).2
 refine go he hm fun a he =>?_
 refine loopK (he.ks [1,3,4]) hm (fun R mm a w=>∃(i:Nat) (s:Int),mm=(runP c [] 4000).1.outputs.length - i∧R Ψ31 [(6,.int .i64 (s)),(7,.int .i64 ((i:Nat):Int))] [] a w∧(s=costs c ((runP c [] 4000).1.outputs.take i)∧i≤(runP c [] 4000).1.outputs.length)) ((runP c [] 4000).1.outputs.length - 0) ⟨0,0,rfl,⟨he.pk,hm⟩,⟨rfl,Nat.zero_le _⟩⟩ ?_
 clear hm he
 rintro mm a w ⟨i,s,hmu,⟨he,hm⟩,hI49⟩ L48 hL48
 obtain ⟨hs_,hil_⟩:=hI49
 refine go he hm fun a he =>?_
 by_cases h52:i < (runP c [] 4000).1.outputs.length
 refine go he hm fun a he =>?_
 refine region_planI [2,1,2,1,1,1,2,0,1,1,1,1,0,0,1,1] (.q 0 (.q 1 (.q 2 (.q 3 (.q 4 (.q 5 (.q 6 (.e2 7 12 (.q 8 (.q 9 (.q 10 (.q 11 (.e 12 (.e 13 (.q 14 (.q 15 (.done))))))))) (.e 7 (.q 8 (.q 9 (.q 10 (.q 11 (.e 13 (.q 14 (.q 15 (.done))))))))))))))))) [0,1] he hm fun w hm =>?_
 refine go he hm fun a he =>?_
 obtain ⟨q55,rfl,x56,hx57,cs58,hl59,ha60,hr61⟩:=h36.el hn40 h52
 obtain ⟨b62,rfl,h63⟩:=id hr61
 obtain ⟨p66,c67,rfl,hi70,h65,hm68,hn69⟩:=RVal.fm h63
 refine go he hm fun a he =>?_
 refine d_e2 ?_ ?_
 refine CallY Tryz.call20 he hm (fun y71 w hG72 hm a he =>?_) (c:=callAll_ok (fuel:=4001) rpc (SliceOf.nil 3) (fun h_=>call_safe h_ _ _) G hm)
 obtain ⟨Ψ73,d74⟩:=y71
 obtain ⟨le75,hr76⟩:=hG72
 simp only at le75 hr76 hm he
 replace rpc:=RCore.mono _ _ _ _ le75 rpc
 replace G:=G.mono le75
 replace T_:=Tabs.mono T_ le75
 replace h36:=h36.up le75
 replace ho34:=ROutcome.mono _ _ _ _ le75 ho34
 replace hr61:=RNamed.mono _ _ _ _ le75 hr61
 replace h63:=RVal.mono _ _ _ _ le75 h63
 replace hm:=hm.nf
 obtain ⟨p79,c80,rfl,hi83,h78,hm81,hn82⟩:=RVal.fm hr76
 refine Alc he hm fun b84 w hm a he =>?_
 refine Sto 0 he hm fun w hm a he =>?_
 refine Reg [1,1,1,2,1,2,1,1,1,2,0,1,1] [0,1,2] he hm fun w hm a he =>?_
 have hcl_:=had_.2.2 _ _ hx57
 have hk_:(callAllP c x56.name [] 4001).2.1=costP c x56.name:=congrArg (fun q=>q.2.1) hcl_.1
 have hcb_:=costs_le (c:=c) (l:=(runP c [] 4000).1.outputs.take i) (fun x_ hx_=>by
  obtain ⟨j_,hj_⟩:=List.getElem?_of_mem (List.mem_of_mem_take hx_)
  exact (had_.2.2 _ _ hj_).2)
 have htl_:=List.length_take_le i (runP c [] 4000).1.outputs
 have hl6_:=had_.1
 refine Qq he hm (fun a he =>?_) (o:=by exact fun _ _ _ he hs=>y_ineq false he rfl rfl (congrArg Bool.not (decide_eq_true (congrArg (fun q=>q.2.2) hcl_.1))))
 refine go he hm fun a he =>?_
 obtain ⟨x87,hx88⟩:=at_of_lt h52
 obtain ⟨cs89,hl90,ha91,hr92⟩:=h36.elem hx88
 obtain ⟨b93,rfl,h94⟩:=id hr92
 obtain ⟨p97,c98,rfl,hi101,h96,hm99,hn100⟩:=RVal.fm h94
 refine Qq he hm (fun a he =>?_) (o:=by exact fun _ _ _ he hs=>y_load_atA 1 (vs:=[.string x87.value.con,.int .i64 (x87.value.num),.slice p97 x87.value.args.length c98]) he hs rfl ha91 Tryz.isAgg42 Tryz.sizeOf42 rfl rfl)
 refine CallR Tryz.call22 he hm (fun w hm a he =>?_) (c:=sameVT_ok hr76 h94 ((congrArg (fun q=>q.1) hcl_.1).trans (congrArg Named.value (Option.some.inj (hx57.symm.trans hx88)))) hm)
 refine Qq he hm (fun a he =>?_) (o:=by exact fun _ _ _ he hs=>y_add (s+(callAllP c x56.name [] 4001).2.1) he rfl rfl (wrap64 (by have h1_:=hcl_.2;rw [hs_,hk_];omega)))
 refine go he hm fun a he =>?_
 replace hm:=hm.le (le75)
 replace hm:=hm.dl [0]
 refine hL48 _ _ _ (by subst hmu;omega) ⟨(i+1),(s+(callAllP c x56.name [] 4001).2.1),rfl,⟨he.pk,hm⟩,?_⟩
 exact ⟨by rw [hk_,hs_,take_snoc hx57,costs_snoc],by omega⟩
 refine Alc he hm fun b102 w hm a he =>?_
 refine CallY Tryz.call20 he hm (fun y103 w hG104 hm a he =>?_) (c:=callAll_ok (fuel:=4001) rpc (SliceOf.nil 3) (fun h_=>call_safe h_ _ _) G hm)
 obtain ⟨Ψ105,d106⟩:=y103
 obtain ⟨le107,hr108⟩:=hG104
 simp only at le107 hr108 hm he
 replace rpc:=RCore.mono _ _ _ _ le107 rpc
 replace G:=G.mono le107
 replace T_:=Tabs.mono T_ le107
 replace h36:=h36.up le107
 replace ho34:=ROutcome.mono _ _ _ _ le107 ho34
 replace hr61:=RNamed.mono _ _ _ _ le107 hr61
 replace h63:=RVal.mono _ _ _ _ le107 h63
 replace hm:=hm.nf
 obtain ⟨p111,c112,rfl,hi115,h110,hm113,hn114⟩:=RVal.fm hr108
 refine Sto 0 he hm fun w hm a he =>?_
 refine Reg [1,1,1,2,1,2,1,1,1,2,0,1,1] [0,1,2] he hm fun w hm a he =>?_
 have hcl_:=had_.2.2 _ _ hx57
 have hk_:(callAllP c x56.name [] 4001).2.1=costP c x56.name:=congrArg (fun q=>q.2.1) hcl_.1
 have hcb_:=costs_le (c:=c) (l:=(runP c [] 4000).1.outputs.take i) (fun x_ hx_=>by
  obtain ⟨j_,hj_⟩:=List.getElem?_of_mem (List.mem_of_mem_take hx_)
  exact (had_.2.2 _ _ hj_).2)
 have htl_:=List.length_take_le i (runP c [] 4000).1.outputs
 have hl6_:=had_.1
 refine Qq he hm (fun a he =>?_) (o:=by exact fun _ _ _ he hs=>y_ineq false he rfl rfl (congrArg Bool.not (decide_eq_true (congrArg (fun q=>q.2.2) hcl_.1))))
 refine go he hm fun a he =>?_
 obtain ⟨x118,hx119⟩:=at_of_lt h52
 obtain ⟨cs120,hl121,ha122,hr123⟩:=h36.elem hx119
 obtain ⟨b124,rfl,h125⟩:=id hr123
 obtain ⟨p128,c129,rfl,hi132,h127,hm130,hn131⟩:=RVal.fm h125
 refine Qq he hm (fun a he =>?_) (o:=by exact fun _ _ _ he hs=>y_load_atA 1 (vs:=[.string x118.value.con,.int .i64 (x118.value.num),.slice p128 x118.value.args.length c129]) he hs rfl ha122 Tryz.isAgg42 Tryz.sizeOf42 rfl rfl)
 refine CallR Tryz.call22 he hm (fun w hm a he =>?_) (c:=sameVT_ok hr108 h125 ((congrArg (fun q=>q.1) hcl_.1).trans (congrArg Named.value (Option.some.inj (hx57.symm.trans hx119)))) hm)
 refine Qq he hm (fun a he =>?_) (o:=by exact fun _ _ _ he hs=>y_add (s+(callAllP c x56.name [] 4001).2.1) he rfl rfl (wrap64 (by have h1_:=hcl_.2;rw [hs_,hk_];omega)))
 refine go he hm fun a he =>?_
 replace hm:=hm.le (le107)
 replace hm:=hm.dl [0]
 refine hL48 _ _ _ (by subst hmu;omega) ⟨(i+1),(s+(callAllP c x56.name [] 4001).2.1),rfl,⟨he.pk,hm⟩,?_⟩
 exact ⟨by rw [hk_,hs_,take_snoc hx57,costs_snoc],by omega⟩
 refine go he hm fun a he =>?_
 have hfin_:s=(runP c [] 4000).1.steps+(((runP c [] 4000).1.outputs.length:Nat):Int):=by rw [hs_,take_all h52];exact had_.2.1
 refine Qq he hm (fun a he =>?_) (o:=by exact fun _ _ _ he hs=>y_add ((runP c [] 4000).1.steps+(((runP c [] 4000).1.outputs.length:Nat):Int)) he rfl rfl (wrap64 (by have h1_:=had_.1;omega)))
 refine go he hm fun a he =>?_
 replace hm:=hm.le (le33)
 replace hm:=hm.dl [1,0]
 refine Ret1 hQ he hm ?_
 exact ⟨by rfl,hm⟩
 refine go he hm fun a he =>?_
 replace hm:=hm.le (le33)
 replace hm:=hm.dl [1,0]
 refine Ret1 hQ he hm ?_
 exact ⟨by rfl,hm⟩
end Go.Sw

namespace Go.Proofs.YtgkhcfjooiekkaaGreatDoor
open Go.ChangeShapes Go.WideShapes Go.ChangeAt Go.RowKit Go.Sw
set_option maxRecDepth 100000
theorem tt {a b:Bool} (ha:a=true) (hb:b=true):(a&&b)=true:=by rw [ha,hb];rfl
theorem coreAdds_k0:Rows.coreAddsRow.wf (OpenSpec.ofChange Rows.coreAddsSpec)=true:=by kernel_rfl
theorem coreAdds_k1:laidOutB Tryz.prog=true:=by kernel_rfl
theorem coreAdds_k2:mapsRowed Tryz.prog=true:=by kernel_rfl
theorem coreAdds_k3:Tryz.f8.params.all (Tryz.prog.readableRec ·)=true:=by kernel_rfl
theorem coreAdds_k4:namedTie Tryz.prog Rows.coreAddsRow.named Rows.coreAddsSpec.vars=true:=by kernel_rfl
theorem coreAdds_k5:(Rows.coreAddsRow.stops==[])=true:=by kernel_rfl
theorem coreAdds_k6:(Tryz.prog.stops==[])=true:=by kernel_rfl
theorem coreAdds_k7:(Rows.coreAddsRow.knobs==[])=true:=by kernel_rfl
theorem coreAdds_k8:(Tryz.prog.stopKnobs==[])=true:=by kernel_rfl
theorem coreAdds_k9:(Rows.coreAddsRow.inPlace==Tryz.prog.inPlace 8)=true:=by kernel_rfl
theorem coreAdds_k10:(Rows.coreAddsRow.unfollowed==Tryz.prog.unfollowed 8)=true:=by kernel_rfl
theorem coreAdds_k11:(Rows.coreAddsRow.recurses==Tryz.prog.recurses 8)=true:=by kernel_rfl
theorem coreAdds_k12:(Rows.coreAddsRow.named==Tryz.prog.varsNamed 8)=true:=by kernel_rfl
theorem coreAdds_k13:(Rows.coreAddsRow.maps==(Tryz.f8.params.toList++Rows.coreAddsSpec.plain.varTypes Tryz.prog).any (Tryz.prog.mapsRec ·))=true:=by kernel_rfl
theorem coreAdds_k14:(Rows.coreAddsRow.ifaces==(Tryz.f8.params.toList++Rows.coreAddsSpec.plain.varTypes Tryz.prog).any (Tryz.prog.ifacesRec ·))=true:=by kernel_rfl
theorem coreAdds_k15:(Rows.coreAddsRow.mapsOut==Tryz.prog.mapsAmong Tryz.f8.resultTypes.toList)=true:=by kernel_rfl
theorem coreAdds_k16:(Rows.coreAddsRow.loops==(Tryz.f8.params.toList++Rows.coreAddsSpec.plain.varTypes Tryz.prog).any (Tryz.prog.loopsFrom ·))=true:=by kernel_rfl
theorem coreAdds_k17:(Rows.coreAddsRow.wideKeys==(Tryz.f8.params.toList++Rows.coreAddsSpec.plain.varTypes Tryz.prog++Tryz.f8.resultTypes.toList).any (Tryz.prog.wideKeysFrom ·))=true:=by kernel_rfl
theorem coreAdds_k18:Rows.coreAddsSpec.vars.all (Tryz.prog.varReadable ·)=true:=by kernel_rfl
theorem coreAdds_k19:Tryz.f8.resultTypes.all (fun t=>Tryz.prog.readableRec t&&decide (t < Tryz.prog.types.size))=true:=by kernel_rfl
theorem coreAdds_k20:(Rows.coreAddsRow.ifacesOut==Tryz.f8.resultTypes.toList.any (Tryz.prog.ifacesRec ·))=true:=by kernel_rfl
theorem coreAdds_k21:(Rows.coreAddsRow.loopsOut==Tryz.f8.resultTypes.toList.any (Tryz.prog.loopsFrom ·))=true:=by kernel_rfl
theorem coreAdds_k22:(Rows.coreAddsRow.plainKeys==Tryz.prog.plainKeys)=true:=by kernel_rfl
theorem coreAdds_k23:Rows.coreAddsRow.shortTexts.isNone=true:=by kernel_rfl
theorem coreAdds_k24:Tryz.prog.stopsHeard=true:=by kernel_rfl
theorem coreAdds_k25:Tryz.prog.mayEnter=true:=by kernel_rfl
theorem coreAdds_k26:(Rows.coreAddsRow.lifted==Tryz.prog.liftsFinal)=true:=by kernel_rfl
theorem coreAdds_k27:(Tryz.prog.make==some Rows.coreAddsRow.make)=true:=by kernel_rfl
theorem coreAdds_k28:(Rows.coreAddsRow.kinds==(if Rows.coreAddsRow.domain.isEmpty then [] else Tryz.f8.params.toList.map fun t=>match Tryz.prog.underlying t with | some (.int k)=>some k | _=>Option.none))=true:=by kernel_rfl
theorem coreAdds_k29:(Rows.coreAddsRow.pinned==Rows.coreAddsRow.pinnedBy)=true:=by kernel_rfl
theorem coreAdds_k30:(Rows.coreAddsRow.veiled==(Tryz.f8.params.toList++Rows.coreAddsSpec.plain.varTypes Tryz.prog++Tryz.f8.resultTypes.toList).any (Tryz.prog.veiledRec ·))=true:=by kernel_rfl
theorem coreAdds_k31:Rows.coreAddsRow.veiledFits Tryz.prog Tryz.f8.params.toList (Tryz.f8.params.toList++Rows.coreAddsSpec.plain.varTypes Tryz.prog++Tryz.f8.resultTypes.toList)=true:=by kernel_rfl
theorem coreAdds_closed:joinedFacts Tryz.prog 8 Tryz.f8 Rows.coreAddsSpec Rows.coreAddsRow=true:=(tt (tt (tt (tt (tt (tt (tt (tt (tt (tt (tt (tt (tt (tt (tt (tt (tt (tt (tt (tt (tt (tt (tt (tt (tt (tt (tt (tt (tt (tt (tt coreAdds_k0 coreAdds_k1) coreAdds_k2) coreAdds_k3) coreAdds_k4) coreAdds_k5) coreAdds_k6) coreAdds_k7) coreAdds_k8) coreAdds_k9) coreAdds_k10) coreAdds_k11) coreAdds_k12) coreAdds_k13) coreAdds_k14) coreAdds_k15) coreAdds_k16) coreAdds_k17) coreAdds_k18) coreAdds_k19) coreAdds_k20) coreAdds_k21) coreAdds_k22) coreAdds_k23) coreAdds_k24) coreAdds_k25) coreAdds_k26) coreAdds_k27) coreAdds_k28) coreAdds_k29) coreAdds_k30) coreAdds_k31)
theorem coreAdds_named:Tryz.prog.funcNamed "restitch/restitchlaw08.CoreAdds" = some 8:=by kernel_rfl
theorem coreAdds_noInit:Tryz.checked.prog.inits.idxOf? 8=none:=by kernel_rfl
theorem coreAdds_results:Tryz.f8.resultTypes=#[4]:=by kernel_rfl
theorem coreAdds_read:([27].all fun t=>Tryz.prog.readableRec t&&decide (t < Tryz.prog.types.size))=true:=by kernel_rfl
theorem coreAdds_wfText:Rows.coreAddsRow.wfByText (OpenSpec.ofChange Rows.coreAddsSpec)=true:=by kernel_rfl
theorem coreAdds_goes:false=Rows.coreAddsRow.goesBy Tryz.prog:=by kernel_rfl
theorem coreAdds_stand:([27].all fun u => !Tryz.prog.wantsStandIn u)=true:=by kernel_rfl
abbrev coreAdds_args:Array Value:=#[.agg #[.slice none 0 0,.slice none 0 0,.slice none 0 0,.slice none 0 0]]
theorem coreAdds_lifted (os:Os) (started:os.Started) (H:Type) (enc:TypeId×Value→H) :
  ReturnsInHanded {} Tryz.checked os 8 .any (fun w args=>(Rows.coreAddsSpec.pre enc Tryz.prog Tryz.f8 [] false w args∧laidMetH Tryz.prog laidAll w)∧sizedMet enc Tryz.prog Tryz.f8 (OpenSpec.ofChange Rows.coreAddsSpec) false w args)
   (Rows.coreAddsSpec.post enc Tryz.prog Tryz.f8 false true false false):=by
 refine wrap_shaped (C:=Tryz.checked) (X:=fun w _=>laidMetH Tryz.prog laidAll w) (fun _ _ _ hh h=>h.of_heap hh) own started coreAdds_noInit Tryz.func8
  (ChangeSpec.witness_shaped (enc:=enc) (C:=Tryz.checked) (os:=os) (X:=fun w _=>laidMetH Tryz.prog laidAll w) false (World.laidAll Tryz.prog os laidAll) coreAdds_args 8 (World.laidAll_os _ _ _)
   (World.shaped_of_ZipB (by as_aux_lemma=>kernel_rfl) (by as_aux_lemma=>kernel_rfl)) (by as_aux_lemma=>kernel_rfl) (by as_aux_lemma=>kernel_rfl) (by as_aux_lemma=>kernel_rfl)
   (by rw [laidH_plain];exact laid_met os _)) ?_
 intro W base args ds gs before hval0 hW hL hsh
 have hval:∀(j:Nat) t v,Tryz.f8.params[j]? = some t→args[j]? = some v→Value.okWide Tryz.prog W .any base t v:=hval0
 have hW':=hW
 obtain ⟨p,q,hA0,hV,rfl,_,_⟩:=hW
 have hA:DataW.TrodAll enc Tryz.prog W 0 (fun _=>true) true Tryz.f8.params.toList args.toList ds p:=hA0
 rw [Tryz.params8] at hA hval
 obtain ⟨v0,d0,rfl,rfl,h0⟩:=trodAll_one hA
 rw [laidH_plain] at hL
 obtain ⟨cs,c,rfl,rpc⟩:=core_arg (hval 0 27 v0 rfl rfl) h0
 refine (coreAdds_ok rpc (glob_of hsh hL) (tabs_of hL) (Mem.whole W)).mono fun e W' ⟨he,hm⟩ =>?_
 subst he
 exact ⟨_,rfl,law_post hW' rfl (fun gs hg=>by subst hg;rfl) coreAdds_results (by rw [Tryz.params8];exact fun t ht=>read_of coreAdds_read ht) hm⟩
theorem coreAdds_holds:Rows.CoreAddsSaid :=
 OpenClaim.holds_of_wide 8 Tryz.f8 rfl rfl rfl rfl rfl rfl rfl ⟨rfl,rfl,rfl,rfl,rfl⟩ rfl rfl rfl rfl rfl coreAdds_named Tryz.func8 coreAdds_closed
  (of_decide_eq_true (by as_aux_lemma=>kernel_rfl)) (by unfold Func.isWrapper;first | (rw [if_pos (by decide +kernel)];as_aux_lemma=>kernel_rfl) | (rw [if_neg (by decide +kernel)];exact ⟨rfl,rfl⟩))
  (fun os started H enc _=>coreAdds_lifted os started H enc)
theorem coreAdds_card:Rows.CoreAddsCardSaid :=
 Claim7.holds_tied_plain_at .later [] [.data,.data,.data,.data,.sentinel,.sentinel,.pinned] true (true,"455426ae17f5cebd1e869bbd2c7c15e1646e82f384eadf6ce8080b103650fe81") true coreAdds_holds (fun _ h=>by cases h) coreAdds_wfText (fun _ h=>by cases h) coreAdds_row_tie rfl ⟨rfl,rfl⟩ main_is rfl
  (fun f fn hf hfn=>by
   obtain rfl:f=8:=Option.some.inj (coreAdds_named.symm.trans hf) |>.symm
   obtain rfl:fn=Tryz.f8:=(Option.some.inj (Tryz.func8.symm.trans hfn)).symm
   exact ⟨looks_is,fun j t ht=>by
    rw [Tryz.params8] at ht
    have hm:t∈[27]:=by simpa using Array.mem_of_getElem? ht
    exact (show Tryz.prog.wantsStandIn t=false by simpa using List.all_eq_true.1 coreAdds_stand t hm)⟩)
  coreAdds_goes
#print axioms coreAdds_card
end Go.Proofs.YtgkhcfjooiekkaaGreatDoor
