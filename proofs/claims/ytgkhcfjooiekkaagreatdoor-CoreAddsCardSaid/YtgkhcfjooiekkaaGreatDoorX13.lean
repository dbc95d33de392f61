import Derived.Test.YtgkhcfjooiekkaaGreatDoorProg
import Derived.Test.YtgkhcfjooiekkaaGreatDoorX01
import Derived.Test.YtgkhcfjooiekkaaGreatDoorX03
import Derived.Test.YtgkhcfjooiekkaaGreatDoorX04
import Derived.Test.YtgkhcfjooiekkaaGreatDoorX06
import Derived.Test.YtgkhcfjooiekkaaGreatDoorX08
import Derived.Test.YtgkhcfjooiekkaaGreatDoorX09
import Derived.Test.YtgkhcfjooiekkaaGreatDoorX11
import Derived.Test.YtgkhcfjooiekkaaGreatDoorX12
set_option linter.unusedVariables false
set_option linter.unusedSimpArgs false
namespace Go.Sw
open Go.Proofs
set_option maxRecDepth 20000
set_option maxHeartbeats 4000000
theorem rexpr_zero {ws:List Bs} (hws:ws.length≤1000000):ExprOk ws 0:=by
 intro Φ K w r i rs G rl hi hm
 obtain ⟨pw,cw,rfl,hmw,hnw⟩:=rl.fm
 refine Enter Tryz.func180 Tryz.ntmps180 fun Q hQ a he =>?_
 refine Alc he hm fun b2 w hm a he =>?_
 replace hm:=hm.pl 1
 refine CallR Tryz.call179 he hm (fun w hm a he =>?_) (c:=rpeek_ok (i:=i) rl hws (by omega) hm)
 refine go he hm fun a he =>?_
 by_cases h6:(peekP ws i)=(⟨#[]⟩:ByteArray)
 refine go he hm fun a he =>?_
 refine st he rfl rfl rfl (eff_callZ he rfl Tryz.call130 (rfail_ok (i:=i) rl hws (by omega) hm) (fun w hm=>fun a hd=>hQ _ _ _ (wp_bodyPanic hd ?_)))
 replace hm:=hm.dl [0]
 show Out (exprP ws 0 i) _ _
 rw [expr_zero];exact ⟨rfl,hm⟩
 refine Qq he hm (fun a he =>?_) (o:=by exact fun _ _ _ he hs=>y_ieql true he rfl rfl rfl)
 refine go he hm fun a he =>?_
 refine st he rfl rfl rfl (eff_callZ he rfl Tryz.call130 (rfail_ok (i:=i) rl hws (by omega) hm) (fun w hm=>fun a hd=>hQ _ _ _ (wp_bodyPanic hd ?_)))
 replace hm:=hm.dl [0]
 show Out (exprP ws 0 i) _ _
 rw [expr_zero];exact ⟨rfl,hm⟩
theorem rexpr_step {ws:List Bs} {d:Nat} (hd:d≤1000) (hws:ws.length≤1000000) (hsz:∀j,(peekP ws j).size≤1000000) (hE:ExprOk ws d):ExprOk ws (d+1):=by
 intro Φ K w r i rs G rl hi hm
 obtain ⟨pw,cw,rfl,hmw,hnw⟩:=rl.fm
 have hd0_:¬d+1=0:=by omega
 refine Enter Tryz.func180 Tryz.ntmps180 fun Q hQ a he =>?_
 refine Alc he hm fun b2 w hm a he =>?_
 replace hm:=hm.pl 1
 refine CallR Tryz.call179 he hm (fun w hm a he =>?_) (c:=rpeek_ok (i:=i) rl hws (by omega) hm)
 refine go he hm fun a he =>?_
 by_cases h6:(peekP ws i)=(⟨#[]⟩:ByteArray)
 refine go he hm fun a he =>?_
 refine st he rfl rfl rfl (eff_callZ he rfl Tryz.call130 (rfail_ok (i:=i) rl hws (by omega) hm) (fun w hm=>fun a hd=>hQ _ _ _ (wp_bodyPanic hd ?_)))
 replace hm:=hm.dl [0]
 show Out (exprP ws (d+1) i) _ _
 rw [show exprP ws (d+1) i=.error _ from expr_no h6]
 exact ⟨rfl,hm⟩
 refine CallY Tryz.call205 he hm (fun y9 w hG10 hm a he =>?_) (c:=integer_ok (hsz _) G hm)
 replace hm:=hm.nf
 rcases hn12:intP (peekP ws i) with _ | n11
 rw [hn12] at he
 refine go he hm fun a he =>?_
 by_cases h16:(peekP ws i)=(⟨#[40]⟩:ByteArray)
 refine go he hm fun a he =>?_
 have hlt_:=peek_lt h6
 refine Sto 0 he hm fun w hm a he =>?_
 refine CallX hQ Tryz.call206 he hm (fun q19 y20 w hq21 hG22 hm a he =>?_) (fun q19 w hq21 hm =>?_) (c:=rform_ok hd hE G (i:=(i+1)) rl hws (by omega) hm)
 obtain ⟨Ψ23,d24⟩:=y20
 obtain ⟨le25,hr26⟩:=hG22
 simp only at le25 hr26 hm he
 have hgo27:=form_le hq21
 replace rl:=rl.up le25
 replace G:=G.mono le25
 replace hm:=hm.nf
 obtain ⟨p30,c31,p36,c37,rfl,hi40,h29,h35,hm32,hn33,hm38,hn39⟩:=REx.fm hr26
 refine Alc he hm fun b41 w hm a he =>?_
 refine Sto 0 he hm fun w hm a he =>?_
 replace hm:=hm.pl 1
 refine CallE hQ Tryz.call177 he hm (fun q43 w hq44 hm a he =>?_) (fun q43 w hq44 hm =>?_) (c:=rnext_ok (x:=(⟨#[41]⟩:ByteArray)) (i:=q19.2) rl hws (by omega) hm)
 have hleq43:=nextP_le hq44
 refine Sto 2 he hm fun w hm a he =>?_
 refine go he hm fun a he =>?_
 have hmr:=hm
 replace hm:=hm.dl [2,1]
 refine RetA hQ he hmr ?_
 show Out (exprP ws (d+1) i) _ _
 rw [show exprP ws (d+1) i=.ok (q19.1,q43.2) from expr_form h6 hn12 h16 hq21 hq44]
 exact ⟨(Ψ23,_),rfl,⟨le25,hr26⟩,hm⟩
 replace hm:=hm.dl [1,0]
 show Out (exprP ws (d+1) i) _ _
 rw [show exprP ws (d+1) i=.error _ from expr_fc h6 hn12 h16 hq21 hq44]
 exact ⟨rfl,hm.le (le25)⟩
 replace hm:=hm.dl [0]
 show Out (exprP ws (d+1) i) _ _
 rw [show exprP ws (d+1) i=.error _ from expr_fe h6 hn12 h16 hq21]
 exact ⟨rfl,hm⟩
 refine CallB Tryz.call178 he hm (fun hB47 w hm a he =>?_) (fun hB47 w hm a he =>?_) (c:=isCon_ok G hm)
 refine CallE hQ Tryz.call176 he hm (fun q49 w hq50 hm a he =>?_) (fun q49 w hq50 hm =>?_) (c:=rcon_ok G (i:=i) rl hws (by omega) hm)
 have hleq49:=takeP_le hq50
 refine BldT1 he hm fun a he =>?_
 refine Sto 1 he hm fun w hm a he =>?_
 refine go he hm fun a he =>?_
 have hmr:=hm
 replace hm:=hm.dl [1]
 refine RetA hQ he hmr ?_
 show Out (exprP ws (d+1) i) _ _
 rw [show exprP ws (d+1) i=.ok (.mk 4 0 q49.1 [] [],q49.2) from expr_con h6 hn12 h16 hB47 hq50]
 exact ⟨(Φ,_),rfl,⟨Fz.Le.refl _,REx.leaf i64_0⟩,hm⟩
 replace hm:=hm.dl [0]
 exact expr_conE h6 hB47 hq50
 refine go he hm fun a he =>?_
 have hsz_:=size_pos h6
 refine go he hm fun a he =>?_
 have hb52:0 < (peekP ws i).size:=by omega
 obtain ⟨c53,hc54⟩:=byte_of_lt hb52
 refine Qq he hm (fun a he =>?_) (o:=by exact fun _ _ _ he hs=>y_index_str 0 c53 he rfl rfl Tryz.runUnderlying9 hc54)
 by_cases h55:c53.toNat=33
 refine Qq he hm (fun a he =>?_) (o:=by exact fun _ _ _ he hs=>y_slice_str 1 ((peekP ws i).size) he rfl Tryz.runUnderlying9 ⟨_,rfl⟩ rfl (by omega) (by exact Nat.le_refl _))
 refine CallB Tryz.call138 he hm (fun hB56 w hm a he =>?_) (fun hB56 w hm a he =>?_) (c:=isName_ok G hm)
 refine go he hm fun a he =>?_
 have hlt_:=peek_lt h6
 refine Sto 0 he hm fun w hm a he =>?_
 refine Qq he hm (fun a he =>?_) (o:=by exact fun _ _ _ he hs=>y_slice_str 1 ((peekP ws i).size) he rfl Tryz.runUnderlying9 ⟨_,rfl⟩ rfl (by omega) (by exact Nat.le_refl _))
 refine BldT1 he hm fun a he =>?_
 refine Sto 1 he hm fun w hm a he =>?_
 refine go he hm fun a he =>?_
 have hmr:=hm
 replace hm:=hm.dl [1]
 refine RetA hQ he hmr ?_
 show Out (exprP ws (d+1) i) _ _
 rw [show exprP ws (d+1) i=.ok (.mk 3 0 ((peekP ws i).extract 1 (peekP ws i).size) [] [],i+1) from expr_input h6 hn12 h16 hB47 ((byteAt_some hc54).trans h55) hB56]
 exact ⟨(Φ,_),rfl,⟨Fz.Le.refl _,REx.leaf i64_0⟩,hm⟩
 refine CallE hQ Tryz.call129 he hm (fun q60 w hq61 hm a he =>?_) (fun q60 w hq61 hm =>?_) (c:=rname_ok G (i:=i) rl hws (by omega) hm)
 have hleq60:=takeP_le hq61
 refine BldT1 he hm fun a he =>?_
 refine Sto 1 he hm fun w hm a he =>?_
 refine go he hm fun a he =>?_
 have hmr:=hm
 replace hm:=hm.dl [1]
 refine RetA hQ he hmr ?_
 show Out (exprP ws (d+1) i) _ _
 rw [show exprP ws (d+1) i=.ok (.mk 2 0 q60.1 [] [],q60.2) from (expr_var0 h6 hn12 h16 hB47 (fun h=>absurd (h.2.symm.trans hB56) (by decide))).trans ((rbind_eq hq61).trans rfl)]
 exact ⟨(Φ,_),rfl,⟨Fz.Le.refl _,REx.leaf i64_0⟩,hm⟩
 replace hm:=hm.dl [0]
 show Out (exprP ws (d+1) i) _ _
 rw [show exprP ws (d+1) i=.error _ from (expr_var0 h6 hn12 h16 hB47 (fun h=>absurd (h.2.symm.trans hB56) (by decide))).trans (rbind_err hq61)]
 exact ⟨rfl,hm⟩
 refine CallE hQ Tryz.call129 he hm (fun q63 w hq64 hm a he =>?_) (fun q63 w hq64 hm =>?_) (c:=rname_ok G (i:=i) rl hws (by omega) hm)
 have hleq63:=takeP_le hq64
 refine BldT1 he hm fun a he =>?_
 refine Sto 1 he hm fun w hm a he =>?_
 refine go he hm fun a he =>?_
 have hmr:=hm
 replace hm:=hm.dl [1]
 refine RetA hQ he hmr ?_
 show Out (exprP ws (d+1) i) _ _
 rw [show exprP ws (d+1) i=.ok (.mk 2 0 q63.1 [] [],q63.2) from (expr_var0 h6 hn12 h16 hB47 (fun h=>h55 ((byteAt_some hc54).symm.trans h.1))).trans ((rbind_eq hq64).trans rfl)]
 exact ⟨(Φ,_),rfl,⟨Fz.Le.refl _,REx.leaf i64_0⟩,hm⟩
 replace hm:=hm.dl [0]
 show Out (exprP ws (d+1) i) _ _
 rw [show exprP ws (d+1) i=.error _ from (expr_var0 h6 hn12 h16 hB47 (fun h=>h55 ((byteAt_some hc54).symm.trans h.1))).trans (rbind_err hq64)]
 exact ⟨rfl,hm⟩
 rw [hn12] at he
 refine go he hm fun a he =>?_
 have hlt_:=peek_lt h6
 refine Sto 0 he hm fun w hm a he =>?_
 refine BldT1 he hm fun a he =>?_
 refine Sto 1 he hm fun w hm a he =>?_
 refine go he hm fun a he =>?_
 have hmr:=hm
 replace hm:=hm.dl [1]
 refine RetA hQ he hmr ?_
 show Out (exprP ws (d+1) i) _ _
 rw [show exprP ws (d+1) i=.ok (.mk 1 y9 ⟨#[]⟩ [] [],i+1) from expr_num h6 (hn12.trans (congrArg some (hG10 _ hn12).symm))]
 exact ⟨(Φ,_),rfl,⟨Fz.Le.refl _,REx.leaf (intP_i64 (hn12.trans (congrArg some (hG10 _ hn12).symm)))⟩,hm⟩
theorem rexpr_ok {ws:List Bs} (hws:ws.length≤1000000) (hsz:∀j,(peekP ws j).size≤1000000):∀d,d≤1000→ExprOk ws d
 | 0,_=>rexpr_zero hws
 | d+1,h=>rexpr_step (by omega) hws hsz (rexpr_ok hws hsz d (by omega))
end Go.Sw

namespace Go.Sw
open Go.Proofs
set_option maxRecDepth 20000
set_option maxHeartbeats 4000000
theorem rparam_ok {Φ:Fz} {K:List Res} {w:World} {r i:Nat} {rs:Value} {ws:List Bs} (G:Glob Φ) (rl:SliceOf RStr Φ 1 rs ws) (hws:ws.length≤1000000) (hi:i≤ws.length) (hm:Mem Φ (.blk r (ob [rs,.int .i64 ((i:Nat):Int)] 208)::K) w) :
  Calls Tryz.prog 127 (List.toArray [.pointer (some ⟨r,0,none⟩)]) w (fun ee w'=>Out (paramP ws i) (fun x=>ee=.returned (.agg (List.toArray [.string x.1.name,.string x.1.type]))∧Mem Φ (.blk r (ob [rs,.int .i64 ((x.2:Nat):Int)] 208)::K) w') (fun c=>ee=.panicked (wrongR c)∧Mem Φ K w')):=by
 obtain ⟨pw,cw,rfl,hmw,hnw⟩:=rl.fm
 refine Enter Tryz.func127 Tryz.ntmps127 fun Q hQ a he =>?_
 refine Alc he hm fun b2 w hm a he =>?_
 replace hm:=hm.pl 1
 refine CallE hQ Tryz.call129 he hm (fun q4 w hq5 hm a he =>?_) (fun q4 w hq5 hm =>?_) (c:=rname_ok G (i:=i) rl hws (by omega) hm)
 have hleq4:=takeP_le hq5
 refine CallE hQ Tryz.call177 he hm (fun q7 w hq8 hm a he =>?_) (fun q7 w hq8 hm =>?_) (c:=rnext_ok (x:=(⟨#[58]⟩:ByteArray)) (i:=q4.2) rl hws (by omega) hm)
 have hleq7:=nextP_le hq8
 refine CallE hQ Tryz.call176 he hm (fun q10 w hq11 hm a he =>?_) (fun q10 w hq11 hm =>?_) (c:=rcon_ok G (i:=q7.2) rl hws (by omega) hm)
 have hleq10:=takeP_le hq11
 refine BldT1 he hm fun a he =>?_
 refine Sto 1 he hm fun w hm a he =>?_
 refine go he hm fun a he =>?_
 have hmr:=hm
 replace hm:=hm.dl [1]
 refine RetA hQ he hmr ?_
 show Out (paramP ws i) _ _
 rw [show paramP ws i=.ok ((⟨q4.1,q10.1⟩:Param),q10.2) from (rbind_eq hq5).trans ((rbind_eq hq8).trans ((rbind_eq hq11).trans (rfl)))]
 exact ⟨rfl,hm⟩
 replace hm:=hm.dl [0]
 show Out (paramP ws i) _ _
 rw [show paramP ws i=.error _ from (rbind_eq hq5).trans ((rbind_eq hq8).trans (rbind_err hq11))]
 exact ⟨rfl,hm⟩
 replace hm:=hm.dl [0]
 show Out (paramP ws i) _ _
 rw [show paramP ws i=.error _ from (rbind_eq hq5).trans (rbind_err hq8)]
 exact ⟨rfl,hm⟩
 replace hm:=hm.dl [0]
 show Out (paramP ws i) _ _
 rw [show paramP ws i=.error _ from rbind_err hq5]
 exact ⟨rfl,hm⟩
theorem rdata_ok {Φ:Fz} {K:List Res} {w:World} {r i:Nat} {rs:Value} {ws:List Bs} (G:Glob Φ) (rl:SliceOf RStr Φ 1 rs ws) (hws:ws.length≤1000000) (hi:i≤ws.length) (hm:Mem Φ (.blk r (ob [rs,.int .i64 ((i:Nat):Int)] 208)::K) w) :
  Calls Tryz.prog 126 (List.toArray [.pointer (some ⟨r,0,none⟩)]) w (fun ee w'=>Out (dataP ws i) (fun x=>∃y:Fz×List Value,ee=.returned (.agg y.2.toArray)∧(Φ.Le y.1∧RData y.1 y.2 x.1)∧Mem y.1 (.blk r (ob [rs,.int .i64 ((x.2:Nat):Int)] 208)::K) w') (fun c=>ee=.panicked (wrongR c)∧Mem Φ K w')):=by
 obtain ⟨pw,cw,rfl,hmw,hnw⟩:=rl.fm
 refine Enter Tryz.func126 Tryz.ntmps126 fun Q hQ a he =>?_
 refine Alc he hm fun b2 w hm a he =>?_
 replace hm:=hm.pl 1
 refine CallE hQ Tryz.call176 he hm (fun q4 w hq5 hm a he =>?_) (fun q4 w hq5 hm =>?_) (c:=rcon_ok G (i:=i) rl hws (by omega) hm)
 have hleq4:=takeP_le hq5
 refine BldT1 he hm fun a he =>?_
 refine Alc he hm fun b6 w hm a he =>?_
 refine Sto 0 he hm fun w hm a he =>?_
 replace hm:=hm.pl 1
 refine CallE hQ Tryz.call177 he hm (fun q8 w hq9 hm a he =>?_) (fun q8 w hq9 hm =>?_) (c:=rnext_ok (x:=(⟨#[61]⟩:ByteArray)) (i:=q4.2) rl hws (by omega) hm)
 have hleq8:=nextP_le hq9
 refine go he hm fun a he =>?_
 replace hm:=hm.nilRow 135 2
 replace hm:=hm.nf
 refine loopK (he.ks [0,2,3]) hm (fun R m a w=>∃(Ψ10:Fz) (j:Nat) (u:Value) (cs:List Value) (xs:List Con) (f:Nat),m=ws.length - j∧R Ψ10 [] [(0,.gs (u) 135 2 cs),(1,.blk r (ob [.slice pw ws.length cw,.int .i64 ((j:Nat):Int)] 208)),(2,.blk b6 (ob [.string q4.1,u] 133))] a w∧(Φ.Le Ψ10∧(Chunks (RCon Ψ10) 2 cs xs∧xs.length≤j∧j≤ws.length∧xs.length+f=ws.length+1∧consP ws (ws.length+1) q8.2=pre1 xs (consP ws f j)))) (ws.length - q8.2) ⟨Φ,q8.2,.slice none 0 0,[],[],ws.length+1,rfl,⟨he.pk,hm⟩,⟨Fz.Le.refl _,⟨rfl,Nat.zero_le _,by omega,Nat.zero_add _,pre1_nil _⟩⟩⟩ ?_
 clear hm he
 rintro mm a w ⟨Ψ10,j,u,cs,xs,f,hmu,⟨he,hm⟩,hI13⟩ L12 hL12
 replace hm:=hm.nf
 obtain ⟨le11,hI13⟩:=hI13
 replace rl:=rl.up le11
 replace G:=G.mono le11
 obtain ⟨hch,hxl,hj,hf_,hI_⟩:=hI13
 replace hm:=hm.pl 1
 refine CallE hQ Tryz.call176 he hm (fun q15 w hq16 hm a he =>?_) (fun q15 w hq16 hm =>?_) (c:=rcon_ok G (i:=j) rl hws (by omega) hm)
 have hleq15:=takeP_le hq16
 refine BldT1 he hm fun a he =>?_
 refine Alc he hm fun b17 w hm a he =>?_
 refine Sto 0 he hm fun w hm a he =>?_
 refine go he hm fun a he =>?_
 replace hm:=hm.nilRow 9 1
 replace hm:=hm.nf
 refine loopK (he.ks [0,2,3,4]) hm (fun R m a w=>∃(j2:Nat) (u2:Value) (vs:List Bs) (f2:Nat),m=ws.length - j2∧R Ψ10 [] [(0,.gs (u2) 9 1 (strs vs)),(1,.blk b17 (ob [.string q15.1,u2] 135)),(2,.blk r (ob [.slice pw ws.length cw,.int .i64 ((j2:Nat):Int)] 208))] a w∧(vs.length≤j2∧j < j2∧j2≤ws.length∧vs.length+f2=ws.length+1∧fieldsP ws (ws.length+1) q15.2=pre1 vs (fieldsP ws f2 j2))) (ws.length - q15.2) ⟨q15.2,.slice none 0 0,[],ws.length+1,rfl,⟨he.pk,hm⟩,⟨Nat.zero_le _,by omega,by omega,Nat.zero_add _,pre1_nil _⟩⟩ ?_
 clear hm he
 rintro mm a w ⟨j2,u2,vs,f2,hmu,⟨he,hm⟩,hI20⟩ L19 hL19
 replace hm:=hm.nf
 obtain ⟨hvl,hj2,hj3,hf2_,hV_⟩:=hI20
 replace hm:=hm.pl 2
 refine CallR Tryz.call179 he hm (fun w hm a he =>?_) (c:=rpeek_ok (i:=j2) rl hws (by omega) hm)
 refine CallB Tryz.call178 he hm (fun hB23 w hm a he =>?_) (fun hB23 w hm a he =>?_) (c:=isCon_ok G hm)
 refine Reg [1,2,1,0,0,0,1,0] [2,3,4,5] he hm fun w hm a he =>?_
 refine CallE hQ Tryz.call176 he hm (fun q24 w hq25 hm a he =>?_) (fun q24 w hq25 hm =>?_) (c:=rcon_ok G (i:=j2) rl hws (by omega) hm)
 have hleq24:=takeP_le hq25
 refine BldS he hm fun v26 w hm a he =>?_
 refine App_ 2 rt_25 he hm (fun v27 w hm a he =>?_) (hb:=by simp [strs_length];omega)
 refine Sto 3 he hm fun w hm a he =>?_
 refine go he hm fun a he =>?_
 first | rw [strs_snoc] at hm | rw [← strs_append] at hm
 replace hm:=hm.ar [0] [5,5,5,3,5,5]
 refine hL19 _ _ _ (by subst hmu;omega) ⟨(q24.2),(v27),(vs++[q24.1]),(f2 - 1),rfl,⟨he.pk,by exact hm⟩,?_⟩
 exact ⟨by simp only [List.length_append,List.length_cons,List.length_nil];omega,by omega,by omega,by simp only [List.length_append,List.length_cons,List.length_nil];omega,fields_step hV_ (by omega) hB23 hq25⟩
 replace hm:=hm.dl [4,3,2,1,0]
 show Out (dataP ws i) _ _
 rw [show dataP ws i=.error _ from (rbind_eq hq5).trans ((rbind_eq hq9).trans (rbind_err (cons_fail2 hI_ (by omega) hq16 (fields_fail hV_ (by omega) hB23 hq25))))]
 exact ⟨rfl,hm.le (le11)⟩
 refine go he hm fun a he =>?_
 have hm0_:=hm
 clear hm
 obtain ⟨Ψ29,le30,hm,hrow31⟩:=hm0_.freezeRow (i:=1) rfl
 clear hm0_
 replace rl:=rl.up le30
 replace G:=G.mono le30
 replace hch:=hch.mono fun _ _ h=>RCon.mono _ _ _ _ le30 h
 replace hm:=hm.nf
 have hsl32:SliceOf RStr Ψ29 1 _ (vs):=SliceOf.strs.2 hrow31
 obtain ⟨p33,c34,hv_,hm35,hn36⟩:=hsl32.form (by decide)
 have hmk_:=hm
 clear hm
 subst hv_
 have hm:=hmk_
 clear hmk_
 have hv37:=fields_fin hV_ (by omega) hB23
 refine BldS he hm fun v38 w hm a he =>?_
 refine App_ 3 rt_131 he hm (fun v39 w hm a he =>?_)
 refine Sto 4 he hm fun w hm a he =>?_
 replace hm:=hm.pl 1
 refine CallR Tryz.call179 he hm (fun w hm a he =>?_) (c:=rpeek_ok (i:=j2) rl hws (by omega) hm)
 by_cases h42:(peekP ws j2)=(⟨#[124]⟩:ByteArray)
 refine go he hm fun a he =>?_
 have hlt_:=peek_eq_lt h42 (by decide)
 refine Sto 0 he hm fun w hm a he =>?_
 refine go he hm fun a he =>?_
 replace hm:=hm.ar [2,1] [3,3,2,3]
 refine hL12 _ _ _ (by subst hmu;omega) ⟨(Ψ29),(j2+1),(v39),((cs++[.string q15.1,.slice p33 (vs).length c34])),(xs++[(⟨q15.1,vs⟩:Con)]),(f - 1),rfl,⟨he.pk,by exact hm⟩,?_⟩
 refine ⟨(le11).trans le30,?_⟩
 exact ⟨(hch.snoc (k:=2) (x:=(⟨q15.1,vs⟩:Con)) rfl ⟨_,rfl,hsl32⟩),by simp only [List.length_append,List.length_cons,List.length_nil];omega,by omega,by simp only [List.length_append,List.length_cons,List.length_nil];omega,cons_step hI_ (by omega) hq16 hv37 h42⟩
 refine go he hm fun a he =>?_
 have hm0_:=hm
 clear hm
 obtain ⟨Ψ44,le45,hm,hrow46⟩:=hm0_.freezeRow (i:=3) rfl
 clear hm0_
 replace G:=G.mono le45
 replace hch:=hch.mono fun _ _ h=>RCon.mono _ _ _ _ le45 h
 replace hsl32:=hsl32.up le45
 replace hm:=hm.nf
 have hsl47:SliceOf RCon Ψ44 2 _ (xs++[(⟨q15.1,vs⟩:Con)]):=⟨_,hrow46,(hch.snoc (k:=2) (x:=(⟨q15.1,vs⟩:Con)) rfl ⟨_,rfl,hsl32⟩)⟩
 obtain ⟨p48,c49,hv_,hm50,hn51⟩:=hsl47.form (by decide)
 have hmk_:=hm
 clear hm
 subst hv_
 have hm:=hmk_
 clear hmk_
 refine Sto 4 he hm fun w hm a he =>?_
 refine go he hm fun a he =>?_
 have hmr:=hm
 replace hm:=hm.dl [4,3,2,1]
 refine RetA hQ he hmr ?_
 show Out (dataP ws i) _ _
 rw [show dataP ws i=.ok ((⟨q4.1,xs++[(⟨q15.1,vs⟩:Con)]⟩:Data),j2) from (rbind_eq hq5).trans ((rbind_eq hq9).trans ((rbind_eq (cons_fin hI_ (by omega) hq16 hv37 h42)).trans rfl))]
 exact ⟨(Ψ44,_),rfl,⟨((le11).trans le30).trans le45,⟨_,rfl,hsl47⟩⟩,hm⟩
 replace hm:=hm.dl [2,1,0]
 show Out (dataP ws i) _ _
 rw [show dataP ws i=.error _ from (rbind_eq hq5).trans ((rbind_eq hq9).trans (rbind_err (cons_fail1 hI_ (by omega) hq16)))]
 exact ⟨rfl,hm.le (le11)⟩
 replace hm:=hm.dl [1,0]
 show Out (dataP ws i) _ _
 rw [show dataP ws i=.error _ from (rbind_eq hq5).trans (rbind_err hq9)]
 exact ⟨rfl,hm⟩
 replace hm:=hm.dl [0]
 show Out (dataP ws i) _ _
 rw [show dataP ws i=.error _ from rbind_err hq5]
 exact ⟨rfl,hm⟩
end Go.Sw

namespace Go.Sw
open Go.Proofs
set_option maxRecDepth 20000
set_option maxHeartbeats 4000000
theorem rfun_ok {Φ:Fz} {K:List Res} {w:World} {r i:Nat} {rs:Value} {ws:List Bs} (hE:ExprOk ws 250) (G:Glob Φ) (rl:SliceOf RStr Φ 1 rs ws) (hws:ws.length≤1000000) (hi:i≤ws.length) (hm:Mem Φ (.blk r (ob [rs,.int .i64 ((i:Nat):Int)] 208)::K) w) :
  Calls Tryz.prog 128 (List.toArray [.pointer (some ⟨r,0,none⟩)]) w (fun ee w'=>Out (funP ws i) (fun x=>∃y:Fz×List Value,ee=.returned (.agg y.2.toArray)∧(Φ.Le y.1∧RFun y.1 y.2 x.1)∧Mem y.1 (.blk r (ob [rs,.int .i64 ((x.2:Nat):Int)] 208)::K) w') (fun c=>ee=.panicked (wrongR c)∧Mem Φ K w')):=by
 obtain ⟨pw,cw,rfl,hmw,hnw⟩:=rl.fm
 refine Enter Tryz.func128 Tryz.ntmps128 fun Q hQ a he =>?_
 refine Alc he hm fun b2 w hm a he =>?_
 replace hm:=hm.pl 1
 refine CallE hQ Tryz.call129 he hm (fun q4 w hq5 hm a he =>?_) (fun q4 w hq5 hm =>?_) (c:=rname_ok G (i:=i) rl hws (by omega) hm)
 have hleq4:=takeP_le hq5
 refine BldT1 he hm fun a he =>?_
 refine Alc he hm fun b6 w hm a he =>?_
 refine Sto 0 he hm fun w hm a he =>?_
 refine go he hm fun a he =>?_
 replace hm:=hm.nilRow 72 2
 replace hm:=hm.nf
 refine loopK (he.ks [0,2,3]) hm (fun R m a w=>∃(j:Nat) (u:Value) (cs:List Value) (xs:List Param) (f:Nat),m=ws.length - j∧R Φ [] [(0,.gs (u) 72 2 cs),(1,.blk b6 (ob [.string q4.1,u,.string ⟨#[]⟩,.int .i64 ((0:Nat):Int),.int .i64 ((0:Nat):Int),.string ⟨#[]⟩,.slice none 0 0,.slice none 0 0] 68)),(2,.blk r (ob [.slice pw ws.length cw,.int .i64 ((j:Nat):Int)] 208))] a w∧(Chunks (RParam Φ) 2 cs xs∧xs.length≤j∧j≤ws.length∧xs.length+f=ws.length+1∧paramsP ws (ws.length+1) q4.2=pre1 xs (paramsP ws f j))) (ws.length - q4.2) ⟨q4.2,.slice none 0 0,[],[],ws.length+1,rfl,⟨he.pk,hm⟩,⟨rfl,Nat.zero_le _,by omega,Nat.zero_add _,pre1_nil _⟩⟩ ?_
 clear hm he
 rintro mm a w ⟨j,u,cs,xs,f,hmu,⟨he,hm⟩,hI9⟩ L8 hL8
 replace hm:=hm.nf
 obtain ⟨hch,hxl,hj,hf_,hI_⟩:=hI9
 replace hm:=hm.pl 2
 refine CallR Tryz.call179 he hm (fun w hm a he =>?_) (c:=rpeek_ok (i:=j) rl hws (by omega) hm)
 by_cases h12:(peekP ws j)=(⟨#[40]⟩:ByteArray)
 refine go he hm fun a he =>?_
 have hlt_:=peek_eq_lt h12 (by decide)
 refine Sto 0 he hm fun w hm a he =>?_
 refine Reg [1,2,1,0,0,0,1,0] [2,3] he hm fun w hm a he =>?_
 refine CallE hQ Tryz.call127 he hm (fun q15 w hq16 hm a he =>?_) (fun q15 w hq16 hm =>?_) (c:=rparam_ok G (i:=(j+1)) rl hws (by omega) hm)
 have hleq15:=param_le hq16
 refine BldS he hm fun v17 w hm a he =>?_
 refine App_ 2 rt_23 he hm (fun v18 w hm a he =>?_)
 refine Sto 3 he hm fun w hm a he =>?_
 replace hm:=hm.pl 1
 refine CallE hQ Tryz.call177 he hm (fun q19 w hq20 hm a he =>?_) (fun q19 w hq20 hm =>?_) (c:=rnext_ok (x:=(⟨#[41]⟩:ByteArray)) (i:=q15.2) rl hws (by omega) hm)
 have hleq19:=nextP_le hq20
 refine go he hm fun a he =>?_
 replace hm:=hm.ar [1] [3,1,3,3]
 refine hL8 _ _ _ (by subst hmu;omega) ⟨(q19.2),(v18),((cs++[.string q15.1.name,.string q15.1.type])),(xs++[q15.1]),(f - 1),rfl,⟨he.pk,by exact hm⟩,?_⟩
 exact ⟨(hch.snoc (k:=2) (x:=q15.1) rfl rfl),by simp only [List.length_append,List.length_cons,List.length_nil];omega,by omega,by simp only [List.length_append,List.length_cons,List.length_nil];omega,params_step hI_ (by omega) h12 hq16 hq20⟩
 replace hm:=hm.dl [3,2,1,0]
 show Out (funP ws i) _ _
 rw [show funP ws i=.error _ from (rbind_eq hq5).trans (rbind_err (params_fail2 hI_ (by omega) h12 hq16 hq20))]
 exact ⟨rfl,hm⟩
 replace hm:=hm.dl [2,1,0]
 show Out (funP ws i) _ _
 rw [show funP ws i=.error _ from (rbind_eq hq5).trans (rbind_err (params_fail1 hI_ (by omega) h12 hq16))]
 exact ⟨rfl,hm⟩
 refine go he hm fun a he =>?_
 have hm0_:=hm
 clear hm
 obtain ⟨Ψ22,le23,hm,hrow24⟩:=hm0_.freezeRow (i:=1) rfl
 clear hm0_
 replace rl:=rl.up le23
 replace G:=G.mono le23
 replace hch:=hch.mono fun _ _ h=>RParam.mono _ _ _ _ le23 h
 replace hm:=hm.nf
 have hsl25:SliceOf RParam Ψ22 2 _ (xs):=⟨_,hrow24,hch⟩
 obtain ⟨p26,c27,hv_,hm28,hn29⟩:=hsl25.form (by decide)
 have hmk_:=hm
 clear hm
 subst hv_
 have hm:=hmk_
 clear hmk_
 have hv30:=params_fin hI_ (by omega) h12
 refine CallE hQ Tryz.call177 he hm (fun q31 w hq32 hm a he =>?_) (fun q31 w hq32 hm =>?_) (c:=rnext_ok (x:=(⟨#[58]⟩:ByteArray)) (i:=j) rl hws (by omega) hm)
 have hleq31:=nextP_le hq32
 refine CallE hQ Tryz.call176 he hm (fun q34 w hq35 hm a he =>?_) (fun q34 w hq35 hm =>?_) (c:=rcon_ok G (i:=q31.2) rl hws (by omega) hm)
 have hleq34:=takeP_le hq35
 refine Sto 1 he hm fun w hm a he =>?_
 refine CallE hQ Tryz.call177 he hm (fun q37 w hq38 hm a he =>?_) (fun q37 w hq38 hm =>?_) (c:=rnext_ok (x:=(⟨#[61]⟩:ByteArray)) (i:=q34.2) rl hws (by omega) hm)
 have hleq37:=nextP_le hq38
 refine CallX hQ Tryz.call180 he hm (fun q40 y41 w hq42 hG43 hm a he =>?_) (fun q40 w hq42 hm =>?_) (c:=hE G rl (i:=q37.2) (by omega) hm)
 obtain ⟨Ψ44,d45⟩:=y41
 obtain ⟨le46,hr47⟩:=hG43
 simp only at le46 hr47 hm he
 have hgo48:=expr_goes 250 _ _ hq42
 replace G:=G.mono le46
 replace hsl25:=hsl25.up le46
 replace hm:=hm.nf
 obtain ⟨p51,c52,p57,c58,rfl,hi61,h50,h56,hm53,hn54,hm59,hn60⟩:=REx.fm hr47
 refine Sto 1 he hm fun w hm a he =>?_
 refine Sto 2 he hm fun w hm a he =>?_
 refine go he hm fun a he =>?_
 have hmr:=hm
 replace hm:=hm.dl [2,1]
 refine RetA hQ he hmr ?_
 show Out (funP ws i) _ _
 rw [show funP ws i=.ok ((⟨q4.1,xs,q34.1,q40.1⟩:Fun),q40.2) from (rbind_eq hq5).trans ((rbind_eq hv30).trans ((rbind_eq hq32).trans ((rbind_eq hq35).trans ((rbind_eq hq38).trans ((rbind_eq hq42).trans (rfl))))))]
 exact ⟨(Ψ44,_),rfl,⟨(le23).trans le46,⟨_,_,rfl,hsl25,hr47⟩⟩,hm⟩
 replace hm:=hm.dl [1,0]
 show Out (funP ws i) _ _
 rw [show funP ws i=.error _ from (rbind_eq hq5).trans ((rbind_eq hv30).trans ((rbind_eq hq32).trans ((rbind_eq hq35).trans ((rbind_eq hq38).trans (rbind_err hq42)))))]
 exact ⟨rfl,hm.le (le23)⟩
 replace hm:=hm.dl [1,0]
 show Out (funP ws i) _ _
 rw [show funP ws i=.error _ from (rbind_eq hq5).trans ((rbind_eq hv30).trans ((rbind_eq hq32).trans ((rbind_eq hq35).trans (rbind_err hq38))))]
 exact ⟨rfl,hm.le (le23)⟩
 replace hm:=hm.dl [1,0]
 show Out (funP ws i) _ _
 rw [show funP ws i=.error _ from (rbind_eq hq5).trans ((rbind_eq hv30).trans ((rbind_eq hq32).trans (rbind_err hq35)))]
 exact ⟨rfl,hm.le (le23)⟩
 replace hm:=hm.dl [1,0]
 show Out (funP ws i) _ _
 rw [show funP ws i=.error _ from (rbind_eq hq5).trans ((rbind_eq hv30).trans (rbind_err hq32))]
 exact ⟨rfl,hm.le (le23)⟩
 replace hm:=hm.dl [0]
 show Out (funP ws i) _ _
 rw [show funP ws i=.error _ from rbind_err hq5]
 exact ⟨rfl,hm⟩
end Go.Sw

namespace Go.Sw
open Go.Proofs
set_option maxRecDepth 20000
set_option maxHeartbeats 4000000
theorem words_ok {Φ:Fz} {K:List Res} {w:World} {t:Bs} (hm:Mem Φ K w) :
  Calls Tryz.prog 125 (List.toArray [.string t]) w (fun ee w'=>∃y:Nat,ee=.returned (.func (.func 174) (List.toArray []) (List.toArray [.pointer (some ⟨y,0,none⟩)]))∧True∧Mem Φ (.blk y (ob [.string t] 9)::K) w'):=by
 refine Enter Tryz.func125 Tryz.ntmps125 fun Q hQ a he =>?_
 refine Bx he hm fun b2 w hm a he =>?_
 refine Ret1 hQ he hm ?_
 exact ⟨_,rfl,trivial,hm⟩
theorem words1_ok {β:Type} {Φ:Fz} {w:World} {t:Bs} {bx l:Nat} {KY:List Bs→β→List Res} {z:β} (h2:t.size≤1000000) (hasc:AscB t)
  (hy:∀pre z K0 (k:Bs) w,pre.length < t.size→Mem Φ (K0++KY pre z) w→YieldAt Fence.wide 2 Tryz.prog l #[.string k] w (fun e w'=>e=.returned (.bool true)∧∃z',Mem Φ (K0++KY (pre++[k]) z') w'))
  (hm:Mem Φ (.blk bx (ob [.string t] 9)::KY [] z) w) :
  Calls Tryz.prog 174 (List.toArray [.func (.yield l) #[] #[],.pointer (some ⟨bx,0,none⟩)]) w (fun ee w'=>∃y:β,ee=.returned (.tuple #[])∧Mem Φ (KY (wordsF t) y) w'):=by
 refine Enter Tryz.func174 Tryz.ntmps174 fun Q hQ a he =>?_
 refine sq fun L1 hL1 =>?_
 refine go0 he hm fun a he =>?_
 refine hL1 _ _ ?_
 refine go0 he hm fun a he =>?_
 refine loopI (fun mm a w=>∃(i:Nat) (f:Nat) (pre:List Bs) (z0:β),mm=t.size - i∧EnvR 52 [(0,.func (.yield l) #[] #[]),(1,.pointer (some ⟨bx,0,none⟩)),(3,.int .i64 ((i:Nat):Int))] [] a∧Mem Φ (.blk bx (ob [.string t] 9)::KY pre z0) w∧(i≤t.size∧pre.length≤i∧t.size≤i+f∧wordsF t=pre++wordsP t f i)) (t.size - 0) ⟨0,t.size,[],z,rfl,he.pk,hm,⟨Nat.zero_le _,Nat.zero_le _,by omega,rfl⟩⟩ ?_
 clear hm he
 rintro mm a w ⟨i,f,pre,z0,hmu,he,hm,hI3⟩ L2 hL2
 obtain ⟨hi0_,hi1_,hi2_,hI_⟩:=hI3
 refine sq fun L4 hL4 =>?_
 refine sq fun L5 hL5 =>?_
 refine go0 he hm fun a he =>?_
 by_cases h6:i < t.size
 refine go0 he hm fun a he =>?_
 refine hL5 _ _ ?_
 refine go0 he hm fun a he =>?_
 refine hL4 _ _ ?_
 refine go0 he hm fun a he =>?_
 refine sq fun L7 hL7 =>?_
 refine go0 he hm fun a he =>?_
 obtain ⟨c8,hc9⟩:=byte_of_lt h6
 refine Qq he hm (fun a he =>?_) (o:=by exact fun _ _ _ he hs=>y_index_str i c8 he rfl rfl Tryz.runUnderlying9 hc9)
 refine go0 he hm fun a he =>?_
 refine hL7 _ _ ?_
 refine go0 he hm fun a he =>?_
 refine sq fun L10 hL10 =>?_
 have hJ11:∀a w,(EnvR 52 [(0,.func (.yield l) #[] #[]),(1,.pointer (some ⟨bx,0,none⟩)),(3,.int .i64 ((i:Nat):Int)),(11,.int .u8 ((c8.toNat:Nat):Int)),(34,.bool (decide (byteAt t i=32∨byteAt t i=10)))] [] a∧Mem Φ (.blk bx (ob [.string t] 9)::KY pre z0) w∧(True))→L10 a w:=by
  clear hm he
  rintro a w ⟨he,hm,hI12⟩
  refine hL10 _ _ ?_
  generalize hb14:(decide (byteAt t i=32∨byteAt t i=10))=bb13 at he
  cases bb13
  refine go0 he hm fun a he =>?_
  refine sq fun L15 hL15 =>?_
  have hJ16:∀a w,(EnvR 52 [(0,.func (.yield l) #[] #[]),(1,.pointer (some ⟨bx,0,none⟩)),(3,.int .i64 ((i:Nat):Int)),(39,.bool (decide (byteAt t i=40∨byteAt t i=41)))] [] a∧Mem Φ (.blk bx (ob [.string t] 9)::KY pre z0) w∧(True))→L15 a w:=by
   clear hm he
   rintro a w ⟨he,hm,hI17⟩
   refine hL15 _ _ ?_
   generalize hb19:(decide (byteAt t i=40∨byteAt t i=41))=bb18 at he
   cases bb18
   refine go0 he hm fun a he =>?_
   refine sq fun L20 hL20 =>?_
   refine go0 he hm fun a he =>?_
   have hwl_:=wordLen_le (t:=t) (i:=i) (by omega)
   have hwp_:=wordLen_pos h6 (of_decide_eq_false hb14) (of_decide_eq_false hb19)
   refine go0 he hm fun a he =>?_
   refine Qq he hm (fun a he =>?_) (o:=by exact fun _ _ _ he hs=>y_slice_str i (t.size) he rfl Tryz.runUnderlying9 ⟨_,rfl⟩ rfl (by omega) (by exact Nat.le_refl _))
   refine CallR Tryz.call175 he hm (fun w hm a he =>?_) (c:=anyIx_ok (i:=i) hasc (by omega) (by omega) hm)
   refine go0 he hm fun a he =>?_
   refine hL20 _ _ ?_
   refine sq fun L21 hL21 =>?_
   have hJ22:∀a w,(EnvR 52 [(0,.func (.yield l) #[] #[]),(1,.pointer (some ⟨bx,0,none⟩)),(3,.int .i64 ((i:Nat):Int)),(4,.int .i64 ((wordLen t i:Nat):Int))] [] a∧Mem Φ (.blk bx (ob [.string t] 9)::KY pre z0) w∧(True))→L21 a w:=by
    clear hm he
    rintro a w ⟨he,hm,hI23⟩
    refine hL21 _ _ ?_
    refine sq fun L24 hL24 =>?_
    refine sq fun L25 hL25 =>?_
    refine wp_region_in ?_
    refine in_ok he (by intro c h;cases h) (y_move he rfl) rfl fun a he =>?_
    refine in_ok he (by intro c h;cases h) (y_load_own 0 he hm.toSees rfl rfl rfl Tryz.isAgg9) rfl fun a he =>?_
    refine in_ok he (by intro c h;cases h) (y_move he rfl) rfl fun a he =>?_
    refine in_ok he (by intro c h;cases h) (y_move he rfl) rfl fun a he =>?_
    refine in_ok he (by intro c h;cases h) (y_move he rfl) rfl fun a he =>?_
    refine in_ok he (by intro c h;cases h) (y_inc (i:=i) (j:=wordLen t i) he rfl rfl (by omega)) rfl fun a he =>?_
    refine in_ok he (by intro c h;cases h) (y_slice_str i (i+wordLen t i) he rfl Tryz.runUnderlying9 ⟨_,rfl⟩ ⟨_,rfl⟩ (by omega) (by omega)) rfl fun a he =>?_
    refine in_yield (v:=.string (t.extract i (i+wordLen t i))) he rfl rfl rfl (hy pre z0 [.blk bx (ob [.string t] 9)] (t.extract i (i+wordLen t i)) w (by omega) hm) fun w hJ_ a he =>?_
    obtain ⟨z26,hm⟩:=hJ_
    replace hm:=hm.nf
    refine in_ok he (by intro c h;cases h) (y_not he rfl) rfl fun a he =>?_
    refine wpListIn_nil ?_
    refine hL25 _ _ ?_
    refine go0 he hm fun a he =>?_
    refine hL24 _ _ ?_
    refine go0 he hm fun a he =>?_
    refine Qq he hm (fun a he =>?_) (o:=by exact fun _ _ _ he hs=>y_inc (i:=i) (j:=(wordLen t i)) he rfl rfl (by omega))
    refine go0 he hm fun a he =>?_
    refine hL2 _ _ _ (by subst hmu;omega) ⟨((i+(wordLen t i))),(f - 1),(pre++[(t.extract i (i+wordLen t i))]),(z26),rfl,he.pk,hm,?_⟩
    exact ⟨by omega,by simp only [List.length_append,List.length_cons,List.length_nil];omega,by omega,by rw [hI_,words_word h6 (by omega) (of_decide_eq_false hb14) (of_decide_eq_false hb19),List.append_assoc];rfl⟩
   refine sq fun L27 hL27 =>?_
   refine go0 he hm fun a he =>?_
   by_cases h28:(if i+wordLen t i < t.size then ((wordLen t i:Nat):Int) else -1) < 0
   refine go0 he hm fun a he =>?_
   refine hL27 _ _ ?_
   refine go0 he hm fun a he =>?_
   have hwn_:=word_neg (by omega) h28
   refine go0 he hm fun a he =>?_
   refine Qq he hm (fun a he =>?_) (o:=by exact fun _ _ _ he hs=>y_sub ((wordLen t i:Nat):Int) he rfl rfl (by rw [wrap64 (by omega)];omega))
   refine go0 he hm fun a he =>?_
   exact hJ22 _ _ ⟨he.pk,hm,trivial⟩
   refine go0 he hm fun a he =>?_
   refine hL27 _ _ ?_
   refine go0 he hm fun a he =>?_
   rw [word_pos h28] at he
   exact hJ22 _ _ ⟨he.pk,hm,trivial⟩
   refine go0 he hm fun a he =>?_
   refine sq fun L29 hL29 =>?_
   refine sq fun L30 hL30 =>?_
   refine wp_region_in ?_
   refine in_ok he (by intro c h;cases h) (y_move he rfl) rfl fun a he =>?_
   refine in_ok he (by intro c h;cases h) (y_load_own 0 he hm.toSees rfl rfl rfl Tryz.isAgg9) rfl fun a he =>?_
   refine in_ok he (by intro c h;cases h) (y_move he rfl) rfl fun a he =>?_
   refine in_ok he (by intro c h;cases h) (y_move he rfl) rfl fun a he =>?_
   refine in_ok he (by intro c h;cases h) (y_inc (i:=i) (j:=1) he rfl rfl (by omega)) rfl fun a he =>?_
   refine in_ok he (by intro c h;cases h) (y_slice_str i (i+1) he rfl Tryz.runUnderlying9 ⟨_,rfl⟩ ⟨_,rfl⟩ (by omega) (by omega)) rfl fun a he =>?_
   refine in_yield (v:=.string (t.extract i (i+1))) he rfl rfl rfl (hy pre z0 [.blk bx (ob [.string t] 9)] (t.extract i (i+1)) w (by omega) hm) fun w hJ_ a he =>?_
   obtain ⟨z31,hm⟩:=hJ_
   replace hm:=hm.nf
   refine in_ok he (by intro c h;cases h) (y_not he rfl) rfl fun a he =>?_
   refine wpListIn_nil ?_
   refine hL30 _ _ ?_
   refine go0 he hm fun a he =>?_
   refine hL29 _ _ ?_
   refine go0 he hm fun a he =>?_
   refine hL2 _ _ _ (by subst hmu;omega) ⟨((i+1)),(f - 1),(pre++[(t.extract i (i+1))]),(z31),rfl,he.pk,hm,?_⟩
   exact ⟨by omega,by simp only [List.length_append,List.length_cons,List.length_nil];omega,by omega,by rw [hI_,words_par h6 (by omega) (of_decide_eq_false hb14) (of_decide_eq_true hb19),List.append_assoc];rfl⟩
  refine sq fun L32 hL32 =>?_
  refine go0 he hm fun a he =>?_
  by_cases h33:c8.toNat=40
  refine go0 he hm fun a he =>?_
  refine hL32 _ _ ?_
  refine go0 he hm fun a he =>?_
  exact hJ16 _ _ (by rw [show decide (byteAt t i=40∨byteAt t i=41)=true from decide_eq_true (.inl ((byteAt_some hc9).trans h33))];exact ⟨he.pk,hm,trivial⟩)
  refine go0 he hm fun a he =>?_
  refine hL32 _ _ ?_
  refine go0 he hm fun a he =>?_
  by_cases h34:c8.toNat=41
  refine go0 he hm fun a he =>?_
  exact hJ16 _ _ (by rw [show decide (byteAt t i=40∨byteAt t i=41)=true from decide_eq_true (.inr ((byteAt_some hc9).trans h34))];exact ⟨he.pk,hm,trivial⟩)
  refine go0 he hm fun a he =>?_
  exact hJ16 _ _ (by rw [show decide (byteAt t i=40∨byteAt t i=41)=false from decide_eq_false (by rw [byteAt_some hc9];exact fun hh=>hh.elim h33 h34)];exact ⟨he.pk,hm,trivial⟩)
  refine go0 he hm fun a he =>?_
  refine hL2 _ _ _ (by subst hmu;omega) ⟨(i+1),(f - 1),(pre),(z0),rfl,he.pk,hm,?_⟩
  exact ⟨by omega,by omega,by omega,by rw [hI_,words_sp h6 (by omega) (of_decide_eq_true hb14)]⟩
 refine sq fun L35 hL35 =>?_
 refine go0 he hm fun a he =>?_
 by_cases h36:c8.toNat=32
 refine go0 he hm fun a he =>?_
 refine hL35 _ _ ?_
 refine go0 he hm fun a he =>?_
 exact hJ11 _ _ (by rw [show decide (byteAt t i=32∨byteAt t i=10)=true from decide_eq_true (.inl ((byteAt_some hc9).trans h36))];exact ⟨he.pk,hm,trivial⟩)
 refine go0 he hm fun a he =>?_
 refine hL35 _ _ ?_
 refine go0 he hm fun a he =>?_
 by_cases h37:c8.toNat=10
 refine go0 he hm fun a he =>?_
 exact hJ11 _ _ (by rw [show decide (byteAt t i=32∨byteAt t i=10)=true from decide_eq_true (.inr ((byteAt_some hc9).trans h37))];exact ⟨he.pk,hm,trivial⟩)
 refine go0 he hm fun a he =>?_
 exact hJ11 _ _ (by rw [show decide (byteAt t i=32∨byteAt t i=10)=false from decide_eq_false (by rw [byteAt_some hc9];exact fun hh=>hh.elim h36 h37)];exact ⟨he.pk,hm,trivial⟩)
 refine go0 he hm fun a he =>?_
 refine hL5 _ _ ?_
 refine go0 he hm fun a he =>?_
 replace hm:=hm.dl [0]
 refine hQ _ _ _ (ret0N he Tryz.results174 ?_)
 rw [hI_,words_end h6,List.append_nil];exact ⟨z0,rfl,hm⟩
end Go.Sw

namespace Go.Sw
open Go.Proofs
set_option maxRecDepth 20000
set_option maxHeartbeats 4000000
theorem read_rest {Φ:Fz} {K:List Res} {w:World} {a:Act} {D:List Deferred} {Q:Exit→Act→World→Prop} {rs:Value} {ws:List Bs} {c0 wd rp r:Nat} (G:Glob Φ) (hE:ExprOk ws 250) (rl:SliceOf RStr Φ 1 rs ws) (hws:ws.length≤1000000)
  (hR:∀{Ψ:Fz} {a:Act} {w:World} {C:Core} {u0 u1 u2 u3:Value},declsP ws (ws.length+1) ⟨[],[],[],[]⟩ 0=.ok C→Φ.Le Ψ→SliceOf RData Ψ 2 u0 C.datas→SliceOf RParam Ψ 2 u1 C.inputs→SliceOf RFun Ψ 8 u2 C.funs→EnvR 96 [(3,.pointer (some ⟨wd,0,none⟩)),(2,.pointer (some ⟨c0,0,none⟩))] D a→Mem Ψ (.blk c0 (ob [u0,u1,u2,u3] 27)::.blk wd (ob [.int .i64 ((0:Nat):Int)] 3)::.gs u3 9 1 (strs C.outputs)::K) w→Q .ret a w)
  (hP:∀{Ψ:Fz} {a:Act} {w:World} {n:Nat} {u0 u1 u2 u3 x:Value},declsP ws (ws.length+1) ⟨[],[],[],[]⟩ 0=.error n→Φ.Le Ψ→EnvR 96 [(3,.pointer (some ⟨wd,0,none⟩)),(2,.pointer (some ⟨c0,0,none⟩))] D a→Mem Ψ (.blk c0 (ob [u0,u1,u2,u3] 27)::.blk wd (ob [x] 3)::K) w→Q (.panic (wrongR n)) a w)
  (he:EnvR 96 [(2,.pointer (some ⟨c0,0,none⟩)),(3,.pointer (some ⟨wd,0,none⟩)),(4,.pointer (some ⟨rp,0,none⟩))] D a) (hm:Mem Φ (.blk r (ob [rs,.int .i64 ((0:Nat):Int)] 208)::.blk rp (ob [.pointer (some ⟨r,0,none⟩)] 206)::.blk c0 (ob [.slice none 0 0,.slice none 0 0,.slice none 0 0,.slice none 0 0] 27)::.blk wd (ob [.int .i64 ((0:Nat):Int)] 3)::K) w) :
  (seqR (seqR (seqR (seqR (Tryz.f74.body.getD .skip))))).wp Tryz.prog Q a w:=by
 obtain ⟨pw,cw,rfl,hmw,hnw⟩:=rl.fm
 change (Code.seq _ _).wp _ _ _ _
 refine go he hm fun a he =>?_
 replace hm:=hm.nilRow 133 2
 replace hm:=hm.nf
 replace hm:=hm.nilRow 72 2
 replace hm:=hm.nf
 replace hm:=hm.nilRow 68 8
 replace hm:=hm.nf
 replace hm:=hm.nilRow 9 1
 replace hm:=hm.nf
 refine loopK (he.ks [2,3,4]) hm (fun R mm a w=>∃(Ψ2:Fz) (j:Nat) (f:Nat) (u0:Value) (u1:Value) (u2:Value) (u3:Value) (d0:List Value) (d1:List Value) (d2:List Value) (C:Core),mm=ws.length - j∧R Ψ2 [] [(0,.gs (u3) 9 1 (strs C.outputs)),(1,.gs (u2) 68 8 d2),(2,.gs (u1) 72 2 d1),(3,.gs (u0) 133 2 d0),(4,.blk r (ob [.slice pw ws.length cw,.int .i64 ((j:Nat):Int)] 208)),(6,.blk c0 (ob [u0,u1,u2,u3] 27))] a w∧(Φ.Le Ψ2∧(Chunks (RData Ψ2) 2 d0 C.datas∧Chunks (RParam Ψ2) 2 d1 C.inputs∧Chunks (RFun Ψ2) 8 d2 C.funs∧(C.datas.length≤j∧C.inputs.length≤j∧C.funs.length≤j∧C.outputs.length≤j)∧j≤ws.length∧ws.length+1≤j+f∧declsP ws (ws.length+1) ⟨[],[],[],[]⟩ 0=declsP ws f C j))) (ws.length - 0) ⟨Φ,0,ws.length+1,.slice none 0 0,.slice none 0 0,.slice none 0 0,.slice none 0 0,[],[],[],⟨[],[],[],[]⟩,rfl,⟨he.pk,hm⟩,⟨Fz.Le.refl _,⟨rfl,rfl,rfl,⟨Nat.le_refl _,Nat.le_refl _,Nat.le_refl _,Nat.le_refl _⟩,Nat.zero_le _,by omega,rfl⟩⟩⟩ ?_
 clear hm he
 rintro mm a w ⟨Ψ2,j,f,u0,u1,u2,u3,d0,d1,d2,C,hmu,⟨he,hm⟩,hI5⟩ L4 hL4
 replace hm:=hm.nf
 obtain ⟨le3,hI5⟩:=hI5
 replace rl:=rl.up le3
 replace G:=G.mono le3
 obtain ⟨hch0,hch1,hch2,hln_,hj,hf_,hI_⟩:=hI5
 refine Reg [2,1,1,2,2,1,1,2,1,1] [0,1,2,3,4,5,6,7] he hm fun w hm a he =>?_
 refine go he hm fun a he =>?_
 by_cases h8:j < ws.length
 refine Sto 4 he hm fun w hm a he =>?_
 refine Reg [2,1,1,2,2,1,1,2,1,1,2] [0,1,2,3,4,5,6,7] he hm fun w hm a he =>?_
 refine Qq he hm (fun a he =>?_) (o:=by exact fun _ _ _ he hs=>y_sub ((j:Nat):Int) he rfl rfl (by rw [wrap64 (by omega)];omega))
 obtain ⟨q11,rfl,x12,hx13,cs14,hl15,ha16,hr17⟩:=rl.el hnw h8
 obtain rfl:cs14=[.string x12]:=hr17
 refine go he hm fun a he =>?_
 by_cases h19:x12=(⟨#[100,97,116,97]⟩:ByteArray)
 refine go he hm fun a he =>?_
 refine region_planE (E0:=[(3,.pointer (some ⟨wd,0,none⟩)),(2,.pointer (some ⟨c0,0,none⟩))]) [1,2,2,0,0,0,1,0] (.q 0 (.q 1 (.q 2 (.e 3 (.e 4 (.e 5 (.q 6 (.e 7 (.done))))))))) [.gs (u3) 9 1 (strs C.outputs),.gs (u2) 68 8 d2,.gs (u1) 72 2 d1,.blk rp (ob [.pointer (some ⟨r,0,none⟩)] 206),.blk c0 (ob [u0,u1,u2,u3] 27),.blk wd (ob [.int .i64 ((0:Nat):Int)] 3)] (he.pk) hm mixed (by kernel_rfl) (by simp) (by kernel_rfl) fun w hm =>?_
 refine go he hm fun a he =>?_
 replace hm:=hm.pl 4
 refine d_e he rfl rfl rfl (eff_callX he rfl Tryz.call126 (rdata_ok G (i:=(j+1)) rl hws (by omega) hm) (fun q20 y21 w hq22 hG23 hm=>⟨fun _=>hm.sn ((Fz.Le.refl _).trans (hG23.1)),fun a he =>?_⟩) (fun q20 w hq22 hm=>fun a he =>?_))
 obtain ⟨Ψ24,d25⟩:=y21
 obtain ⟨le26,hr27⟩:=hG23
 simp only at le26 hr27 hm he
 have hgo28:=data_le hq22
 replace rl:=rl.up le26
 replace G:=G.mono le26
 replace hch0:=hch0.mono fun _ _ h=>RData.mono _ _ _ _ le26 h
 replace hch1:=hch1.mono fun _ _ h=>RParam.mono _ _ _ _ le26 h
 replace hch2:=hch2.mono fun _ _ h=>RFun.mono _ _ _ _ le26 h
 replace hm:=hm.nf
 obtain ⟨s29,rfl,h30⟩:=id hr27
 obtain ⟨p31,c32,rfl,hm33,hn34⟩:=h30.fm
 refine BldS he hm fun v35 w hm a he =>?_
 refine App_ 5 rt_22 he hm (fun v36 w hm a he =>?_) (hb:=by have h_:=hch0.length;rw [h_];simp only [List.length_cons,List.length_nil];omega)
 refine Sto 7 he hm fun w hm a he =>?_
 refine go he hm fun a he =>?_
 replace hm:=hm.ar [0] [7,7,7,3,7,7,7,7]
 refine hL4 _ _ _ (by subst hmu;omega) ⟨(Ψ24),(q20.2),(f - 1),(v36),(u1),(u2),(u3),((d0++[.string q20.1.name,.slice p31 q20.1.cons.length c32])),(d1),(d2),({ C with datas:=C.datas++[q20.1] }),rfl,⟨he.pk,by exact hm⟩,?_⟩
 refine ⟨(le3).trans le26,?_⟩
 exact ⟨(hch0.snoc (k:=2) (x:=q20.1) rfl hr27),hch1,hch2,⟨by show (C.datas++[q20.1]).length≤_;simp only [List.length_append,List.length_cons,List.length_nil];omega,by show C.inputs.length≤_;omega,by show C.funs.length≤_;omega,by show C.outputs.length≤_;omega⟩,by omega,by omega,hI_.trans (decls_data h8 (by omega) ((peek_at hx13).trans h19) hq22)⟩
 replace hm:=hm.dl [4,3,2,1,0]
 exact hP (hI_.trans (decls_dataE h8 (by omega) ((peek_at hx13).trans h19) hq22)) (le3) (he.pk) hm
 refine go he hm fun a he =>?_
 by_cases h38:x12=(⟨#[105,110,112,117,116]⟩:ByteArray)
 refine go he hm fun a he =>?_
 refine region_planE (E0:=[(3,.pointer (some ⟨wd,0,none⟩)),(2,.pointer (some ⟨c0,0,none⟩))]) [1,2,2,0,0,0,1,0] (.q 0 (.q 1 (.q 2 (.e 3 (.e 4 (.e 5 (.q 6 (.e 7 (.done))))))))) [.gs (u3) 9 1 (strs C.outputs),.gs (u2) 68 8 d2,.gs (u0) 133 2 d0,.blk rp (ob [.pointer (some ⟨r,0,none⟩)] 206),.blk c0 (ob [u0,u1,u2,u3] 27),.blk wd (ob [.int .i64 ((0:Nat):Int)] 3)] (he.pk) hm mixed (by kernel_rfl) (by simp) (by kernel_rfl) fun w hm =>?_
 refine go he hm fun a he =>?_
 replace hm:=hm.pl 4
 refine d_e he rfl rfl rfl (eff_callE he rfl Tryz.call127 (rparam_ok G (i:=(j+1)) rl hws (by omega) hm) (fun q39 w hq40 hm=>⟨fun _=>hm.sn (Fz.Le.refl _),fun a he =>?_⟩) (fun q39 w hq40 hm=>fun a he =>?_))
 have hleq39:=param_le hq40
 refine BldS he hm fun v41 w hm a he =>?_
 refine App_ 4 rt_23 he hm (fun v42 w hm a he =>?_) (hb:=by have h_:=hch1.length;rw [h_];simp only [List.length_cons,List.length_nil];omega)
 refine Sto 7 he hm fun w hm a he =>?_
 refine go he hm fun a he =>?_
 replace hm:=hm.ar [0] [7,7,7,3,7,7,7,7]
 refine hL4 _ _ _ (by subst hmu;omega) ⟨(Ψ2),(q39.2),(f - 1),(u0),(v42),(u2),(u3),(d0),((d1++[.string q39.1.name,.string q39.1.type])),(d2),({ C with inputs:=C.inputs++[q39.1] }),rfl,⟨he.pk,by exact hm⟩,?_⟩
 refine ⟨le3,?_⟩
 exact ⟨hch0,(hch1.snoc (k:=2) (x:=q39.1) rfl rfl),hch2,⟨by show C.datas.length≤_;omega,by show (C.inputs++[q39.1]).length≤_;simp only [List.length_append,List.length_cons,List.length_nil];omega,by show C.funs.length≤_;omega,by show C.outputs.length≤_;omega⟩,by omega,by omega,hI_.trans (decls_input h8 (by omega) (fun h_=>h19 ((peek_at hx13).symm.trans h_)) ((peek_at hx13).trans h38) hq40)⟩
 replace hm:=hm.dl [4,3,2,1,0]
 exact hP (hI_.trans (decls_inputE h8 (by omega) (fun h_=>h19 ((peek_at hx13).symm.trans h_)) ((peek_at hx13).trans h38) hq40)) (le3) (he.pk) hm
 refine go he hm fun a he =>?_
 by_cases h44:x12=(⟨#[102,117,110]⟩:ByteArray)
 refine go he hm fun a he =>?_
 refine region_planE (E0:=[(3,.pointer (some ⟨wd,0,none⟩)),(2,.pointer (some ⟨c0,0,none⟩))]) [1,2,2,0,0,0,1,0] (.q 0 (.q 1 (.q 2 (.e 3 (.e 4 (.e 5 (.q 6 (.e 7 (.done))))))))) [.gs (u3) 9 1 (strs C.outputs),.gs (u1) 72 2 d1,.gs (u0) 133 2 d0,.blk rp (ob [.pointer (some ⟨r,0,none⟩)] 206),.blk c0 (ob [u0,u1,u2,u3] 27),.blk wd (ob [.int .i64 ((0:Nat):Int)] 3)] (he.pk) hm mixed (by kernel_rfl) (by simp) (by kernel_rfl) fun w hm =>?_
 refine go he hm fun a he =>?_
 replace hm:=hm.pl 4
 refine d_e he rfl rfl rfl (eff_callX he rfl Tryz.call128 (rfun_ok hE G (i:=(j+1)) rl hws (by omega) hm) (fun q45 y46 w hq47 hG48 hm=>⟨fun _=>hm.sn ((Fz.Le.refl _).trans (hG48.1)),fun a he =>?_⟩) (fun q45 w hq47 hm=>fun a he =>?_))
 obtain ⟨Ψ49,d50⟩:=y46
 obtain ⟨le51,hr52⟩:=hG48
 simp only at le51 hr52 hm he
 have hgo53:=fun_le hq47
 replace rl:=rl.up le51
 replace G:=G.mono le51
 replace hch0:=hch0.mono fun _ _ h=>RData.mono _ _ _ _ le51 h
 replace hch1:=hch1.mono fun _ _ h=>RParam.mono _ _ _ _ le51 h
 replace hch2:=hch2.mono fun _ _ h=>RFun.mono _ _ _ _ le51 h
 replace hm:=hm.nf
 obtain ⟨s54,b60,rfl,h55,h61⟩:=id hr52
 obtain ⟨p56,c57,rfl,hm58,hn59⟩:=h55.fm
 obtain ⟨p64,c65,p70,c71,rfl,hi74,h63,h69,hm66,hn67,hm72,hn73⟩:=REx.fm h61
 refine BldS he hm fun v75 w hm a he =>?_
 refine App_ 3 rt_24 he hm (fun v76 w hm a he =>?_) (hb:=by have h_:=hch2.length;rw [h_];simp only [List.length_cons,List.length_nil];omega)
 refine Sto 7 he hm fun w hm a he =>?_
 refine go he hm fun a he =>?_
 replace hm:=hm.ar [0] [7,7,7,3,7,7,7,7]
 refine hL4 _ _ _ (by subst hmu;omega) ⟨(Ψ49),(q45.2),(f - 1),(u0),(u1),(v76),(u3),(d0),(d1),((d2++[.string q45.1.name,.slice p56 q45.1.params.length c57,.string q45.1.result,.int .i64 (q45.1.body.kind),.int .i64 (q45.1.body.num),.string q45.1.body.name,.slice p64 q45.1.body.args.length c65,.slice p70 q45.1.body.arms.length c71])),({ C with funs:=C.funs++[q45.1] }),rfl,⟨he.pk,by exact hm⟩,?_⟩
 refine ⟨(le3).trans le51,?_⟩
 exact ⟨hch0,hch1,(hch2.snoc (k:=8) (x:=q45.1) rfl hr52),⟨by show C.datas.length≤_;omega,by show C.inputs.length≤_;omega,by show (C.funs++[q45.1]).length≤_;simp only [List.length_append,List.length_cons,List.length_nil];omega,by show C.outputs.length≤_;omega⟩,by omega,by omega,hI_.trans (decls_fun h8 (by omega) (fun h_=>h19 ((peek_at hx13).symm.trans h_)) (fun h_=>h38 ((peek_at hx13).symm.trans h_)) ((peek_at hx13).trans h44) hq47)⟩
 replace hm:=hm.dl [4,3,2,1,0]
 exact hP (hI_.trans (decls_funE h8 (by omega) (fun h_=>h19 ((peek_at hx13).symm.trans h_)) (fun h_=>h38 ((peek_at hx13).symm.trans h_)) ((peek_at hx13).trans h44) hq47)) (le3) (he.pk) hm
 refine go he hm fun a he =>?_
 by_cases h78:x12=(⟨#[111,117,116,112,117,116]⟩:ByteArray)
 refine go he hm fun a he =>?_
 refine region_planE (E0:=[(3,.pointer (some ⟨wd,0,none⟩)),(2,.pointer (some ⟨c0,0,none⟩))]) [1,2,2,0,0,0,1,0] (.q 0 (.q 1 (.q 2 (.e 3 (.e 4 (.e 5 (.q 6 (.e 7 (.done))))))))) [.gs (u2) 68 8 d2,.gs (u1) 72 2 d1,.gs (u0) 133 2 d0,.blk rp (ob [.pointer (some ⟨r,0,none⟩)] 206),.blk c0 (ob [u0,u1,u2,u3] 27),.blk wd (ob [.int .i64 ((0:Nat):Int)] 3)] (he.pk) hm mixed (by kernel_rfl) (by simp) (by kernel_rfl) fun w hm =>?_
 refine go he hm fun a he =>?_
 replace hm:=hm.pl 4
 refine d_e he rfl rfl rfl (eff_callE he rfl Tryz.call129 (rname_ok G (i:=(j+1)) rl hws (by omega) hm) (fun q79 w hq80 hm=>⟨fun _=>hm.sn (Fz.Le.refl _),fun a he =>?_⟩) (fun q79 w hq80 hm=>fun a he =>?_))
 have hleq79:=takeP_le hq80
 refine BldS he hm fun v81 w hm a he =>?_
 refine App_ 2 rt_25 he hm (fun v82 w hm a he =>?_) (hb:=by simp [strs_length];omega)
 refine Sto 7 he hm fun w hm a he =>?_
 refine go he hm fun a he =>?_
 first | rw [strs_snoc] at hm | rw [← strs_append] at hm
 replace hm:=hm.ar [0] [7,7,7,3,7,7,7,7]
 refine hL4 _ _ _ (by subst hmu;omega) ⟨(Ψ2),(q79.2),(f - 1),(u0),(u1),(u2),(v82),(d0),(d1),(d2),({ C with outputs:=C.outputs++[q79.1] }),rfl,⟨he.pk,by exact hm⟩,?_⟩
 refine ⟨le3,?_⟩
 exact ⟨hch0,hch1,hch2,⟨by show C.datas.length≤_;omega,by show C.inputs.length≤_;omega,by show C.funs.length≤_;omega,by show (C.outputs++[q79.1]).length≤_;simp only [List.length_append,List.length_cons,List.length_nil];omega⟩,by omega,by omega,hI_.trans (decls_out h8 (by omega) (fun h_=>h19 ((peek_at hx13).symm.trans h_)) (fun h_=>h38 ((peek_at hx13).symm.trans h_)) (fun h_=>h44 ((peek_at hx13).symm.trans h_)) ((peek_at hx13).trans h78) hq80)⟩
 replace hm:=hm.dl [4,3,2,1,0]
 exact hP (hI_.trans (decls_outE h8 (by omega) (fun h_=>h19 ((peek_at hx13).symm.trans h_)) (fun h_=>h38 ((peek_at hx13).symm.trans h_)) (fun h_=>h44 ((peek_at hx13).symm.trans h_)) ((peek_at hx13).trans h78) hq80)) (le3) (he.pk) hm
 refine Qq he hm (fun a he =>?_) (o:=by exact fun _ _ _ he hs=>y_sub ((j:Nat):Int) he rfl rfl (by rw [wrap64 (by omega)];omega))
 refine Sto 4 he hm fun w hm a he =>?_
 refine go he hm fun a he =>?_
 replace hm:=hm.pl 4
 refine stP he rfl rfl rfl (eff_callZ he rfl Tryz.call130 (rfail_ok (i:=j) rl hws (by omega) hm) (fun w hm=>fun a he =>?_))
 replace hm:=hm.dl [4,3,2,1,0]
 exact hP (hI_.trans (decls_bad h8 (by omega) (fun h_=>h19 ((peek_at hx13).symm.trans h_)) (fun h_=>h38 ((peek_at hx13).symm.trans h_)) (fun h_=>h44 ((peek_at hx13).symm.trans h_)) (fun h_=>h78 ((peek_at hx13).symm.trans h_)))) (le3) (he.pk) hm
 refine go he hm fun a he =>?_
 have hm0_:=hm
 clear hm
 obtain ⟨Ψ85,le86,hm,hrow87⟩:=hm0_.freezeRow (i:=3) rfl
 clear hm0_
 replace G:=G.mono le86
 replace hch0:=hch0.mono fun _ _ h=>RData.mono _ _ _ _ le86 h
 replace hch1:=hch1.mono fun _ _ h=>RParam.mono _ _ _ _ le86 h
 replace hch2:=hch2.mono fun _ _ h=>RFun.mono _ _ _ _ le86 h
 replace hm:=hm.nf
 have hsl88:SliceOf RData Ψ85 2 _ (C.datas):=⟨_,hrow87,hch0⟩
 obtain ⟨p89,c90,hv_,hm91,hn92⟩:=hsl88.form (by decide)
 have hmk_:=hm
 clear hm
 subst hv_
 have hm:=hmk_
 clear hmk_
 have hm0_:=hm
 clear hm
 obtain ⟨Ψ93,le94,hm,hrow95⟩:=hm0_.freezeRow (i:=2) rfl
 clear hm0_
 replace G:=G.mono le94
 replace hch1:=hch1.mono fun _ _ h=>RParam.mono _ _ _ _ le94 h
 replace hch2:=hch2.mono fun _ _ h=>RFun.mono _ _ _ _ le94 h
 replace hsl88:=hsl88.up le94
 replace hm:=hm.nf
 have hsl96:SliceOf RParam Ψ93 2 _ (C.inputs):=⟨_,hrow95,hch1⟩
 obtain ⟨p97,c98,hv_,hm99,hn100⟩:=hsl96.form (by decide)
 have hmk_:=hm
 clear hm
 subst hv_
 have hm:=hmk_
 clear hmk_
 have hm0_:=hm
 clear hm
 obtain ⟨Ψ101,le102,hm,hrow103⟩:=hm0_.freezeRow (i:=1) rfl
 clear hm0_
 replace G:=G.mono le102
 replace hch2:=hch2.mono fun _ _ h=>RFun.mono _ _ _ _ le102 h
 replace hsl88:=hsl88.up le102
 replace hsl96:=hsl96.up le102
 replace hm:=hm.nf
 have hsl104:SliceOf RFun Ψ101 8 _ (C.funs):=⟨_,hrow103,hch2⟩
 obtain ⟨p105,c106,hv_,hm107,hn108⟩:=hsl104.form (by decide)
 have hmk_:=hm
 clear hm
 subst hv_
 have hm:=hmk_
 clear hmk_
 obtain ⟨p3,m3,q3,hu3_,_,_⟩:=hm.toSees.gsForm (i:=0) rfl
 have hmk_:=hm
 clear hm
 subst hu3_
 have hm:=hmk_
 clear hmk_
 refine Sto 3 he hm fun w hm a he =>?_
 refine Sto 4 he hm fun w hm a he =>?_
 refine go he hm fun a he =>?_
 replace hm:=hm.ar [2,1] [2,2]
 exact hR (hI_.trans (decls_end h8 (by omega))) ((((le3).trans le86).trans le94).trans le102) hsl88 hsl96 hsl104 (he.pk) hm
end Go.Sw

namespace Go.Sw
open Go.Proofs
abbrev wrongRE (n:Nat) (r:Bool):PanicEntry:={ v:=.iface 204 (.agg #[.int .i64 ((n:Nat):Int)]),recovered:=r }
theorem fo_204_0:FieldOff Tryz.prog 204 0 0:=fieldOff_of Tryz.runUnderlying204 rfl Tryz.sizeOf3 (by decide) rfl
set_option maxRecDepth 20000 in
set_option maxHeartbeats 4000000 in
theorem catchR_wrong {Φ:Fz} {K:List Res} {w:World} {bc bw n:Nat} {s t u v x:Value} (hm:Mem Φ (.blk bc (ob [s,t,u,v] 27)::.blk bw (ob [x] 3)::K) w) :
  CallsD Tryz.prog 124 #[.pointer (some ⟨bc,0,none⟩),.pointer (some ⟨bw,0,none⟩)] (.panicking (wrongR n)) w fun e u' w' =>
   e=.returned (.tuple #[])∧u'=.panicking [wrongRE n true]∧Mem Φ (.blk bc (ob [.slice none 0 0,.slice none 0 0,.slice none 0 0,.slice none 0 0] 27)::.blk bw (ob [.int .i64 ((n:Nat):Int)] 3)::K) w':=by
 generalize hR:(fun (e:Ending) (u':FrameMode) (w':World)=>e=.returned (.tuple #[])∧u'=.panicking [wrongRE n true]∧Mem Φ (.blk bc (ob [.slice none 0 0,.slice none 0 0,.slice none 0 0,.slice none 0 0] 27)::.blk bw (ob [.int .i64 ((n:Nat):Int)] 3)::K) w')=R
 refine callsD_of_wpS Tryz.func124 rfl fun c₀ cs hu =>?_
 apply wpS_seq
 apply wpS_region
 show wpOpsS Tryz.prog _ _ [0,1] _ _ _
 simp [wpOpsS,go_sem,recoverD,hu,Tryz.ntmps124,Exit.thenS,wrongR]
 refine wpS_of_wp ?_
 generalize hc:(_::cs:List Frame)=cs'
 have hQ:∀(a:Act) (w':World),a.defers=[]→Mem Φ (.blk bc (ob [.slice none 0 0,.slice none 0 0,.slice none 0 0,.slice none 0 0] 27)::.blk bw (ob [.int .i64 ((n:Nat):Int)] 3)::K) w'→bodyPostS Tryz.prog Tryz.f124 c₀ cs R .normal a cs' w':=fun a w' hd hm =>
  ⟨hd,.panicking [wrongRE n true],hc.symm,.tuple #[],results_none rfl _ _ _,by subst hR;exact ⟨rfl,rfl,hm⟩⟩
 generalize hact:(Act.mk _ [])=a
 have he:EnvR 19 [(2,.iface 204 (.agg (List.toArray [.int .i64 ((n:Nat):Int)]))),(1,.pointer (some ⟨bw,0,none⟩)),(0,.pointer (some ⟨bc,0,none⟩))] [] a:=by
  subst hact
  refine ⟨by simp,fun t v h =>?_,rfl⟩
  obtain ⟨rfl,rfl⟩ | ⟨_,h⟩:=get_put h
  ·simp
  ·obtain ⟨rfl,rfl⟩ | ⟨_,h⟩:=get_put h
   ·simp
   ·obtain ⟨rfl,rfl⟩ | ⟨_,h⟩:=get_put h
    ·simp
    ·cases h
 clear hact
 refine sq fun L1 hL1 =>?_
 refine wp_region_lit ?_
 refine st_ok he (y_move he rfl) rfl fun a he =>?_
 refine st_ok he (y_bin (v:=.bool true) he rfl rfl rfl (by kernel_rfl)) rfl fun a he =>?_
 refine wpList_nil ?_
 refine hL1 _ _ ?_
 refine if_t he rfl ?_
 refine sq fun L2 hL2 =>?_
 refine wp_region_lit ?_
 refine st_ok he (y_move he rfl) rfl fun a he =>?_
 refine st_ok he (y_assert he rfl Tryz.runUnderlying204 (by intro ms h;cases h)) rfl fun a he =>?_
 refine st_ok he (y_move he rfl) rfl fun a he=>st_ok he (y_extract he rfl rfl) rfl fun a he=>st_ok he (y_extract he rfl rfl) rfl fun a he =>?_
 refine st he rfl rfl rfl (eff_alloc (cs:=[.int .i64 ((0:Nat):Int)]) hm Tryz.zeroValue204 rfl fun b3 w hm a he =>?_)
 refine st0 he rfl rfl (eff_store 0 (cs:=[.int .i64 ((0:Nat):Int)]) (vs:=[.int .i64 ((n:Nat):Int)]) he hm rfl rfl rfl rfl Tryz.sizeOf204 rfl rfl rfl fun w hm a he =>?_)
 refine st_ok he (y_assign he rfl) rfl fun a he =>?_
 refine wpList_nil ?_
 refine hL2 _ _ ?_
 replace hm:Mem Φ (.blk b3 (ob [.int .i64 ((n:Nat):Int)] 204)::.blk bc (ob [s,t,u,v] 27)::.blk bw (ob [x] 3)::K) w:=hm
 refine sq fun L3 hL3 =>?_
 refine sq fun L4 hL4 =>?_
 refine wp_region_lit ?_
 refine st_ok he (y_move he rfl) rfl fun a he=>st_ok he (y_not he rfl) rfl fun a he =>?_
 refine wpList_nil ?_
 refine hL4 _ _ ?_
 refine if_f he rfl ?_
 refine wp_skip ?_
 refine hL3 _ _ ?_
 refine region_plan [1,1,2,0,0] (.q 0 (.q 1 (.q 2 (.e 3 (.e 4 (.done)))))) [.blk b3 (ob [.int .i64 ((n:Nat):Int)] 204)] he hm mixed (by kernel_rfl) (by simp) fun w hm =>?_
 refine d_q1 he rfl rfl (fun w=>y_build (vs:=[]) (cs:=[.slice none 0 0,.slice none 0 0,.slice none 0 0,.slice none 0 0]) he rfl (by kernel_rfl)) rfl fun a he =>?_
 refine d_q1 he rfl rfl (fun w=>y_fieldAddr_own he rfl fo_204_0 rfl) rfl fun a he =>?_
 refine d_q he rfl rfl (fun w hs=>y_load_own 0 he hs rfl rfl rfl Tryz.isAgg3) rfl fun a he =>?_
 refine d_e0 he rfl rfl (eff_store 1 (cs:=[s,t,u,v]) (vs:=[.slice none 0 0,.slice none 0 0,.slice none 0 0,.slice none 0 0]) he hm rfl rfl rfl rfl Tryz.sizeOf27 rfl rfl rfl fun w hm=>⟨fun _=>hm.seesIn (Fz.Le.refl _) (by simp [kset]),fun a he =>?_⟩)
 refine d_e0 he rfl rfl (eff_store 2 (cs:=[x]) (vs:=[.int .i64 ((n:Nat):Int)]) he hm rfl rfl rfl rfl Tryz.sizeOf3 rfl rfl rfl fun w hm=>⟨no_leans (by kernel_rfl),fun a he =>?_⟩)
 refine d_done ?_
 replace hm:Mem Φ (.blk bc (ob [.slice none 0 0,.slice none 0 0,.slice none 0 0,.slice none 0 0] 27)::.blk bw (ob [.int .i64 ((n:Nat):Int)] 3)::K) w:=hm.del 0
 exact hQ _ _ he.defs hm
set_option maxRecDepth 20000 in
theorem catchR_none {w:World} {bc bw:Nat} :
  CallsD Tryz.prog 124 #[.pointer (some ⟨bc,0,none⟩),.pointer (some ⟨bw,0,none⟩)] .returning w fun e u' w'=>e=.returned (.tuple #[])∧u'=.returning∧w'=w:=by
 generalize hR:(fun (e:Ending) (u':FrameMode) (w':World)=>e=.returned (.tuple #[])∧u'=.returning∧w'=w)=R
 refine callsD_of_wpS Tryz.func124 rfl fun c₀ cs hu =>?_
 apply wpS_seq
 apply wpS_region
 show wpOpsS Tryz.prog _ _ [0,1] _ _ _
 simp [wpOpsS,go_sem,recoverD,hu,Tryz.ntmps124,Exit.thenS]
 refine wpS_of_wp ?_
 have hQ:∀(a:Act),a.defers=[]→bodyPostS Tryz.prog Tryz.f124 c₀ cs R .normal a (c₀::cs) w:=fun a hd =>
  ⟨hd,.returning,by cases c₀;simp only at hu;subst hu;rfl,.tuple #[],results_none rfl _ _ _,by subst hR;exact ⟨rfl,rfl,rfl⟩⟩
 generalize hact:(Act.mk _ [])=a
 have he:EnvR 19 [(2,.nilIface)] [] a:=by
  subst hact
  refine ⟨by simp,fun t v h =>?_,rfl⟩
  obtain ⟨rfl,rfl⟩ | ⟨_,h⟩:=get_put h
  ·simp
  ·cases h
 clear hact
 refine sq fun L1 hL1 =>?_
 refine wp_region_lit ?_
 refine st_ok he (y_move he rfl) rfl fun a he =>?_
 refine st_ok he (y_bin (v:=.bool false) he rfl rfl rfl (by kernel_rfl)) rfl fun a he =>?_
 refine wpList_nil ?_
 refine hL1 _ _ ?_
 refine if_f he rfl ?_
 refine wp_skip ?_
 exact hQ _ he.defs
end Go.Sw

namespace Go.Sw
open Go.Proofs
abbrev readKY (K:List Res) (l Dk rr rp:Nat) (r:Loop) (pre:List Bs) (z:Value):List Res :=
 .blk l (.loop r)::.blk Dk (.deferred (some []))::.blk rr (ob [z,.int .i64 ((0:Nat):Int)] 208)::.gs z 9 1 (strs pre)::.blk rp (ob [.pointer (some ⟨rr,0,none⟩)] 206)::K
set_option maxRecDepth 20000 in
set_option maxHeartbeats 4000000 in
theorem read_round {Ψ:Fz} {K K0:List Res} {w:World} {l Dk rr rp n:Nat} {r:Loop} {pre:List Bs} {z:Value} {k:Bs} (hlen:pre.length < n) (hn:n≤800000)
  (hps:r.params=#[11]) (hst:r.state=.ready) (hpd:r.pending=none)
  (ha:∀(a:Act) (w:World),EnvR 96 [(11,.string k),(4,.pointer (some ⟨rp,0,none⟩))] [] a →
   r.assign.wpIn (FO (some l)) 2 Tryz.prog (Exit.then (fun a1 w1=>EnvR 96 [(5,.string k),(4,.pointer (some ⟨rp,0,none⟩))] [] a1∧w1=w) (fun _ _ _=>False)) a w)
  (hb:∀(a:Act) (w:World) (K:List Res) (o:Obj),EnvR 96 [(5,.string k),(4,.pointer (some ⟨rp,0,none⟩))] [] a→Mem Ψ (.blk l o::.blk rr (ob [z,.int .i64 ((0:Nat):Int)] 208)::.gs z 9 1 (strs pre)::.blk rp (ob [.pointer (some ⟨rr,0,none⟩)] 206)::K) w →
   r.body.wpIn (FO (some l)) 2 Tryz.prog (fun e _ w=>e=.normal∧∃v,Mem Ψ (.blk l o::.blk rr (ob [v,.int .i64 ((0:Nat):Int)] 208)::.gs v 9 1 (strs (pre++[k]))::.blk rp (ob [.pointer (some ⟨rr,0,none⟩)] 206)::K) w) a w)
  (he:EnvR 96 [(4,.pointer (some ⟨rp,0,none⟩))] [] ⟨r.tmps,[]⟩) (hm:Mem Ψ (K0++readKY K l Dk rr rp r pre z) w) :
  YieldAt Fence.wide 2 Tryz.prog l #[.string k] w (fun e w'=>e=.returned (.bool true)∧∃z',Mem Ψ (K0++readKY K l Dk rr rp r (pre++[k]) z') w'):=by
 have hm1:Mem Ψ (readKY K l Dk rr rp r pre z++K0) w:=hm.perm List.perm_append_comm
 replace hm1:Mem Ψ (.blk l (.loop r)::.blk rr (ob [z,.int .i64 ((0:Nat):Int)] 208)::.gs z 9 1 (strs pre)::.blk rp (ob [.pointer (some ⟨rr,0,none⟩)] 206)::.blk Dk (.deferred (some []))::(K++K0)) w :=
  ((((hm1.pull (i:=4) rfl).pull (i:=4) rfl).pull (i:=4) rfl).pull (i:=3) rfl)
 have hl:w.heap[l]? = some (.loop r):=hm1.own _ List.mem_cons_self
 refine ⟨r.fn,r.tmps.setIfInBounds 11 (.string k),r.assign,r.body,?_,?_⟩
 ·rw [run_yield hl (by rw [hps];rfl),hps,zip1];simp
 ·have he2:EnvR 96 [(11,.string k),(4,.pointer (some ⟨rp,0,none⟩))] [] ⟨r.tmps.setIfInBounds 11 (.string k),[]⟩:=he.put (d:=11) rfl
  have h:=round_of (P:=Tryz.prog) (E1:=fun (_:Unit)=>[(5,.string k),(4,.pointer (some ⟨rp,0,none⟩))]) (K1:=fun _=>.blk rr (ob [z,.int .i64 ((0:Nat):Int)] 208)::.gs z 9 1 (strs pre)::.blk rp (ob [.pointer (some ⟨rr,0,none⟩)] 206)::.blk Dk (.deferred (some []))::(K++K0))
   (KO:=fun v=>.blk rr (ob [v,.int .i64 ((0:Nat):Int)] 208)::.gs v 9 1 (strs (pre++[k]))::.blk rp (ob [.pointer (some ⟨rr,0,none⟩)] 206)::.blk Dk (.deferred (some []))::(K++K0)) hm1 hst hpd he2
   (fun a he=>Code.wpIn_mono (fun e a1 w1 h=>by
    cases e with
    | normal=>exact ⟨(),h.1,h.2▸hm1⟩
    | _=>exact h) (ha a w he)) (fun _ a w he hm=>hb a w _ _ he hm)
  refine h.mono fun e w' hh =>?_
  obtain ⟨h1,v,h2⟩:=hh
  refine ⟨h1,v,?_⟩
  have h3:Mem Ψ (readKY K l Dk rr rp r (pre++[k]) v++K0) w':=(((((h2.pull (i:=3) rfl).pull (i:=3) rfl).pull (i:=3) rfl).pull (i:=4) rfl).pull (i:=4) rfl)
  exact h3.perm List.perm_append_comm
theorem results2 {P:Program} {fn:Func} {n:Nat} {E:List (Nat×Value)} {D:List Deferred} {a:Act} {Φ:Fz} {K:List Res} {w:World} {t u T U k i j b c:Nat} {v:Value} {cs:List Value} {T0 T1:TypeId} (he:EnvR n E D a) (hm:Sees Φ K w) (hr:fn.results=#[.cell u U,.cell t T]) (hv:get E t=some (.pointer (some ⟨b,0,none⟩)))
  (hk:kget K i=some (.blk b (ob [v] T0))) (hT:Scalar P T) (hu:get E u=some (.pointer (some ⟨c,0,none⟩))) (hk2:kget K j=some (.blk c (ob cs T1))) (hT2:AggT P U) (hS:SizeT P U k) (hl:cs.length=k) :
  (results fn a.tmps).run P w=.ok (.tuple (List.toArray [.agg cs.toArray,v])) w:=by
 have h1:w.cell? ⟨b,0,none⟩=some v:=hm.cell hk 0
 have h2:=cellA (P:=P) he hm hu hk2 hT2 hS hl
 have h3:(loadVar T ⟨b,0,none⟩).run P w=.ok v w:=by simp [loadVar,Sem.run_bind,hT w,Result.andThen,load,Sem.run,h1]
 simp [results,hr,Array.getD_eq_getD_getElem?,he.env t _ hv,he.env u _ hu,asAddr,h2,h3,Sem.run_bind,Result.andThen]
set_option maxRecDepth 20000 in
set_option maxHeartbeats 4000000 in
theorem read_ok {Φ:Fz} {K:List Res} {w:World} {t:Bs} (G:Glob Φ) (h2:t.size≤800000) (hasc:AscB t) (hm:Mem Φ K w) :
  Calls Tryz.prog 74 (List.toArray [.string t]) w (fun ee w'=>Out (readP t)
   (fun C=>∃y:Fz×Value×Value×Value×Value,ee=.returned (.tuple (List.toArray [.agg (List.toArray [y.2.1,y.2.2.1,y.2.2.2.1,y.2.2.2.2]),.int .i64 ((0:Nat):Int)]))∧(Φ.Le y.1∧SliceOf RData y.1 2 y.2.1 C.datas∧SliceOf RParam y.1 2 y.2.2.1 C.inputs∧SliceOf RFun y.1 8 y.2.2.2.1 C.funs)∧Mem y.1 (.gs y.2.2.2.2 9 1 (strs C.outputs)::K) w')
   (fun n=>ee=.returned (.tuple (List.toArray [.agg (List.toArray [.slice none 0 0,.slice none 0 0,.slice none 0 0,.slice none 0 0]),.int .i64 ((n:Nat):Int)]))∧Mem Φ K w')):=by
 refine enterX Tryz.func74 rfl Tryz.ntmps74 rfl (fun Q hQ a he =>?_)
 refine sq fun L1 hL1 =>?_
 refine wp_region_lit ?_
 refine st he rfl rfl rfl (eff_alloc (cs:=[.slice none 0 0,.slice none 0 0,.slice none 0 0,.slice none 0 0]) hm Tryz.zeroValue27 rfl fun c0 w hm a he =>?_)
 refine st he rfl rfl rfl (eff_alloc (cs:=[.int .i64 ((0:Nat):Int)]) hm Tryz.zeroValue3 rfl fun wd w hm a he =>?_)
 refine wpList_nil ?_
 refine hL1 _ _ ?_
 refine sq fun L2 hL2 =>?_
 refine wp_region_lit ?_
 refine st_ok he (y_makeFunc (vfs:=[]) (vcs:=[.pointer (some ⟨c0,0,none⟩),.pointer (some ⟨wd,0,none⟩)]) he rfl rfl) rfl fun a he =>?_
 refine st_defer_fn (fs:=[]) (cs:=[.pointer (some ⟨c0,0,none⟩),.pointer (some ⟨wd,0,none⟩)]) (vs:=[]) he rfl rfl fun a he =>?_
 refine wpList_nil ?_
 refine hL2 _ _ ?_
 refine sq fun L3 hL3 =>?_
 refine wp_region_lit ?_
 refine st_ok he (y_build (vs:=[]) (cs:=[.slice none 0 0,.int .i64 ((0:Nat):Int)]) he rfl (by kernel_rfl)) rfl fun a he =>?_
 refine st he rfl rfl rfl (eff_box (cs:=[.slice none 0 0,.int .i64 ((0:Nat):Int)]) he hm rfl rfl fun rr w hm a he =>?_)
 refine st he rfl rfl rfl (eff_alloc (cs:=[.pointer none]) hm Tryz.zeroValue206 rfl fun rp w hm a he =>?_)
 refine st0 he rfl rfl (eff_store 0 (cs:=[.pointer none]) (vs:=[.pointer (some ⟨rr,0,none⟩)]) he hm rfl rfl rfl rfl Tryz.sizeOf206 rfl rfl rfl fun w hm a he =>?_)
 refine wpList_nil ?_
 refine hL3 _ _ ?_
 replace hm:Mem Φ (.blk rp (ob [.pointer (some ⟨rr,0,none⟩)] 206)::.blk rr (ob [.slice none 0 0,.int .i64 ((0:Nat):Int)] 208)::.blk wd (ob [.int .i64 ((0:Nat):Int)] 3)::.blk c0 (ob [.slice none 0 0,.slice none 0 0,.slice none 0 0,.slice none 0 0] 27)::K) w:=hm
 refine sq fun L4 hL4 =>?_
 refine sq fun L5 hL5 =>?_
 refine wp_region_lit ?_
 refine st_ok he (y_move he rfl) rfl fun a he =>?_
 refine st he rfl rfl rfl (eff_callY he rfl Tryz.call125 (words_ok hm) (fun bx w _ hm a he =>?_))
 refine wpList_nil ?_
 refine hL5 _ _ ?_
 refine wp_block ?_
 refine wp_range (P:=Tryz.prog) (β:=Value) (δ:=Unit) (gf:=174) (fs:=[]) (cs:=[.pointer (some ⟨bx,0,none⟩)]) (F1:=fun _=>Φ)
  (KO:=fun z=>.blk rr (ob [z,.int .i64 ((0:Nat):Int)] 208)::.gs z 9 1 (strs (wordsF t))::.blk rp (ob [.pointer (some ⟨rr,0,none⟩)] 206)::.blk wd (ob [.int .i64 ((0:Nat):Int)] 3)::.blk c0 (ob [.slice none 0 0,.slice none 0 0,.slice none 0 0,.slice none 0 0] 27)::K)
  (KE:=fun _=>K)
  (G:=fun _=>True) (B:=fun _ _=>False) he hm rfl Tryz.call174 ?_ ?_ ?_
 ·intro Dk l r w hps has hbo hst hpd her hm
  have hm1:=hm.nilRow 9 1
  replace hm1:Mem Φ (.blk bx (ob [.string t] 9)::readKY (.blk wd (ob [.int .i64 ((0:Nat):Int)] 3)::.blk c0 (ob [.slice none 0 0,.slice none 0 0,.slice none 0 0,.slice none 0 0] 27)::K) l Dk rr rp r [] (.slice none 0 0)) w :=
   ((((((hm1.pull (i:=4) rfl).pull (i:=1) rfl).pull (i:=5) rfl).pull (i:=4) rfl).pull (i:=4) rfl).pull (i:=5) rfl)
  have h:=words1_ok (l:=l) (KY:=readKY (.blk wd (ob [.int .i64 ((0:Nat):Int)] 3)::.blk c0 (ob [.slice none 0 0,.slice none 0 0,.slice none 0 0,.slice none 0 0] 27)::K) l Dk rr rp r) (by omega) hasc (fun pre z K0 k w hlen hm =>?_) hm1
  ·refine h.mono fun e w' hh =>?_
   obtain ⟨z,rfl,hm2⟩:=hh
   exact .inl ⟨_,z,rfl,trivial,hm2⟩
  ·refine read_round (n:=t.size) hlen h2 hps hst hpd (fun a w he =>?_) (fun a w K o he hm =>?_) (her.of_sub ⟨rfl,trivial⟩) hm
   ·rw [has]
    refine wpIn_region_lit ?_
    refine in_ok he (by intro c h;cases h) (y_assign he rfl) rfl fun a he =>?_
    refine wpListIn_nil ?_
    exact ⟨he.of_sub ⟨rfl,rfl,trivial⟩,rfl⟩
   ·rw [hbo]
    refine wpIn_block ?_
    refine region_planIn [2,2,1,1,2,1,0,0,1,1,0] (.q 0 (.q 1 (.q 2 (.q 3 (.q 4 (.q 5 (.e 6 (.e 7 (.q 8 (.q 9 (.e 10 (.done)))))))))))) [.blk rr (ob [z,.int .i64 ((0:Nat):Int)] 208),.blk rp (ob [.pointer (some ⟨rr,0,none⟩)] 206)] he hm mixed (by kernel_rfl) (by simp) (by kernel_rfl) fun w hm =>?_
    refine d_q he rfl rfl (fun w hs=>y_load_own 1 he hs rfl rfl rfl Tryz.isAgg206) rfl fun a he =>?_
    refine d_q he rfl rfl (fun w hs=>y_load_own 1 he hs rfl rfl rfl Tryz.isAgg206) rfl fun a he =>?_
    refine d_q1 he rfl rfl (fun w=>y_nilCheck he rfl) rfl fun a he =>?_
    refine d_q1 he rfl rfl (fun w=>y_fieldAddr_own he rfl fo_208_0 rfl) rfl fun a he =>?_
    refine d_q he rfl rfl (fun w hs=>y_load_own 0 he hs rfl rfl rfl Tryz.isAgg25) rfl fun a he =>?_
    refine d_q1 he rfl rfl (fun w=>y_move he rfl) rfl fun a he =>?_
    refine d_e he rfl rfl rfl (eff_buildOwn (sz:=1) (cs:=[.string k]) he hm rfl (built_of Tryz.runUnderlying25 Tryz.sizeOf9 Tryz.zeroValue9 rfl (by decide) rfl) rfl (by decide) fun v w hm _=>⟨fun _=>hm.seesIn (Fz.Le.refl _) (by simp),fun a he =>?_⟩)
    refine d_e he rfl rfl rfl (eff_append 3 (xs:=strs pre) (news:=[.string k]) rt_25 he hm rfl rfl rfl (hm.toSees.rowIn (i:=0) rfl) rfl (by simp [strs_length];omega) fun v2 w hm=>⟨fun _=>hm.seesIn (Fz.Le.refl _) (by simp [kset]),fun a he =>?_⟩)
    replace hm:Mem Φ (.gs v 9 1 [.string k]::.blk l o::.blk rr (ob [z,.int .i64 ((0:Nat):Int)] 208)::.gs v2 9 1 (strs (pre++[k]))::.blk rp (ob [.pointer (some ⟨rr,0,none⟩)] 206)::K) w:=by rw [strs_append];exact hm
    refine d_q1 he rfl rfl (fun w=>y_nilCheck he rfl) rfl fun a he =>?_
    refine d_q1 he rfl rfl (fun w=>y_fieldAddr_own he rfl fo_208_0 rfl) rfl fun a he =>?_
    refine d_e0 he rfl rfl (eff_store 2 (cs:=[z,.int .i64 ((0:Nat):Int)]) (vs:=[v2]) he hm rfl rfl rfl (hm.toSees.gsCells (i:=3) rfl) Tryz.sizeOf25 rfl (hm.toSees.gsOne (i:=3) rfl) rfl fun w hm=>⟨no_leans (by kernel_rfl),fun a he =>?_⟩)
    refine d_done ?_
    exact ⟨rfl,v2,hm.del 0⟩
 ·intro Dk z a w _ he hm
  refine hL4 _ _ ?_
  obtain ⟨Ψ,le,hm,hrow⟩:=hm.freezeRow (i:=2) rfl
  have rl:SliceOf RStr Ψ 1 z (wordsF t):=SliceOf.strs.2 hrow
  have hws:(wordsF t).length≤1000000:=Nat.le_trans (words_count t.size 0) (by omega)
  have hsz:∀j,(peekP (wordsF t) j).size≤1000000:=fun j=>peek_size (fun s hs=>Nat.le_trans (words_sizes t.size 0 s hs) (by omega)) j
  replace hm:Mem Ψ (.blk rr (ob [z,.int .i64 ((0:Nat):Int)] 208)::.blk rp (ob [.pointer (some ⟨rr,0,none⟩)] 206)::.blk c0 (ob [.slice none 0 0,.slice none 0 0,.slice none 0 0,.slice none 0 0] 27)::.blk wd (ob [.int .i64 ((0:Nat):Int)] 3)::.blk Dk (.deferred (some []))::K) w:=((((hm.pull (i:=3) rfl).pull (i:=4) rfl).pull (i:=4) rfl).pull (i:=4) rfl)
  refine read_rest (ws:=wordsF t) (c0:=c0) (wd:=wd) (rp:=rp) (r:=rr) (G.mono le) (rexpr_ok hws hsz 250 (by decide)) rl hws ?_ ?_ (he.of_sub ⟨rfl,rfl,rfl,trivial⟩) hm
  ·intro Ψ2 a w C u0 u1 u2 u3 hC le2 r0 r1 r2 he hm
   refine hQ _ _ _ ?_
   show LeavesX _ _ _ _ a.defers _ _
   rw [he.defs]
   replace hm:=hm.pull (i:=3) rfl
   have hD:w.heap[Dk]? = some (.deferred (some [])):=hm.own _ List.mem_cons_self
   have hm2:=hm.putObj (i:=0) (o':=.deferred none) rfl
   refine leavesX_mark (by simp) hD (leavesX_of ?_)
   refine leaves_cons (f:=124) (args:=#[.pointer (some ⟨c0,0,none⟩),.pointer (some ⟨wd,0,none⟩)]) (by simp) (Tryz.call124 _ _) ?_
   refine catchR_none.mono ?_
   rintro e u' w'' ⟨rfl,rfl,rfl⟩
   refine ⟨_,results2 (i:=2) (j:=1) he hm2.toSees Tryz.results74 rfl rfl Tryz.isAgg3 rfl rfl Tryz.isAgg27 Tryz.sizeOf27 rfl,?_⟩
   show Out (readP t) _ _
   rw [show readP t=.ok C from hC]
   exact ⟨(Ψ2,u0,u1,u2,u3),rfl,⟨le.trans le2,r0,r1,r2⟩,((hm2.del 0).del 0).del 0⟩
  ·intro Ψ2 a w n u0 u1 u2 u3 x hC le2 he hm
   refine hQ _ _ _ ?_
   show LeavesX _ _ _ _ a.defers _ _
   rw [he.defs]
   replace hm:=hm.pull (i:=2) rfl
   have hD:w.heap[Dk]? = some (.deferred (some [])):=hm.own _ List.mem_cons_self
   have hm2:=(hm.putObj (i:=0) (o':=.deferred none) rfl)
   replace hm2:Mem Ψ2 (.blk c0 (ob [u0,u1,u2,u3] 27)::.blk wd (ob [x] 3)::.blk Dk (.deferred none)::K) (w.putObj Dk (.deferred none)):=(hm2.pull (i:=2) rfl).pull (i:=2) rfl
   refine leavesX_mark (by simp) hD (leavesX_of ?_)
   refine leaves_cons (f:=124) (args:=#[.pointer (some ⟨c0,0,none⟩),.pointer (some ⟨wd,0,none⟩)]) (by simp) (Tryz.call124 _ _) ?_
   refine (catchR_wrong hm2).mono ?_
   rintro e' u' w'' ⟨rfl,rfl,hm3⟩
   refine ⟨_,results2 (i:=1) (j:=0) he hm3.toSees Tryz.results74 rfl rfl Tryz.isAgg3 rfl rfl Tryz.isAgg27 Tryz.sizeOf27 rfl,?_⟩
   show Out (readP t) _ _
   rw [show readP t=.error n from hC]
   exact ⟨rfl,(((hm3.del 0).del 0).del 0).le (le.trans le2)⟩
 ·intro Dk y c a w hB he hm
  exact hB.elim
end Go.Sw

namespace Go.Sw
open Go.Proofs
def Pos {α:Type} (f:Nat→Rd α):Prop:=∀i n,f i=.error n→0 < n
section
variable {ws:List Bs}
theorem Pos.bind {α β:Type} {f:Nat→Rd α} {g:α→Nat→Rd β} (hf:Pos f) (hg:∀x,Pos (g x)):Pos (fun i=>rbind (f i) g):=fun i n h=>by
 cases hr:f i with
 | error m =>
  simp only [rbind,hr] at h
  cases h;exact hf i _ hr
 | ok y =>
  simp only [rbind,hr] at h
  exact hg _ _ n h
theorem Pos.ok {α:Type} (f:Nat→α×Nat):Pos (fun i=>(.ok (f i):Rd α)):=fun i n h=>by cases h
theorem Pos.ite {α:Type} {p:Nat→Prop} [∀i,Decidable (p i)] {f g:Nat→Rd α} (hf:Pos f) (hg:Pos g):Pos (fun i=>if p i then f i else g i):=fun i n h=>by
 simp only at h
 split at h
 ·exact hf i n h
 ·exact hg i n h
theorem Pos.next {α:Type} {f:Nat→Rd α} (hf:Pos f):Pos (fun i=>f (i+1)):=fun i n h=>hf (i+1) n h
theorem Pos.err {α:Type}:Pos (fun i=>(.error (i+1):Rd α)):=fun i n h=>by cases h;exact Nat.succ_pos _
theorem take_pos (p:Bs→Bool):Pos (takeP ws p):=fun i n h=>by
 unfold takeP at h
 split at h
 ·cases h;exact Nat.succ_pos _
 ·cases h
theorem next_pos (w:Bs):Pos (nextP ws w):=(take_pos _).bind fun _=>Pos.ok fun i=>((),i)
theorem list_pos {ex:Nat→Rd Ex} (he:Pos ex):∀f least,Pos (listP ws ex f least)
 | 0,_=>Pos.err
 | f+1,least=>Pos.ite (p:=fun i=>0 < least∨peekP ws i≠sCls) (he.bind fun e=>(list_pos he f _).bind fun l=>Pos.ok fun i=>(e::l,i)) (Pos.ok fun i=>([],i))
theorem two_pos {ex:Nat→Rd Ex} (he:Pos ex):Pos (twoP ex):=he.bind fun a=>he.bind fun b=>Pos.ok fun i=>([a,b],i)
theorem vars_pos:∀f,Pos (varsP ws f)
 | 0=>Pos.err
 | f+1=>Pos.ite (p:=fun i=>peekP ws i≠sArrow) ((take_pos _).bind fun s=>(vars_pos f).bind fun l=>Pos.ok fun i=>(s::l,i)) (Pos.ok fun i=>([],i))
theorem arm_pos {ex:Nat→Rd Ex} (he:Pos ex):Pos (armP ws ex) :=
 (next_pos _).bind fun _=>(take_pos _).bind fun c=>(vars_pos _).bind fun vs=>(next_pos _).bind fun _=>he.bind fun b=>(next_pos _).bind fun _=>Pos.ok fun i=>(Arm.mk c vs b,i)
theorem arms_pos {ex:Nat→Rd Ex} (he:Pos ex):∀f b,Pos (armsP ws ex f b)
 | 0,_=>Pos.err
 | f+1,b=>Pos.ite (p:=fun i=>b=true∨peekP ws i=sOpn) ((arm_pos he).bind fun a=>(arms_pos he f false).bind fun l=>Pos.ok fun i=>(a::l,i)) (Pos.ok fun i=>([],i))
theorem form_pos {ex:Nat→Rd Ex} (he:Pos ex):Pos (formP ws ex):=fun i n h=>by
 unfold formP at h
 split at h
 ·exact (two_pos he).bind (fun l=>Pos.ok fun j=>(Ex.mk 8 0 (peekP ws i) l [],j)) (i+1) n h
 ·split at h
  ·exact (take_pos _).bind (fun x=>(two_pos he).bind fun l=>Pos.ok fun j=>(Ex.mk 6 0 x l [],j)) (i+1) n h
  ·split at h
   ·exact he.bind (fun a=>(arms_pos he _ true).bind fun l=>Pos.ok fun j=>(Ex.mk 7 0 sNo [a] l,j)) (i+1) n h
   ·split at h
    ·exact (list_pos he _ 1).bind (fun l=>Pos.ok fun j=>(Ex.mk 4 0 (peekP ws i) l [],j)) (i+1) n h
    ·exact (take_pos _).bind (fun x=>(list_pos he _ 0).bind fun l=>Pos.ok fun j=>(Ex.mk 5 0 x l [],j)) i n h
theorem expr_pos:∀d,Pos (exprP ws d)
 | 0=>Pos.err
 | d+1=>fun i n h=>by
  simp only [exprP] at h
  split at h
  ·cases h;exact Nat.succ_pos _
  ·split at h
   ·cases h
   ·split at h
    ·exact (form_pos (expr_pos d)).bind (fun e=>(next_pos _).bind fun _=>Pos.ok fun j=>(e,j)) (i+1) n h
    ·split at h
     ·cases h
     ·split at h
      ·cases h
      ·exact (take_pos _).bind (fun x=>Pos.ok fun j=>(Ex.mk 2 0 x [] [],j)) i n h
theorem fields_pos:∀f,Pos (fieldsP ws f)
 | 0=>Pos.err
 | f+1=>Pos.ite (p:=fun i=>isConP (peekP ws i)=true) ((take_pos _).bind fun s=>(fields_pos f).bind fun l=>Pos.ok fun i=>(s::l,i)) (Pos.ok fun i=>([],i))
theorem cons_pos:∀f,Pos (consP ws f)
 | 0=>Pos.err
 | f+1=>(take_pos _).bind fun n=>(fields_pos _).bind fun l=>Pos.ite (p:=fun i=>peekP ws i≠sBar) (Pos.ok fun i=>([(⟨n,l⟩:Con)],i)) ((cons_pos f).bind (fun cs=>Pos.ok fun i=>((⟨n,l⟩:Con)::cs,i))).next
theorem data_pos:Pos (dataP ws):=(take_pos _).bind fun n=>(next_pos _).bind fun _=>(cons_pos _).bind fun l=>Pos.ok fun i=>((⟨n,l⟩:Data),i)
theorem param_pos:Pos (paramP ws):=(take_pos _).bind fun n=>(next_pos _).bind fun _=>(take_pos _).bind fun t=>Pos.ok fun i=>((⟨n,t⟩:Param),i)
theorem params_pos:∀f,Pos (paramsP ws f)
 | 0=>Pos.err
 | f+1=>Pos.ite (p:=fun i=>peekP ws i=sOpn) ((param_pos).bind (fun p=>(next_pos _).bind fun _=>(params_pos f).bind fun l=>Pos.ok fun i=>(p::l,i))).next (Pos.ok fun i=>([],i))
theorem fun_pos:Pos (funP ws):=(take_pos _).bind fun n=>(params_pos _).bind fun ps=>(next_pos _).bind fun _=>(take_pos _).bind fun r=>(next_pos _).bind fun _=>(expr_pos _).bind fun b=>Pos.ok fun i=>((⟨n,ps,r,b⟩:Fun),i)
theorem decls_pos:∀f c i n,declsP ws f c i=.error n→0 < n
 | 0,_,_,_,h=>by cases h;exact Nat.succ_pos _
 | f+1,c,i,n,h=>by
  simp only [declsP] at h
  split at h
  ·split at h
   ·split at h
    ·exact decls_pos f _ _ n h
    ·rename_i hd;cases h;exact data_pos _ _ hd
   ·split at h
    ·split at h
     ·exact decls_pos f _ _ n h
     ·rename_i hd;cases h;exact param_pos _ _ hd
    ·split at h
     ·split at h
      ·exact decls_pos f _ _ n h
      ·rename_i hd;cases h;exact fun_pos _ _ hd
     ·split at h
      ·split at h
       ·exact decls_pos f _ _ n h
       ·rename_i hd;cases h;exact take_pos _ _ _ hd
      ·cases h;exact Nat.succ_pos _
  ·cases h
end
theorem read_pos {t:Bs} {n:Nat} (h:readP t=.error n):0 < n:=decls_pos _ _ _ _ h
def parseP (t:Bs):Except (Nat×Int) Core:=if 60000 < t.size then .error (0,2) else match readP t with
 | .error n=>.error (n,5)
 | .ok c=>if lookP c=0 then .ok c else .error (0,lookP c)
theorem parse_long {t:Bs} (h:60000 < t.size):parseP t=.error (0,2):=if_pos h
theorem parse_text {t:Bs} {n:Nat} (h:¬60000 < t.size) (h2:readP t=.error n):parseP t=.error (n,5):=by unfold parseP;rw [if_neg h,h2]
theorem parse_wrong {t:Bs} {c:Core} (h:¬60000 < t.size) (h2:readP t=.ok c) (h3:¬lookP c=0):parseP t=.error (0,lookP c):=by unfold parseP;rw [if_neg h,h2];exact if_neg h3
theorem parse_fine {t:Bs} {c:Core} (h:¬60000 < t.size) (h2:readP t=.ok c) (h3:lookP c=0):parseP t=.ok c:=by unfold parseP;rw [if_neg h,h2];exact if_pos h3
end Go.Sw

namespace Go.Sw
open Go.Proofs
def limitP (fuel:Int):Int:=if 4000 < fuel∧fuel≤200000 then fuel.tmod 4000 else fuel
mutual
def sameV:Val→Val→Bool
 | .mk c n l,v=>decide (c=v.con)&&decide (n=v.num)&&decide (l.length=v.args.length)&&sameVs l v.args
def sameVs:List Val→List Val→Bool
 | [],_=>true
 | _::_,[]=>true
 | x::xs,y::ys=>sameV x y&&sameVs xs ys
end
theorem sameV_eq (v u:Val):sameV v u=(decide (v.con=u.con)&&decide (v.num=u.num)&&decide (v.args.length=u.args.length)&&sameVs v.args u.args):=by
 cases v;cases u;simp only [sameV,Val.con,Val.num,Val.args];rfl
theorem sameVs_cons (x y:Val) (xs ys:List Val):sameVs (x::xs) (y::ys)=(sameV x y&&sameVs xs ys):=by simp only [sameVs]
theorem sameVs_nil (ys:List Val):sameVs [] ys=true:=by simp only [sameVs]
def sameNs:List Named→List Named→Bool
 | [],_=>true
 | _::_,[]=>true
 | x::xs,y::ys=>(decide (x.name=y.name)&&sameV x.value y.value)&&sameNs xs ys
theorem sameNs_cons (x y:Named) (xs ys:List Named):sameNs (x::xs) (y::ys)=((decide (x.name=y.name)&&sameV x.value y.value)&&sameNs xs ys):=rfl
theorem sameNs_nil (ys:List Named):sameNs [] ys=true:=rfl
def sameO (v u:Outcome):Bool:=(decide (v.steps=u.steps)&&decide (v.outputs.length=u.outputs.length))&&sameNs v.outputs u.outputs
def namedP (fs:List Fun) (ds:List Bs):List Bs:=(fs.filter fun f=>has ds f.name).map Fun.name
theorem named_yes {f:Fun} {fs:List Fun} {ds:List Bs} (h:has ds f.name=true):namedP (f::fs) ds=f.name::namedP fs ds:=by simp [namedP,h]
theorem named_no {f:Fun} {fs:List Fun} {ds:List Bs} (h:has ds f.name=false):namedP (f::fs) ds=namedP fs ds:=by simp [namedP,h]
theorem named_nil {ds:List Bs}:namedP [] ds=[]:=rfl
end Go.Sw

namespace Go.Sw
open Go.Proofs
set_option maxRecDepth 20000
set_option maxHeartbeats 4000000
theorem parse_ok {Φ:Fz} {K:List Res} {w:World} {t:Bs} (G:Glob Φ) (hasc:AscB t) (hm:Mem Φ K w) :
  Calls Tryz.prog 25 (List.toArray [.string t]) w (fun ee w'=>Out (parseP t)
   (fun C=>∃y:Fz×Value×Value×Value×Value,ee=.returned (.tuple (List.toArray [.agg (List.toArray [y.2.1,y.2.2.1,y.2.2.2.1,y.2.2.2.2]),.int .i64 ((0:Nat):Int),.int .i64 ((0:Nat):Int)]))∧(Φ.Le y.1∧SliceOf RData y.1 2 y.2.1 C.datas∧SliceOf RParam y.1 2 y.2.2.1 C.inputs∧SliceOf RFun y.1 8 y.2.2.2.1 C.funs)∧Mem y.1 (.gs y.2.2.2.2 9 1 (strs C.outputs)::K) w')
   (fun c=>ee=.returned (.tuple (List.toArray [.agg (List.toArray [.slice none 0 0,.slice none 0 0,.slice none 0 0,.slice none 0 0]),.int .i64 ((c.1:Nat):Int),.int .i64 c.2]))∧Mem Φ K w')):=by
 refine Enter Tryz.func25 Tryz.ntmps25 fun Q hQ a he =>?_
 refine Alc he hm fun b2 w hm a he =>?_
 refine go he hm fun a he =>?_
 by_cases h5:60000 < t.size
 refine BldT1 he hm fun a he =>?_
 refine Sto 0 he hm fun w hm a he =>?_
 refine go he hm fun a he =>?_
 have hmr:=hm
 replace hm:=hm.dl [0]
 refine hQ _ _ _ (retcA3 (i:=0) (cs:=[.slice none 0 0,.slice none 0 0,.slice none 0 0,.slice none 0 0]) he hmr.toSees Tryz.results25 rfl rfl Tryz.isAgg27 Tryz.sizeOf27 rfl rfl rfl ?_)
 show Out (parseP t) _ _
 rw [parse_long h5]
 exact ⟨rfl,hm⟩
 refine go he hm fun a he =>?_
 refine st he rfl rfl rfl (eff_callW he rfl Tryz.call74 (read_ok G (by omega) hasc hm) (fun q8 y9 w hq10 hG11 hm a he =>?_) (fun q8 w hq10 hm a he =>?_))
 obtain ⟨Ψ1,u0,u1,u2,u3⟩:=y9
 obtain ⟨le1,r0,r1,r2⟩:=hG11
 simp only at le1 r0 r1 r2 hm he
 replace G:=G.mono le1
 replace hm:=hm.nf
 obtain ⟨p0,q0,rfl,_,_⟩:=r0.fm
 obtain ⟨p1,q1,rfl,_,_⟩:=r1.fm
 obtain ⟨p2,q2,rfl,_,_⟩:=r2.fm
 obtain ⟨p3,m3,q3,hu3_,_,_⟩:=hm.toSees.gsForm (i:=0) rfl
 subst hu3_
 replace hm:=hm.nf
 refine Alc he hm fun b12 w hm a he =>?_
 refine Sto 0 he hm fun w hm a he =>?_
 refine Qq he hm (fun a he =>?_) (o:=by exact fun _ _ _ he hs=>y_gtr false he rfl rfl rfl)
 refine go he hm fun a he =>?_
 have hm0_:=hm
 clear hm
 obtain ⟨Ψ2,le2,hm,hrow2,back2⟩:=hm0_.freezeRowT (i:=1) rfl
 clear hm0_
 replace G:=G.mono le2
 replace hm:=hm.nf
 have rpc_:RCore Ψ2 [.slice p0 (q8.datas).length q0,.slice p1 (q8.inputs).length q1,.slice p2 (q8.funs).length q2,.slice p3 m3 q3] q8:=⟨_,_,_,_,rfl,r0.mono RData.mono le2,r1.mono RParam.mono le2,r2.mono RFun.mono le2,SliceOf.strs.2 hrow2⟩
 refine CallR Tryz.call36 he hm (fun w hm a he =>?_) (c:=check_ok rpc_ G hm)
 refine go he hm fun a he =>?_
 replace hm:=back2 _ _ hm
 replace hm:=hm.nf
 refine go he hm fun a he =>?_
 by_cases h18:lookP q8=0
 refine Sto 2 he hm fun w hm a he =>?_
 refine go he hm fun a he =>?_
 have hmr:=hm
 replace hm:=hm.dl [2,1]
 refine hQ _ _ _ (retcA3 (i:=2) (cs:=[.slice p0 (q8.datas).length q0,.slice p1 (q8.inputs).length q1,.slice p2 (q8.funs).length q2,.slice p3 m3 q3]) he hmr.toSees Tryz.results25 rfl rfl Tryz.isAgg27 Tryz.sizeOf27 rfl rfl rfl ?_)
 show Out (parseP t) _ _
 rw [parse_fine h5 hq10 h18]
 exact ⟨(Ψ1,_,_,_,_),rfl,⟨le1,r0,r1,r2⟩,hm⟩
 refine BldT1 he hm fun a he =>?_
 refine Sto 2 he hm fun w hm a he =>?_
 refine go he hm fun a he =>?_
 have hmr:=hm
 replace hm:=hm.dl [2,1,0]
 refine hQ _ _ _ (retcA3 (i:=2) (cs:=[.slice none 0 0,.slice none 0 0,.slice none 0 0,.slice none 0 0]) he hmr.toSees Tryz.results25 rfl rfl Tryz.isAgg27 Tryz.sizeOf27 rfl rfl rfl ?_)
 show Out (parseP t) _ _
 rw [parse_wrong h5 hq10 h18]
 exact ⟨rfl,hm.le (le1)⟩
 replace hm:=hm.nf
 have hpos_:=read_pos hq10
 refine Alc he hm fun b21 w hm a he =>?_
 refine Sto 0 he hm fun w hm a he =>?_
 refine BldT1 he hm fun a he =>?_
 refine Sto 1 he hm fun w hm a he =>?_
 refine go he hm fun a he =>?_
 have hmr:=hm
 replace hm:=hm.dl [1,0]
 refine hQ _ _ _ (retcA3 (i:=1) (cs:=[.slice none 0 0,.slice none 0 0,.slice none 0 0,.slice none 0 0]) he hmr.toSees Tryz.results25 rfl rfl Tryz.isAgg27 Tryz.sizeOf27 rfl rfl rfl ?_)
 show Out (parseP t) _ _
 rw [parse_text h5 hq10]
 exact ⟨rfl,hm⟩
end Go.Sw

namespace Go.Sw
open Go.Proofs
set_option maxRecDepth 20000
set_option maxHeartbeats 4000000
theorem limit_ok {Φ:Fz} {K:List Res} {w:World} {fuel:Int}  (hm:Mem Φ K w) :
  Calls Tryz.prog 16 (List.toArray [.int .i64 fuel]) w (fun ee w'=>ee=.returned (.int .i64 (limitP fuel))∧Mem Φ K w'):=by
 refine Enter Tryz.func16 Tryz.ntmps16 fun Q hQ a he =>?_
 refine go he hm fun a he =>?_
 by_cases h4:4000 < fuel
 refine go he hm fun a he =>?_
 by_cases h5:fuel≤200000
 refine Qq he hm (fun a he =>?_) (o:=by exact fun _ _ _ he hs=>y_rem _ he rfl rfl (by decide) rfl)
 refine Ret1 hQ he hm ?_
 exact ret_i hm (by simp [limitP, *])
 refine Ret1 hQ he hm ?_
 exact ret_i hm (by simp [limitP, *])
 refine Ret1 hQ he hm ?_
 exact ret_i hm (by simp [limitP, *])
def textB:Bs:=⟨#[100,97,116,97,32,76,105,115,116,32,61,32,78,105,108,32,124,32,67,111,110,115,32,73,110,116,32,76,105,115,116,10,105,110,112,117,116,32,120,115,32,58,32,76,105,115,116,10,102,117,110,32,115,117,109,32,40,108,32,58,32,76,105,115,116,41,32,58,32,73,110,116,32,61,32,40,99,97,115,101,32,108,32,40,78,105,108,32,45,62,32,48,41,32,40,67,111,110,115,32,104,32,116,32,45,62,32,40,43,32,104,32,40,115,117,109,32,116,41,41,41,41,10,102,117,110,32,116,111,116,97,108,32,58,32,73,110,116,32,61,32,40,115,117,109,32,33,120,115,41,10,102,117,110,32,108,101,115,115,32,40,97,32,58,32,73,110,116,41,32,40,98,32,58,32,73,110,116,41,32,58,32,73,110,116,32,61,32,40,99,97,115,101,32,40,60,32,97,32,98,41,32,40,70,97,108,115,101,32,45,62,32,48,41,32,40,84,114,117,101,32,45,62,32,49,41,41,10,111,117,116,112,117,116,32,116,111,116,97,108,10]⟩
theorem text_ok {Φ:Fz} {K:List Res} {w:World} (hm:Mem Φ K w):Calls Tryz.prog 57 (List.toArray []) w (fun ee w'=>ee=.returned (.string textB)∧Mem Φ K w'):=by
 refine Enter Tryz.func57 Tryz.ntmps57 fun Q hQ a he =>?_
 refine Ret1 hQ he hm ?_
 exact ⟨rfl,hm⟩
theorem isInputType_ok {Φ:Fz} {K:List Res} {w:World} {u0 u1 u2 u3:Value} {ds:List Data} {name:Bs} (r0:SliceOf RData Φ 2 u0 ds) (hm:Mem Φ K w) :
  Calls Tryz.prog 58 (List.toArray [.agg (List.toArray [u0,u1,u2,u3]),.string name]) w (fun ee w'=>ee=.returned (.bool (inputTypeP ds name))∧Mem Φ K w'):=by
 obtain ⟨p0,q0,rfl,hm0,hn0⟩:=r0.fm
 refine Enter Tryz.func58 Tryz.ntmps58 fun Q hQ a he =>?_
 refine Bx he hm fun b2 w hm a he =>?_
 refine CallR Tryz.call114 he hm (fun w hm a he =>?_) (c:=inputType_ok r0 hm)
 refine go he hm fun a he =>?_
 replace hm:=hm.dl [0]
 refine Ret1 hQ he hm ?_
 exact ⟨rfl,hm⟩
end Go.Sw

namespace Go.Sw
open Go.Proofs
set_option maxRecDepth 40000
set_option maxHeartbeats 4000000
def z_l:Bs:=⟨#[108]⟩
def z_Nil:Bs:=⟨#[78,105,108]⟩
def z_h:Bs:=⟨#[104]⟩
def z_t:Bs:=⟨#[116]⟩
def z_sum:Bs:=⟨#[115,117,109]⟩
def zPlus:Bs:=⟨#[43]⟩
def z_Cons:Bs:=⟨#[67,111,110,115]⟩
def z_xs:Bs:=⟨#[120,115]⟩
def z_a:Bs:=⟨#[97]⟩
def z_b:Bs:=⟨#[98]⟩
def zLess:Bs:=⟨#[60]⟩
def z_False:Bs:=⟨#[70,97,108,115,101]⟩
def z_True:Bs:=⟨#[84,114,117,101]⟩
def z_data:Bs:=⟨#[100,97,116,97]⟩
def z_List:Bs:=⟨#[76,105,115,116]⟩
def zEq:Bs:=⟨#[61]⟩
def zBar:Bs:=⟨#[124]⟩
def z_Int:Bs:=⟨#[73,110,116]⟩
def z_input:Bs:=⟨#[105,110,112,117,116]⟩
def zColon:Bs:=⟨#[58]⟩
def z_fun:Bs:=⟨#[102,117,110]⟩
def zOpn:Bs:=⟨#[40]⟩
def zCls:Bs:=⟨#[41]⟩
def z_case:Bs:=⟨#[99,97,115,101]⟩
def zArrow:Bs:=⟨#[45,62]⟩
def z_0:Bs:=⟨#[48]⟩
def z_total:Bs:=⟨#[116,111,116,97,108]⟩
def z_bangxs:Bs:=⟨#[33,120,115]⟩
def z_less:Bs:=⟨#[108,101,115,115]⟩
def z_1:Bs:=⟨#[49]⟩
def z_output:Bs:=⟨#[111,117,116,112,117,116]⟩
def saneWs:List Bs:=[z_data,z_List,zEq,z_Nil,zBar,z_Cons,z_Int,z_List,z_input,z_xs,zColon,z_List,z_fun,z_sum,zOpn,z_l,zColon,z_List,zCls,zColon,z_Int,zEq,zOpn,z_case,z_l,zOpn,z_Nil,zArrow,z_0,zCls,zOpn,z_Cons,z_h,z_t,zArrow,zOpn,zPlus,z_h,zOpn,z_sum,z_t,zCls,zCls,zCls,zCls,z_fun,z_total,zColon,z_Int,zEq,zOpn,z_sum,z_bangxs,zCls,z_fun,z_less,zOpn,z_a,zColon,z_Int,zCls,zOpn,z_b,zColon,z_Int,zCls,zColon,z_Int,zEq,zOpn,z_case,zOpn,zLess,z_a,z_b,zCls,zOpn,z_False,zArrow,z_0,zCls,zOpn,z_True,zArrow,z_1,zCls,zCls,z_output,z_total]
def saneC:Core:=⟨[⟨z_List,[⟨z_Nil,[]⟩,⟨z_Cons,[z_Int,z_List]⟩]⟩],
 [⟨z_xs,z_List⟩],
 [⟨z_sum,[⟨z_l,z_List⟩],z_Int,(.mk 7 0 sNo [(.mk 2 0 z_l [] [])] [(.mk z_Nil [] (.mk 1 0 sNo [] [])),(.mk z_Cons [z_h,z_t] (.mk 8 0 zPlus [(.mk 2 0 z_h [] []),(.mk 5 0 z_sum [(.mk 2 0 z_t [] [])] [])] []))])⟩,
  ⟨z_total,[],z_Int,(.mk 5 0 z_sum [(.mk 3 0 z_xs [] [])] [])⟩,
  ⟨z_less,[⟨z_a,z_Int⟩,⟨z_b,z_Int⟩],z_Int,(.mk 7 0 sNo [(.mk 8 0 zLess [(.mk 2 0 z_a [] []),(.mk 2 0 z_b [] [])] [])] [(.mk z_False [] (.mk 1 0 sNo [] [])),(.mk z_True [] (.mk 1 1 sNo [] []))])⟩],
 [z_total]⟩
def saneIn:List Named:=[⟨z_xs,.mk z_Cons 0 [.mk sNo 3 [],.mk z_Cons 0 [.mk sNo 4 [],(.mk z_Nil 0 [])]]⟩]
def saneA:List Val:=[.mk sNo 2 [],.mk sNo 3 []]
def saneO:Outcome:=⟨[⟨z_total,.mk sNo 7 []⟩],17⟩
theorem words_sane:wordsF textB=saneWs:=by kernel_rfl
theorem read_sane:readP textB=.ok saneC:=by
 unfold readP;rw [words_sane];kernel_rfl
theorem look_sane:lookP saneC=0:=by kernel_rfl
theorem parse_sane:parseP textB=.ok saneC:=parse_fine (by decide) read_sane look_sane
theorem asc_sane:AscB textB:=by
 intro j b h
 have h2:textB.data.toList.all (fun b=>decide (b.toNat < 128))=true:=by kernel_rfl
 exact of_decide_eq_true (List.all_eq_true.1 h2 b (List.mem_of_getElem? h))
theorem run_sane17:runP saneC saneIn 17=(saneO,0):=by kernel_rfl
theorem run_sane16:runP saneC saneIn 16=(out0,4):=by kernel_rfl
theorem print_sane:printP saneC=(textB,0):=by kernel_rfl
theorem isType_sane:inputTypeP saneC.datas z_List=true:=by kernel_rfl
theorem noType_sane:inputTypeP saneC.datas sBool=false:=by kernel_rfl
theorem calls_sum:callsT (tableP saneC) z_sum=[z_sum]:=by kernel_rfl
theorem calls_total:callsT (tableP saneC) z_total=[z_sum]:=by kernel_rfl
theorem calls_less:callsT (tableP saneC) z_less=[]:=by kernel_rfl
theorem reach_less {x:Bs} (h:Reach (tableP saneC) z_less x):x=z_less:=by
 induction h with
 | refl=>rfl
 | step h1 h2 ih=>subst ih;rw [calls_less] at h2;cases h2
theorem quiet_less:¬ReadsAny (tableP saneC) z_less:=by
 rintro ⟨x,hx,hr⟩
 rw [reach_less hx] at hr
 have h2:readsP (fbody (tableP saneC) z_less)=false:=by kernel_rfl
 rw [h2] at hr
 cases hr
theorem less_sane:lget (tableP saneC).funs z_less=some ⟨z_less,[⟨z_a,z_Int⟩,⟨z_b,z_Int⟩],z_Int,(.mk 7 0 sNo [(.mk 8 0 zLess [(.mk 2 0 z_a [] []),(.mk 2 0 z_b [] [])] [])] [(.mk z_False [] (.mk 1 0 sNo [] [])),(.mk z_True [] (.mk 1 1 sNo [] []))])⟩:=by kernel_rfl
theorem given_sane:givenA (tableP saneC) saneA [⟨z_a,z_Int⟩,⟨z_b,z_Int⟩]=true:=by kernel_rfl
theorem callEnd_sane:callEnd (callP (evalF ⟨(tableP saneC).funs,[]⟩) ⟨z_less,[⟨z_a,z_Int⟩,⟨z_b,z_Int⟩],z_Int,(.mk 7 0 sNo [(.mk 8 0 zLess [(.mk 2 0 z_a [] []),(.mk 2 0 z_b [] [])] [])] [(.mk z_False [] (.mk 1 0 sNo [] [])),(.mk z_True [] (.mk 1 1 sNo [] []))])⟩ saneA) 9=.ok (.mk sNo 1 [],3):=by kernel_rfl
theorem call_sane:callAllP saneC z_less saneA 9=(.mk sNo 1 [],6,0):=by
 unfold callAllP
 rw [if_neg (not_not_intro look_sane),if_neg (by decide),less_sane]
 simp only
 rw [if_neg (by rw [given_sane];decide),if_neg quiet_less,show (9:Int).toNat=9 from rfl,callEnd_sane]
 rfl
theorem named_sane {ds:List Bs} (h:Reached (tableP saneC) saneC.outputs ds):namedP saneC.funs ds=[z_sum,z_total]:=by
 have h1:=h.starts z_total (by simp [saneC])
 have h2:=h.closed _ h1 z_sum (by rw [calls_total];simp)
 have h3:¬z_less∈ds:=fun hm=>by
  have:=h.least (fun x=>x=z_total∨x=z_sum) (fun x hx=>.inl (by simpa [saneC] using hx)) (fun x hx y hy=>by
   rcases hx with rfl | rfl
   ·rw [calls_total] at hy;exact .inr (by simpa using hy)
   ·rw [calls_sum] at hy;exact .inr (by simpa using hy)) _ hm
  rcases this with h | h <;> exact absurd h (by decide)
 show namedP [_,_,_] ds=_
 rw [named_yes (has_mem.2 h2),named_yes (has_mem.2 h1),named_no (Bool.eq_false_iff.2 fun h=>h3 (has_mem.1 h)),named_nil]
end Go.Sw
