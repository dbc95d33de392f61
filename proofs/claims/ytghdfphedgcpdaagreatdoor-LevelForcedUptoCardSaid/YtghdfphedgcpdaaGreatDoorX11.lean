import Derived.Test.YtghdfphedgcpdaaGreatDoorProg
import Derived.Test.YtghdfphedgcpdaaGreatDoorX01
import Derived.Test.YtghdfphedgcpdaaGreatDoorX02
import Derived.Test.YtghdfphedgcpdaaGreatDoorX07
import Derived.Test.YtghdfphedgcpdaaGreatDoorX08
import Derived.Test.YtghdfphedgcpdaaGreatDoorX10
set_option linter.unusedVariables false
set_option linter.unusedSimpArgs false
namespace Go.Sw
open Go.Proofs.Tryz
open Go.Proofs
set_option maxRecDepth 20000
set_option maxHeartbeats 4000000
def z5p (c:Core):Except Int Unit:=if zP c=0 then .ok () else .error (zP c)
theorem y4l {c:Core} (h:zP c=0):z5p c=.ok ():=if_pos h
theorem z4j {c:Core} (h:¬zP c=0):z5p c=.error (zP c):=if_neg h
structure LOk (c:Core):Prop where
 tidy:TidyC c
 nl:(zD c).length≤1000000000
 il:c.inputs.length≤1000000000
 fl:∀f∈c.funs,pB f.body∧pJ (wY c) f.body
 ps:∀n ps,zK (wY c) n=some ps→∀p∈ps,p.name.size≤1000
 al:(xI c).length≤1000000000000
 gok:GOk (zD c) (zY c)
theorem y6u (l:List Flow):(qW l).length=2 * l.length:=by
 induction l with
 | nil=>rfl
 | cons x l ih=>simp only [qW,List.flatMap_cons,List.length_append,List.length_cons,List.length_nil] at ih ⊢;omega
theorem j4v {Φ:Fz} {v:Value} {l:List Flow} (h:Row Φ v 2 (qW l)):SliceOf RFlow Φ 2 v l:=⟨_,h,dM Φ l⟩
theorem dR {Φ:Fz} {K:List Res} {w:World} {d0:List Value} {c:Core} (rpc:RCore Φ d0 c) (G:Glob Φ) (hL:zP c=0→LOk c) (hm:Mem Φ K w) :
  Calls prog 41 (List.toArray [.agg d0.toArray]) w (fun ee w'=>Out (z5p c) (fun _=>∃y:Fz×Addr,ee=.returned (.tuple (List.toArray [.pointer (some y.2),.int .i64 0]))∧(Φ.Le y.1∧RGraph y.1 y.2 (xX c))∧Mem y.1 K w') (fun e=>ee=.returned (.tuple (List.toArray [.pointer none,.int .i64 e]))∧Mem Φ K w')):=by
 have rpc0_:=rpc
 obtain ⟨p3,c4,p9,c10,p15,c16,p21,c22,rfl,h2,h8,h14,h20,hm5,hn6,hm11,hn12,hm17,hn18,hm23,hn24⟩:=RCore.fm rpc
 refine z3m func41 rfl ntmps41 rfl (fun Q hQ a he =>?_)
 refine go fun a he =>?_
 refine Bx fun b26 w hm a he =>?_
 refine go fun a he =>?_
 refine st he rfl rfl rfl (dL he rfl call36 (z9i rpc0_ G hm) fun w hm a he =>?_)
 refine go fun a he =>?_
 by_cases h30:(zP c)=0
 refine goJ 5 fun a he =>?_
 refine sq fun L31 hL31 =>?_
 have L_:=hL h30
 have hJ32:∀a w,(∃(bg:Nat) (bp:Nat) (pm:Nat) (nx:Nat) (pn:Option Addr) (cn:Nat),EnvR 80 [(1,.pointer (some ⟨b26,0,none⟩)),(5,.pointer (some ⟨bp,0,none⟩))] [] a∧Mem Φ (.blk bg (ob [.slice p3 c.datas.length c4,.slice p9 c.inputs.length c10,.slice p15 c.funs.length c16,.slice p21 c.outputs.length c22,.slice pn (zD c).length cn,.slice none 0 0,.map (some pm),.map (some nx),.nilFunc] 75)::.gs (.slice pn (zD c).length cn) 9 1 (strs (zD c))::.mp pm []::.mp nx []::.blk bp (ob [.pointer (some ⟨bg,0,none⟩)] 66)::.blk b26 (ob [.slice p3 c.datas.length c4,.slice p9 c.inputs.length c10,.slice p15 c.funs.length c16,.slice p21 c.outputs.length c22] 27)::K) w∧(True))→L31 a w:=by
  clear hm he
  rintro a w ⟨bg,bp,pm,nx,pn,cn,he,hm,hI33⟩
  refine hL31 _ _ ?_
  refine go fun a he =>?_
  refine yG (he.ks [5,23,24]) hm (fun R mm a w=>∃(i:Nat) (m0:List (Bs×Value)) (pl:Pars),mm=c.funs.length - i∧R Φ [(25,.int .i64 ((i:Nat):Int))] [(2,.mp pm m0)] a w∧(MapRel (fun v x=>SliceOf RParam Φ 2 v x) m0 pl∧wY c=(c.funs.drop i).foldl (fun m f=>qX m f.name f.params) pl)) (c.funs.length - 0) ⟨0,[],[],rfl,⟨he.pk,hm⟩,⟨.nil,rfl⟩⟩ ?_
  clear hm he
  rintro mm a w ⟨i,m0,pl,hmu,⟨he,hm⟩,hI37⟩ L36 hL36
  replace hm:=hm.nf
  by_cases h39:i < c.funs.length
  refine go fun a he =>?_
  obtain ⟨q43,rfl,x44,hx45,cs46,hl47,ha48,hr49⟩:=h14.el hn18 h39
  obtain ⟨s50,b56,rfl,h51,h57⟩:=id hr49
  obtain ⟨p52,c53,rfl,hm54,hn55⟩:=h51.fm
  obtain ⟨p60,c61,p66,c67,rfl,hi70,h59,h65,hm62,hn63,hm68,hn69⟩:=REx.fm h57
  refine go fun a he =>?_
  refine Alc fun b71 w hm a he =>?_
  refine Sto 0 fun w hm a he =>?_
  refine go fun a he =>?_
  refine qL [2,1,1,2,1,2,1,2,0] (.q 0 (.q 1 (.q 2 (.q 3 (.q 4 (.q 5 (.q 6 (.q 7 (.e 8 (.done)))))))))) [0,1,2,3,4,5,6] he hm fun w hm =>?_
  refine go fun a he =>?_
  refine vK he rfl rfl (dF 3 runUnderlying71 runUnderlying9 he hm rfl rfl rfl rfl fun w hm=>⟨zU (by kernel_rfl),fun a he =>?_⟩)
  replace hm:=hm.nf
  refine go fun a he =>?_
  replace hm:=hm.dl [0]
  refine hL36 _ _ _ (by subst hmu;omega) ⟨(i+1),((mQ m0 x44.name (.slice p52 x44.params.length c53))),(qX pl x44.name x44.params),rfl,⟨he.pk,hm⟩,?_⟩
  obtain ⟨h1_,h2_⟩:=hI37
  exact ⟨h1_.put h51,by rw [h2_,zA hx45];rfl⟩
  refine go fun a he =>?_
  refine st he rfl rfl rfl (q2c hm fun b74 w hm a he =>?_)
  refine Alc fun b75 w hm a he =>?_
  refine Sto 0 fun w hm a he =>?_
  refine go fun a he =>?_
  refine st he rfl rfl rfl (qQ he rfl call66 (all_ok' hm) (fun y78 w hG79 hm a he =>?_))
  refine go fun a he =>?_
  obtain ⟨hmr_,hpe_⟩:=hI37
  rw [zH h39] at hpe_
  have hpr_:MapRel (fun v x=>SliceOf RParam Φ 2 v x) m0 (wY c):=hpe_▸hmr_
  have hm0_:=hm
  clear hm
  obtain ⟨Ψ80,le81,hm,hat82⟩:=hm0_.freezeMap (i:=5) rfl
  clear hm0_
  replace h2:=h2.up le81
  replace rpc0_:=RCore.mono _ _ _ _ le81 rpc0_
  replace G:=G.mono le81
  replace hm:=hm.nf
  replace hpr_:=hpr_.mono (fun _ _ h_=>h_.mono RParam.mono le81)
  replace hm:=hm.nilRow 95 2
  replace hm:=hm.ar [] [8,8,7,5,5,8,7,7,8,8,8,8,8,7,7,7,7,8]
  refine j1m (p:=41) (xI c) (fun x=>.agg (List.toArray [.string x.1,.string x.2])) [.blk y78 (ob [.pointer (some ⟨bg,0,none⟩)] 66)] (fun pre z=>.blk bg (ob [.slice p3 c.datas.length c4,.slice p9 c.inputs.length c10,.slice p15 c.funs.length c16,.slice p21 c.outputs.length c22,.slice pn (zD c).length cn,z.1,.map (some pm),.map (some nx),.nilFunc] 75)::.gs (z.1) 95 2 (qW (yT pre))::.blk b74 (.map (mP (yT pre)) (yT pre).length)::.mp nx (nxM (yY (yT pre)) z.2)::.blk b75 (ob [.map (some b74)] 136)::.gs (.slice pn (zD c).length cn) 9 1 (strs (zD c))::.blk bp (ob [.pointer (some ⟨bg,0,none⟩)] 66)::.blk b26 (ob [.slice p3 c.datas.length c4,.slice p9 c.inputs.length c10,.slice p15 c.funs.length c16,.slice p21 c.outputs.length c22] 27)::nxK (yY (yT pre)) z.2++K) (.slice none 0 0,fun _=>.slice none 0 0) he (hm) rfl call102 rfl (fun pre x post z l_ o1_ o2_ K1_ a w hit he hm =>?_) (fun y_ KY_ w hy_ hkv_ hm =>?_) (fun Dk z a w he hm =>?_)
  replace hm:=hm.nf
  refine regI ?_
  refine y0l he rfl rfl rfl (by intro c h;cases h) (yI (cs:=[.string ⟨#[]⟩,.string ⟨#[]⟩]) hm zeroValue95 rfl fun b83 w hm a he =>?_)
  refine q2l he rfl rfl (by intro c h;cases h) (zS 0 (cs:=[.string ⟨#[]⟩,.string ⟨#[]⟩]) (vs:=[.string x.1,.string x.2]) he hm rfl rfl rfl rfl sizeOf95 rfl rfl rfl fun w hm a he =>?_)
  replace hm:=hm.nf
  refine wV ?_
  replace hm:=hm.pl 1
  refine ⟨_,hm,fun w hm =>?_⟩
  replace hm:=hm.nf
  refine blkI ?_
  refine sqI fun L84 hL84 =>?_
  refine sqI fun L85 hL85 =>?_
  refine regI ?_
  refine yO he (by intro c h;cases h) (yR 6 he hm.toSees rfl rfl rfl isAgg136) rfl fun a he =>
    yO he (by intro c h;cases h) (xN 1 (vs:=[.string x.1,.string x.2]) he hm.toSees rfl rfl isAgg95 sizeOf95 rfl rfl) rfl fun a he =>?_
  refine yO he (by intro c h;cases h) (j7n 4 (s:=x) he hm.toSees rfl rfl rfl) rfl fun a he =>?_
  refine wV ?_
  refine hL85 _ _ ?_
  generalize hb87:(decide (x∈(yT pre)))=bb86 at he
  cases bb86
  refine if_fI he rfl ?_
  refine skipI ?_
  refine hL84 _ _ ?_
  refine sqI fun L88 hL88 =>?_
  refine regI ?_
  refine yO he (by intro c h;cases h) (yR 6 he hm.toSees rfl rfl rfl isAgg136) rfl fun a he =>
    yO he (by intro c h;cases h) (xN 1 (vs:=[.string x.1,.string x.2]) he hm.toSees rfl rfl isAgg95 sizeOf95 rfl rfl) rfl fun a he =>?_
  refine q2l he rfl rfl (by intro c h;cases h) (z9r 4 (s:=x) he hm rfl rfl rfl rfl (of_decide_eq_false hb87) fun w hm a he =>?_)
  replace hm:Mem Ψ80 (.blk l_ o2_::.blk b83 (ob [.string x.1,.string x.2] 95)::.blk bg (ob [.slice p3 c.datas.length c4,.slice p9 c.inputs.length c10,.slice p15 c.funs.length c16,.slice p21 c.outputs.length c22,.slice pn (zD c).length cn,z.1,.map (some pm),.map (some nx),.nilFunc] 75)::.gs (z.1) 95 2 (qW (yT pre))::.blk b74 (.map (mP ((yT pre)++[x])) ((yT pre)++[x]).length)::.mp nx (nxM (yY (yT pre)) z.2)::.blk b75 (ob [.map (some b74)] 136)::.gs (.slice pn (zD c).length cn) 9 1 (strs (zD c))::.blk bp (ob [.pointer (some ⟨bg,0,none⟩)] 66)::.blk b26 (ob [.slice p3 c.datas.length c4,.slice p9 c.inputs.length c10,.slice p15 c.funs.length c16,.slice p21 c.outputs.length c22] 27)::((nxK (yY (yT pre)) z.2++K)++K1_)) w:=id hm
  refine wV ?_
  refine hL88 _ _ ?_
  refine sqI fun L89 hL89 =>?_
  refine nG [2,2,1,1,2,2,0,0,1,1,0] (.q 0 (.q 1 (.q 2 (.q 3 (.q 4 (.q 5 (.e 6 (.e 7 (.q 8 (.q 9 (.e 10 (.done)))))))))))) [.blk b83 (ob [.string x.1,.string x.2] 95),.blk bg (ob [.slice p3 c.datas.length c4,.slice p9 c.inputs.length c10,.slice p15 c.funs.length c16,.slice p21 c.outputs.length c22,.slice pn (zD c).length cn,z.1,.map (some pm),.map (some nx),.nilFunc] 75),.blk b74 (.map (mP ((yT pre)++[x])) ((yT pre)++[x]).length),.mp nx (nxM (yY (yT pre)) z.2),.blk b75 (ob [.map (some b74)] 136),.gs (.slice pn (zD c).length cn) 9 1 (strs (zD c)),.blk bp (ob [.pointer (some ⟨bg,0,none⟩)] 66),.blk b26 (ob [.slice p3 c.datas.length c4,.slice p9 c.inputs.length c10,.slice p15 c.funs.length c16,.slice p21 c.outputs.length c22] 27)] he hm mixed (by kernel_rfl) (by simp) (by kernel_rfl) fun w hm =>?_
  refine go fun a he =>?_
  refine d_e he rfl rfl rfl (kC (sz:=2) he hm rfl (oP runUnderlying47 sizeOf95 zeroValue95 rfl (by decide) rfl) rfl (by decide) fun v90 w hm _=>⟨fun _=>hm.sn (Fz.Le.refl _),fun a he =>?_⟩)
  refine d_e he rfl rfl rfl (aQ 4 (xs:=(qW (yT pre))) (news:=[.string x.1,.string x.2]) rt_47 he hm rfl rfl rfl (hm.toSees.rowIn (i:=0) rfl) rfl (by have hq_:=congrArg List.length hit;have hz_:=cW pre;have ha_:=L_.al;simp only [List.length_append,List.length_cons] at hq_;simp only [y6u,List.length_cons,List.length_nil];omega) fun v91 w hm=>⟨fun _=>hm.sn (Fz.Le.refl _),fun a he =>?_⟩)
  replace hm:=hm.nf
  refine go fun a he =>?_
  refine vK he rfl rfl (zS 3 he hm rfl rfl rfl (hm.toSees.gsCells (i:=4) rfl) sizeOf47 rfl (hm.toSees.gsOne (i:=4) rfl) rfl fun w hm=>⟨zU (by kernel_rfl),fun a he =>?_⟩)
  replace hm:=hm.nf
  refine go fun a he =>?_
  refine hL89 _ _ ?_
  replace hm:=j6m (A:=[.gs (v90) 95 2 [.string x.1,.string x.2],.blk l_ o2_,.blk b83 (ob [.string x.1,.string x.2] 95),.blk bg (ob [.slice p3 c.datas.length c4,.slice p9 c.inputs.length c10,.slice p15 c.funs.length c16,.slice p21 c.outputs.length c22,.slice pn (zD c).length cn,v91,.map (some pm),.map (some nx),.nilFunc] 75),.gs (v91) 95 2 ((qW (yT pre))++[.string x.1,.string x.2]),.blk b74 (.map (mP ((yT pre)++[x])) ((yT pre)++[x]).length),.mp nx (nxM (yY (yT pre)) z.2),.blk b75 (ob [.map (some b74)] 136),.gs (.slice pn (zD c).length cn) 9 1 (strs (zD c)),.blk bp (ob [.pointer (some ⟨bg,0,none⟩)] 66),.blk b26 (ob [.slice p3 c.datas.length c4,.slice p9 c.inputs.length c10,.slice p15 c.funs.length c16,.slice p21 c.outputs.length c22] 27)]) (N:=(yY (yT pre))) (zf:=z.2) x.1 hm
  obtain ⟨v0_,hgv_⟩:∃v0_,v0_=zG false (.slice none 0 0) (yD (nxM (yY (yT pre)) z.2) x.1):=⟨_,rfl⟩
  rw [← hgv_] at hm
  replace hm:Mem Ψ80 (.gs (v0_) 9 1 (strs ((zK (yY (yT pre)) x.1).getD []))::.gs (v90) 95 2 [.string x.1,.string x.2]::.blk l_ o2_::.blk b83 (ob [.string x.1,.string x.2] 95)::.blk bg (ob [.slice p3 c.datas.length c4,.slice p9 c.inputs.length c10,.slice p15 c.funs.length c16,.slice p21 c.outputs.length c22,.slice pn (zD c).length cn,v91,.map (some pm),.map (some nx),.nilFunc] 75)::.gs (v91) 95 2 ((qW (yT pre))++[.string x.1,.string x.2])::.blk b74 (.map (mP ((yT pre)++[x])) ((yT pre)++[x]).length)::.mp nx (nxM (yY (yT pre)) z.2)::.blk b75 (ob [.map (some b74)] 136)::.gs (.slice pn (zD c).length cn) 9 1 (strs (zD c))::.blk bp (ob [.pointer (some ⟨bg,0,none⟩)] 66)::.blk b26 (ob [.slice p3 c.datas.length c4,.slice p9 c.inputs.length c10,.slice p15 c.funs.length c16,.slice p21 c.outputs.length c22] 27)::((nxK (tT (yY (yT pre)) x.1) z.2++K)++K1_)) w:=id hm
  refine nG [2,1,1,2,1,2,2,1,1,2,1,2,2,1,2,0,0,0] (.q 0 (.q 1 (.q 2 (.q 3 (.q 4 (.q 5 (.q 6 (.q 7 (.q 8 (.q 9 (.q 10 (.q 11 (.q 12 (.q 13 (.q 14 (.e 15 (.e 16 (.e 17 (.done))))))))))))))))))) [.gs (v90) 95 2 [.string x.1,.string x.2],.blk b83 (ob [.string x.1,.string x.2] 95),.blk bg (ob [.slice p3 c.datas.length c4,.slice p9 c.inputs.length c10,.slice p15 c.funs.length c16,.slice p21 c.outputs.length c22,.slice pn (zD c).length cn,v91,.map (some pm),.map (some nx),.nilFunc] 75),.gs (v91) 95 2 ((qW (yT pre))++[.string x.1,.string x.2]),.blk b74 (.map (mP ((yT pre)++[x])) ((yT pre)++[x]).length),.mp nx (nxM (yY (yT pre)) z.2),.blk b75 (ob [.map (some b74)] 136),.gs (.slice pn (zD c).length cn) 9 1 (strs (zD c)),.blk bp (ob [.pointer (some ⟨bg,0,none⟩)] 66),.blk b26 (ob [.slice p3 c.datas.length c4,.slice p9 c.inputs.length c10,.slice p15 c.funs.length c16,.slice p21 c.outputs.length c22] 27)] he hm mixed (by kernel_rfl) (by simp) (by kernel_rfl) fun w hm =>?_
  refine go fun a he =>?_
  refine d_q he rfl rfl (fun w hs=>Ok.cast (zQ 5 runUnderlying72 runUnderlying9 zeroValue25 he hs rfl rfl rfl) hgv_.symm) rfl fun a he =>?_
  refine go fun a he =>?_
  refine d_e he rfl rfl rfl (kC (sz:=1) he hm rfl (oP runUnderlying25 sizeOf9 zeroValue9 rfl (by decide) rfl) rfl (by decide) fun v92 w hm _=>⟨fun _=>hm.sn (Fz.Le.refl _),fun a he =>?_⟩)
  refine d_e he rfl rfl rfl (aQ 1 (xs:=(strs ((zK (yY (yT pre)) x.1).getD []))) (news:=[.string x.2]) vV he hm rfl rfl rfl (hm.toSees.rowIn (i:=0) rfl) rfl (by have hq_:=congrArg List.length hit;have hz_:=cW pre;have ha_:=L_.al;have hl_:=nxt_len x.1 (yT pre);simp only [List.length_append,List.length_cons] at hq_;simp only [yA,List.length_cons,List.length_nil];omega) fun v93 w hm=>⟨fun _=>hm.sn (Fz.Le.refl _),fun a he =>?_⟩)
  replace hm:=hm.nf
  refine vK he rfl rfl (dF 8 runUnderlying72 runUnderlying9 he hm rfl rfl rfl rfl fun w hm=>⟨zU (by kernel_rfl),fun a he =>?_⟩)
  replace hm:=hm.nf
  refine go fun a he =>?_
  replace hm:=hm.dl [4,2,0]
  have hn_:yT (pre++[x])=yT pre++[x]:=by rw [mY,if_neg (of_decide_eq_false hb87)]
  rw [qK,(y4t (zf:=z.2) (v:=v93) (l:=((zK (yY (yT pre)) x.1).getD []++[x.2])) (q0o (yT pre))).2] at hm
  refine ⟨rfl,(v91,cK z.2 x.1 v93),?_⟩
  rw [hn_,dZ,gV,← y0a]
  exact q9z (A:=[.blk l_ o2_,.blk bg (ob [.slice p3 c.datas.length c4,.slice p9 c.inputs.length c10,.slice p15 c.funs.length c16,.slice p21 c.outputs.length c22,.slice pn (zD c).length cn,v91,.map (some pm),.map (some nx),.nilFunc] 75),.gs (v91) 95 2 ((qW (yT pre))++[.string x.1,.string x.2]),.blk b74 (.map (mP ((yT pre)++[x])) ((yT pre)++[x]).length),.mp nx (nxM (qX (yY (yT pre)) x.1 ((zK (yY (yT pre)) x.1).getD []++[x.2])) (cK z.2 x.1 v93)),.blk b75 (ob [.map (some b74)] 136),.gs (.slice pn (zD c).length cn) 9 1 (strs (zD c)),.blk bp (ob [.pointer (some ⟨bg,0,none⟩)] 66),.blk b26 (ob [.slice p3 c.datas.length c4,.slice p9 c.inputs.length c10,.slice p15 c.funs.length c16,.slice p21 c.outputs.length c22] 27)]) (q0o (yT pre)) hm
  refine if_tI he rfl ?_
  refine exitI ?_
  replace hm:=hm.dl [1]
  have hn_:yT (pre++[x])=yT pre:=by rw [mY,if_pos (of_decide_eq_true hb87)]
  refine ⟨rfl,z,?_⟩
  rw [hn_];exact hm
  exact (all1_ok hy_ (fun pre z K0 w hm=>let ⟨K1_,h_⟩:=hkv_ pre z K0 w hm;⟨_,_,_,h_.see1⟩) rpc0_ hat82 hpr_ L_.ps L_.tidy L_.fl G hm).mono fun e_ w h=>let ⟨z,h1,_,h2⟩:=h;⟨_,z,h1,h2⟩
  replace hm:Mem Ψ80 (.blk y78 (ob [.pointer (some ⟨bg,0,none⟩)] 66)::.blk bg (ob [.slice p3 c.datas.length c4,.slice p9 c.inputs.length c10,.slice p15 c.funs.length c16,.slice p21 c.outputs.length c22,.slice pn (zD c).length cn,z.1,.map (some pm),.map (some nx),.nilFunc] 75)::.gs (z.1) 95 2 (qW (yT (xI c)))::.blk b74 (.map (mP (yT (xI c))) (yT (xI c)).length)::.mp nx (nxM (yY (yT (xI c))) z.2)::.blk b75 (ob [.map (some b74)] 136)::.gs (.slice pn (zD c).length cn) 9 1 (strs (zD c))::.blk bp (ob [.pointer (some ⟨bg,0,none⟩)] 66)::.blk b26 (ob [.slice p3 c.datas.length c4,.slice p9 c.inputs.length c10,.slice p15 c.funs.length c16,.slice p21 c.outputs.length c22] 27)::xJ (Dk::[])++nxK (yY (yT (xI c))) z.2++K) w:=Mem.mid (A:=[.blk Dk (.deferred (some []))]) (B:=[.blk y78 (ob [.pointer (some ⟨bg,0,none⟩)] 66),.blk bg (ob [.slice p3 c.datas.length c4,.slice p9 c.inputs.length c10,.slice p15 c.funs.length c16,.slice p21 c.outputs.length c22,.slice pn (zD c).length cn,z.1,.map (some pm),.map (some nx),.nilFunc] 75),.gs (z.1) 95 2 (qW (yT (xI c))),.blk b74 (.map (mP (yT (xI c))) (yT (xI c)).length),.mp nx (nxM (yY (yT (xI c))) z.2),.blk b75 (ob [.map (some b74)] 136),.gs (.slice pn (zD c).length cn) 9 1 (strs (zD c)),.blk bp (ob [.pointer (some ⟨bg,0,none⟩)] 66),.blk b26 (ob [.slice p3 c.datas.length c4,.slice p9 c.inputs.length c10,.slice p15 c.funs.length c16,.slice p21 c.outputs.length c22] 27)]) (C:=xJ []++nxK (yY (yT (xI c))) z.2++K) hm
  refine go fun a he =>?_
  refine Sto 1 fun w hm a he =>?_
  refine go fun a he =>?_
  replace hm:=hm.ar [8,7,5,3,0] [2,3,3,3]
  replace hm:Mem Ψ80 (xJ (Dk::[])++(.blk bg (ob [.slice p3 c.datas.length c4,.slice p9 c.inputs.length c10,.slice p15 c.funs.length c16,.slice p21 c.outputs.length c22,.slice pn (zD c).length cn,z.1,.map (some pm),.map (some nx),.func (.func 67) (List.toArray [.pointer (some ⟨bg,0,none⟩)]) (List.toArray [])] 75)::.gs (z.1) 95 2 (qW (yT (xI c)))::.gs (.slice pn (zD c).length cn) 9 1 (strs (zD c))::.mp nx (nxM (yY (yT (xI c))) z.2)::nxK (yY (yT (xI c))) z.2++K)) w:=Mem.mid (A:=[.blk bg (ob [.slice p3 c.datas.length c4,.slice p9 c.inputs.length c10,.slice p15 c.funs.length c16,.slice p21 c.outputs.length c22,.slice pn (zD c).length cn,z.1,.map (some pm),.map (some nx),.func (.func 67) (List.toArray [.pointer (some ⟨bg,0,none⟩)]) (List.toArray [])] 75),.gs (z.1) 95 2 (qW (yT (xI c))),.gs (.slice pn (zD c).length cn) 9 1 (strs (zD c)),.mp nx (nxM (yY (yT (xI c))) z.2)]) (B:=xJ (Dk::[])) (C:=nxK (yY (yT (xI c))) z.2++K) hm
  refine hQ _ _ _ (retX2 (ds:=(Dk::[])) he results41 rfl rfl hm fun w hm =>?_)
  obtain ⟨Ψ1,l1,hm,r1⟩:=hm.freezeRow (i:=1) rfl
  obtain ⟨Ψ2,l2,hm,r2⟩:=hm.freezeRow (i:=1) rfl
  obtain ⟨Ψ3,l3,hm,r3⟩:=hm.freezeMap (i:=1) rfl
  obtain ⟨Ψ4,l4,hm,r4⟩:=hm.freezeBlk (i:=0) rfl
  obtain ⟨Ψ5,l5,hm,r5⟩:=y9o hm
  rw [y4l h30]
  refine ⟨(Ψ5,⟨bg,0,none⟩),rfl,⟨(le81).trans (l1.trans (l2.trans (l3.trans (l4.trans l5)))),[.slice p3 c.datas.length c4,.slice p9 c.inputs.length c10,.slice p15 c.funs.length c16,.slice p21 c.outputs.length c22],_,_,_,_,_,r4.mono l5,RCore.mono _ _ _ _ (l1.trans (l2.trans (l3.trans (l4.trans l5)))) rpc0_,(SliceOf.strs.2 r2).mono RStr.mono (l3.trans (l4.trans l5)),(j4v r1).mono RFlow.mono (l2.trans (l3.trans (l4.trans l5))),r3.mono (l4.trans l5),r5⟩,hm⟩
 refine q3d [2,2,0,0,0,1,0,0,0] (.q 0 (.q 1 (.e4 2 3 4 7 (.e3 3 4 7 (.pl (.e2 4 7 (.q 5 (.e2 6 7 (.e 7 (.e 8 (.done))) (.e 6 (.e 8 (.done))))) (.e 4 (.q 5 (.e 6 (.e 8 (.done))))))) (.pl (.e2 3 7 (.q 5 (.e2 6 7 (.e 7 (.e 8 (.done))) (.e 6 (.e 8 (.done))))) (.e 3 (.q 5 (.e 6 (.e 8 (.done))))))) (.pl (.e2 3 4 (.e 4 (.q 5 (.e 6 (.e 8 (.done))))) (.e 3 (.q 5 (.e 6 (.e 8 (.done)))))))) (.e3 2 4 7 (.pl (.e2 4 7 (.q 5 (.e2 6 7 (.e 7 (.e 8 (.done))) (.e 6 (.e 8 (.done))))) (.e 4 (.q 5 (.e 6 (.e 8 (.done))))))) (.pl (.e2 2 7 (.q 5 (.e2 6 7 (.e 7 (.e 8 (.done))) (.e 6 (.e 8 (.done))))) (.e 2 (.q 5 (.e 6 (.e 8 (.done))))))) (.pl (.e2 2 4 (.e 4 (.q 5 (.e 6 (.e 8 (.done))))) (.e 2 (.q 5 (.e 6 (.e 8 (.done)))))))) (.e3 2 3 7 (.pl (.e2 3 7 (.q 5 (.e2 6 7 (.e 7 (.e 8 (.done))) (.e 6 (.e 8 (.done))))) (.e 3 (.q 5 (.e 6 (.e 8 (.done))))))) (.pl (.e2 2 7 (.q 5 (.e2 6 7 (.e 7 (.e 8 (.done))) (.e 6 (.e 8 (.done))))) (.e 2 (.q 5 (.e 6 (.e 8 (.done))))))) (.pl (.e2 2 3 (.e 3 (.q 5 (.e 6 (.e 8 (.done))))) (.e 2 (.q 5 (.e 6 (.e 8 (.done)))))))) (.e3 2 3 4 (.pl (.e2 3 4 (.e 4 (.q 5 (.e 6 (.e 8 (.done))))) (.e 3 (.q 5 (.e 6 (.e 8 (.done))))))) (.pl (.e2 2 4 (.e 4 (.q 5 (.e 6 (.e 8 (.done))))) (.e 2 (.q 5 (.e 6 (.e 8 (.done))))))) (.pl (.e2 2 3 (.e 3 (.q 5 (.e 6 (.e 8 (.done))))) (.e 2 (.q 5 (.e 6 (.e 8 (.done))))))))))) [.blk b26 (ob [.slice p3 c.datas.length c4,.slice p9 c.inputs.length c10,.slice p15 c.funs.length c16,.slice p21 c.outputs.length c22] 27)] he hm mixed (by kernel_rfl) (by simp) fun w hm =>?_
 refine t_q (drOp_q he rfl rfl (fun w hs=>xN 0 (vs:=[.slice p3 c.datas.length c4,.slice p9 c.inputs.length c10,.slice p15 c.funs.length c16,.slice p21 c.outputs.length c22]) he hs rfl rfl isAgg27 sizeOf27 rfl rfl) rfl fun a he =>?_)
 refine t_q (drOp_q he rfl rfl (fun w hs=>xN 0 (vs:=[.slice p3 c.datas.length c4,.slice p9 c.inputs.length c10,.slice p15 c.funs.length c16,.slice p21 c.outputs.length c22]) he hs rfl rfl isAgg27 sizeOf27 rfl rfl) rfl fun a he =>?_)
 refine t_e4 ?_ ?_ ?_ ?_
 refine wE he rfl rfl rfl (qQ he rfl call37 (xC rpc0_ G L_.tidy L_.nl hm) (fun y96 w hG97 hm=>⟨fun _=>hm.sn (Fz.Le.refl _),fun a he =>?_⟩))
 obtain ⟨pn98,cn99,rfl⟩:=qZ hm (i:=0) rfl
 replace hm:=hm.nf
 refine t_e3 ?_ ?_ ?_
 refine wE he rfl rfl rfl (zW hm fun b100 w hm=>⟨fun _=>hm.sn (Fz.Le.refl _),fun a he =>?_⟩)
 refine z8l ?_
 refine gL ?_ ?_
 refine d_e he rfl rfl rfl (zW hm fun b101 w hm=>⟨fun _=>hm.sn (Fz.Le.refl _),fun a he =>?_⟩)
 refine wD he rfl rfl (fun w=>qM (vs:=[(0,.agg (List.toArray [.slice p3 c.datas.length c4,.slice p9 c.inputs.length c10,.slice p15 c.funs.length c16,.slice p21 c.outputs.length c22])),(1,.slice pn98 (zD c).length cn99),(3,.map (some b100)),(4,.map (some b101))]) (cs:=[.slice p3 c.datas.length c4,.slice p9 c.inputs.length c10,.slice p15 c.funs.length c16,.slice p21 c.outputs.length c22,.slice pn98 (zD c).length cn99,.slice none 0 0,.map (some b100),.map (some b101),.nilFunc]) he rfl (by kernel_rfl)) rfl fun a he =>?_
 refine gL ?_ ?_
 refine d_e he rfl rfl rfl (qG he hm rfl rfl fun b102 w hm=>⟨fun _=>hm.sn (Fz.Le.refl _),fun a he =>?_⟩)
 refine d_e he rfl rfl rfl (yI hm zeroValue66 rfl fun b103 w hm=>⟨fun _=>hm.sn (Fz.Le.refl _),fun a he =>?_⟩)
 refine vK he rfl rfl (zS 0 he hm rfl rfl rfl rfl sizeOf66 rfl rfl rfl fun w hm=>⟨zU (by kernel_rfl),fun a he =>?_⟩)
 replace hm:=hm.nf
 refine go fun a he =>?_
 replace hm:=hm.ar [] [5,1,3,4,5,5]
 exact hJ32 _ _ ⟨b102,b103,b100,b101,pn98,cn99,he.pk,hm,trivial⟩
 refine d_e he rfl rfl rfl (yI hm zeroValue66 rfl fun b104 w hm=>⟨fun _=>hm.sn (Fz.Le.refl _),fun a he =>?_⟩)
 refine d_e he rfl rfl rfl (qG he hm rfl rfl fun b105 w hm=>⟨fun _=>hm.sn (Fz.Le.refl _),fun a he =>?_⟩)
 refine vK he rfl rfl (zS 1 he hm rfl rfl rfl rfl sizeOf66 rfl rfl rfl fun w hm=>⟨zU (by kernel_rfl),fun a he =>?_⟩)
 replace hm:=hm.nf
 refine go fun a he =>?_
 replace hm:=hm.ar [] [5,2,3,4,5,5]
 exact hJ32 _ _ ⟨b105,b104,b100,b101,pn98,cn99,he.pk,hm,trivial⟩
 refine d_e he rfl rfl rfl (yI hm zeroValue66 rfl fun b106 w hm=>⟨fun _=>hm.sn (Fz.Le.refl _),fun a he =>?_⟩)
 refine d_e he rfl rfl rfl (zW hm fun b107 w hm=>⟨fun _=>hm.sn (Fz.Le.refl _),fun a he =>?_⟩)
 refine wD he rfl rfl (fun w=>qM (vs:=[(0,.agg (List.toArray [.slice p3 c.datas.length c4,.slice p9 c.inputs.length c10,.slice p15 c.funs.length c16,.slice p21 c.outputs.length c22])),(1,.slice pn98 (zD c).length cn99),(3,.map (some b100)),(4,.map (some b107))]) (cs:=[.slice p3 c.datas.length c4,.slice p9 c.inputs.length c10,.slice p15 c.funs.length c16,.slice p21 c.outputs.length c22,.slice pn98 (zD c).length cn99,.slice none 0 0,.map (some b100),.map (some b107),.nilFunc]) he rfl (by kernel_rfl)) rfl fun a he =>?_
 refine d_e he rfl rfl rfl (qG he hm rfl rfl fun b108 w hm=>⟨fun _=>hm.sn (Fz.Le.refl _),fun a he =>?_⟩)
 refine vK he rfl rfl (zS 2 he hm rfl rfl rfl rfl sizeOf66 rfl rfl rfl fun w hm=>⟨zU (by kernel_rfl),fun a he =>?_⟩)
 replace hm:=hm.nf
 refine go fun a he =>?_
 replace hm:=hm.ar [] [5,3,3,4,5,5]
 exact hJ32 _ _ ⟨b108,b106,b100,b107,pn98,cn99,he.pk,hm,trivial⟩
 refine wE he rfl rfl rfl (zW hm fun b109 w hm=>⟨fun _=>hm.sn (Fz.Le.refl _),fun a he =>?_⟩)
 refine z8l ?_
 refine gL ?_ ?_
 refine d_e he rfl rfl rfl (zW hm fun b110 w hm=>⟨fun _=>hm.sn (Fz.Le.refl _),fun a he =>?_⟩)
 refine wD he rfl rfl (fun w=>qM (vs:=[(0,.agg (List.toArray [.slice p3 c.datas.length c4,.slice p9 c.inputs.length c10,.slice p15 c.funs.length c16,.slice p21 c.outputs.length c22])),(1,.slice pn98 (zD c).length cn99),(3,.map (some b110)),(4,.map (some b109))]) (cs:=[.slice p3 c.datas.length c4,.slice p9 c.inputs.length c10,.slice p15 c.funs.length c16,.slice p21 c.outputs.length c22,.slice pn98 (zD c).length cn99,.slice none 0 0,.map (some b110),.map (some b109),.nilFunc]) he rfl (by kernel_rfl)) rfl fun a he =>?_
 refine gL ?_ ?_
 refine d_e he rfl rfl rfl (qG he hm rfl rfl fun b111 w hm=>⟨fun _=>hm.sn (Fz.Le.refl _),fun a he =>?_⟩)
 refine d_e he rfl rfl rfl (yI hm zeroValue66 rfl fun b112 w hm=>⟨fun _=>hm.sn (Fz.Le.refl _),fun a he =>?_⟩)
 refine vK he rfl rfl (zS 0 he hm rfl rfl rfl rfl sizeOf66 rfl rfl rfl fun w hm=>⟨zU (by kernel_rfl),fun a he =>?_⟩)
 replace hm:=hm.nf
 refine go fun a he =>?_
 replace hm:=hm.ar [] [5,1,4,4,5,5]
 exact hJ32 _ _ ⟨b111,b112,b110,b109,pn98,cn99,he.pk,hm,trivial⟩
 refine d_e he rfl rfl rfl (yI hm zeroValue66 rfl fun b113 w hm=>⟨fun _=>hm.sn (Fz.Le.refl _),fun a he =>?_⟩)
 refine d_e he rfl rfl rfl (qG he hm rfl rfl fun b114 w hm=>⟨fun _=>hm.sn (Fz.Le.refl _),fun a he =>?_⟩)
 refine vK he rfl rfl (zS 1 he hm rfl rfl rfl rfl sizeOf66 rfl rfl rfl fun w hm=>⟨zU (by kernel_rfl),fun a he =>?_⟩)
 replace hm:=hm.nf
 refine go fun a he =>?_
 replace hm:=hm.ar [] [5,2,4,4,5,5]
 exact hJ32 _ _ ⟨b114,b113,b110,b109,pn98,cn99,he.pk,hm,trivial⟩
 refine d_e he rfl rfl rfl (yI hm zeroValue66 rfl fun b115 w hm=>⟨fun _=>hm.sn (Fz.Le.refl _),fun a he =>?_⟩)
 refine d_e he rfl rfl rfl (zW hm fun b116 w hm=>⟨fun _=>hm.sn (Fz.Le.refl _),fun a he =>?_⟩)
 refine wD he rfl rfl (fun w=>qM (vs:=[(0,.agg (List.toArray [.slice p3 c.datas.length c4,.slice p9 c.inputs.length c10,.slice p15 c.funs.length c16,.slice p21 c.outputs.length c22])),(1,.slice pn98 (zD c).length cn99),(3,.map (some b116)),(4,.map (some b109))]) (cs:=[.slice p3 c.datas.length c4,.slice p9 c.inputs.length c10,.slice p15 c.funs.length c16,.slice p21 c.outputs.length c22,.slice pn98 (zD c).length cn99,.slice none 0 0,.map (some b116),.map (some b109),.nilFunc]) he rfl (by kernel_rfl)) rfl fun a he =>?_
 refine d_e he rfl rfl rfl (qG he hm rfl rfl fun b117 w hm=>⟨fun _=>hm.sn (Fz.Le.refl _),fun a he =>?_⟩)
 refine vK he rfl rfl (zS 2 he hm rfl rfl rfl rfl sizeOf66 rfl rfl rfl fun w hm=>⟨zU (by kernel_rfl),fun a he =>?_⟩)
 replace hm:=hm.nf
 refine go fun a he =>?_
 replace hm:=hm.ar [] [5,3,4,4,5,5]
 exact hJ32 _ _ ⟨b117,b115,b116,b109,pn98,cn99,he.pk,hm,trivial⟩
 refine wE he rfl rfl rfl (yI hm zeroValue66 rfl fun b118 w hm=>⟨fun _=>hm.sn (Fz.Le.refl _),fun a he =>?_⟩)
 refine z8l ?_
 refine gL ?_ ?_
 refine d_e he rfl rfl rfl (zW hm fun b119 w hm=>⟨fun _=>hm.sn (Fz.Le.refl _),fun a he =>?_⟩)
 refine d_e he rfl rfl rfl (zW hm fun b120 w hm=>⟨fun _=>hm.sn (Fz.Le.refl _),fun a he =>?_⟩)
 refine wD he rfl rfl (fun w=>qM (vs:=[(0,.agg (List.toArray [.slice p3 c.datas.length c4,.slice p9 c.inputs.length c10,.slice p15 c.funs.length c16,.slice p21 c.outputs.length c22])),(1,.slice pn98 (zD c).length cn99),(3,.map (some b119)),(4,.map (some b120))]) (cs:=[.slice p3 c.datas.length c4,.slice p9 c.inputs.length c10,.slice p15 c.funs.length c16,.slice p21 c.outputs.length c22,.slice pn98 (zD c).length cn99,.slice none 0 0,.map (some b119),.map (some b120),.nilFunc]) he rfl (by kernel_rfl)) rfl fun a he =>?_
 refine d_e he rfl rfl rfl (qG he hm rfl rfl fun b121 w hm=>⟨fun _=>hm.sn (Fz.Le.refl _),fun a he =>?_⟩)
 refine vK he rfl rfl (zS 3 he hm rfl rfl rfl rfl sizeOf66 rfl rfl rfl fun w hm=>⟨zU (by kernel_rfl),fun a he =>?_⟩)
 replace hm:=hm.nf
 refine go fun a he =>?_
 replace hm:=hm.ar [] [5,4,3,4,5,5]
 exact hJ32 _ _ ⟨b121,b118,b119,b120,pn98,cn99,he.pk,hm,trivial⟩
 refine d_e he rfl rfl rfl (zW hm fun b122 w hm=>⟨fun _=>hm.sn (Fz.Le.refl _),fun a he =>?_⟩)
 refine d_e he rfl rfl rfl (zW hm fun b123 w hm=>⟨fun _=>hm.sn (Fz.Le.refl _),fun a he =>?_⟩)
 refine wD he rfl rfl (fun w=>qM (vs:=[(0,.agg (List.toArray [.slice p3 c.datas.length c4,.slice p9 c.inputs.length c10,.slice p15 c.funs.length c16,.slice p21 c.outputs.length c22])),(1,.slice pn98 (zD c).length cn99),(3,.map (some b123)),(4,.map (some b122))]) (cs:=[.slice p3 c.datas.length c4,.slice p9 c.inputs.length c10,.slice p15 c.funs.length c16,.slice p21 c.outputs.length c22,.slice pn98 (zD c).length cn99,.slice none 0 0,.map (some b123),.map (some b122),.nilFunc]) he rfl (by kernel_rfl)) rfl fun a he =>?_
 refine d_e he rfl rfl rfl (qG he hm rfl rfl fun b124 w hm=>⟨fun _=>hm.sn (Fz.Le.refl _),fun a he =>?_⟩)
 refine vK he rfl rfl (zS 3 he hm rfl rfl rfl rfl sizeOf66 rfl rfl rfl fun w hm=>⟨zU (by kernel_rfl),fun a he =>?_⟩)
 replace hm:=hm.nf
 refine go fun a he =>?_
 replace hm:=hm.ar [] [5,4,4,4,5,5]
 exact hJ32 _ _ ⟨b124,b118,b123,b122,pn98,cn99,he.pk,hm,trivial⟩
 refine wE he rfl rfl rfl (zW hm fun b125 w hm=>⟨fun _=>hm.sn (Fz.Le.refl _),fun a he =>?_⟩)
 refine t_e3 ?_ ?_ ?_
 refine wE he rfl rfl rfl (qQ he rfl call37 (xC rpc0_ G L_.tidy L_.nl hm) (fun y126 w hG127 hm=>⟨fun _=>hm.sn (Fz.Le.refl _),fun a he =>?_⟩))
 obtain ⟨pn128,cn129,rfl⟩:=qZ hm (i:=0) rfl
 replace hm:=hm.nf
 refine z8l ?_
 refine gL ?_ ?_
 refine d_e he rfl rfl rfl (zW hm fun b130 w hm=>⟨fun _=>hm.sn (Fz.Le.refl _),fun a he =>?_⟩)
 refine wD he rfl rfl (fun w=>qM (vs:=[(0,.agg (List.toArray [.slice p3 c.datas.length c4,.slice p9 c.inputs.length c10,.slice p15 c.funs.length c16,.slice p21 c.outputs.length c22])),(1,.slice pn128 (zD c).length cn129),(3,.map (some b125)),(4,.map (some b130))]) (cs:=[.slice p3 c.datas.length c4,.slice p9 c.inputs.length c10,.slice p15 c.funs.length c16,.slice p21 c.outputs.length c22,.slice pn128 (zD c).length cn129,.slice none 0 0,.map (some b125),.map (some b130),.nilFunc]) he rfl (by kernel_rfl)) rfl fun a he =>?_
 refine gL ?_ ?_
 refine d_e he rfl rfl rfl (qG he hm rfl rfl fun b131 w hm=>⟨fun _=>hm.sn (Fz.Le.refl _),fun a he =>?_⟩)
 refine d_e he rfl rfl rfl (yI hm zeroValue66 rfl fun b132 w hm=>⟨fun _=>hm.sn (Fz.Le.refl _),fun a he =>?_⟩)
 refine vK he rfl rfl (zS 0 he hm rfl rfl rfl rfl sizeOf66 rfl rfl rfl fun w hm=>⟨zU (by kernel_rfl),fun a he =>?_⟩)
 replace hm:=hm.nf
 refine go fun a he =>?_
 replace hm:=hm.ar [] [5,1,3,5,5,5]
 exact hJ32 _ _ ⟨b131,b132,b125,b130,pn128,cn129,he.pk,hm,trivial⟩
 refine d_e he rfl rfl rfl (yI hm zeroValue66 rfl fun b133 w hm=>⟨fun _=>hm.sn (Fz.Le.refl _),fun a he =>?_⟩)
 refine d_e he rfl rfl rfl (qG he hm rfl rfl fun b134 w hm=>⟨fun _=>hm.sn (Fz.Le.refl _),fun a he =>?_⟩)
 refine vK he rfl rfl (zS 1 he hm rfl rfl rfl rfl sizeOf66 rfl rfl rfl fun w hm=>⟨zU (by kernel_rfl),fun a he =>?_⟩)
 replace hm:=hm.nf
 refine go fun a he =>?_
 replace hm:=hm.ar [] [5,2,3,5,5,5]
 exact hJ32 _ _ ⟨b134,b133,b125,b130,pn128,cn129,he.pk,hm,trivial⟩
 refine d_e he rfl rfl rfl (yI hm zeroValue66 rfl fun b135 w hm=>⟨fun _=>hm.sn (Fz.Le.refl _),fun a he =>?_⟩)
 refine d_e he rfl rfl rfl (zW hm fun b136 w hm=>⟨fun _=>hm.sn (Fz.Le.refl _),fun a he =>?_⟩)
 refine wD he rfl rfl (fun w=>qM (vs:=[(0,.agg (List.toArray [.slice p3 c.datas.length c4,.slice p9 c.inputs.length c10,.slice p15 c.funs.length c16,.slice p21 c.outputs.length c22])),(1,.slice pn128 (zD c).length cn129),(3,.map (some b125)),(4,.map (some b136))]) (cs:=[.slice p3 c.datas.length c4,.slice p9 c.inputs.length c10,.slice p15 c.funs.length c16,.slice p21 c.outputs.length c22,.slice pn128 (zD c).length cn129,.slice none 0 0,.map (some b125),.map (some b136),.nilFunc]) he rfl (by kernel_rfl)) rfl fun a he =>?_
 refine d_e he rfl rfl rfl (qG he hm rfl rfl fun b137 w hm=>⟨fun _=>hm.sn (Fz.Le.refl _),fun a he =>?_⟩)
 refine vK he rfl rfl (zS 2 he hm rfl rfl rfl rfl sizeOf66 rfl rfl rfl fun w hm=>⟨zU (by kernel_rfl),fun a he =>?_⟩)
 replace hm:=hm.nf
 refine go fun a he =>?_
 replace hm:=hm.ar [] [5,3,3,5,5,5]
 exact hJ32 _ _ ⟨b137,b135,b125,b136,pn128,cn129,he.pk,hm,trivial⟩
 refine wE he rfl rfl rfl (zW hm fun b138 w hm=>⟨fun _=>hm.sn (Fz.Le.refl _),fun a he =>?_⟩)
 refine z8l ?_
 refine gL ?_ ?_
 refine d_e he rfl rfl rfl (qQ he rfl call37 (xC rpc0_ G L_.tidy L_.nl hm) (fun y139 w hG140 hm=>⟨fun _=>hm.sn (Fz.Le.refl _),fun a he =>?_⟩))
 obtain ⟨pn141,cn142,rfl⟩:=qZ hm (i:=0) rfl
 replace hm:=hm.nf
 refine wD he rfl rfl (fun w=>qM (vs:=[(0,.agg (List.toArray [.slice p3 c.datas.length c4,.slice p9 c.inputs.length c10,.slice p15 c.funs.length c16,.slice p21 c.outputs.length c22])),(1,.slice pn141 (zD c).length cn142),(3,.map (some b125)),(4,.map (some b138))]) (cs:=[.slice p3 c.datas.length c4,.slice p9 c.inputs.length c10,.slice p15 c.funs.length c16,.slice p21 c.outputs.length c22,.slice pn141 (zD c).length cn142,.slice none 0 0,.map (some b125),.map (some b138),.nilFunc]) he rfl (by kernel_rfl)) rfl fun a he =>?_
 refine gL ?_ ?_
 refine d_e he rfl rfl rfl (qG he hm rfl rfl fun b143 w hm=>⟨fun _=>hm.sn (Fz.Le.refl _),fun a he =>?_⟩)
 refine d_e he rfl rfl rfl (yI hm zeroValue66 rfl fun b144 w hm=>⟨fun _=>hm.sn (Fz.Le.refl _),fun a he =>?_⟩)
 refine vK he rfl rfl (zS 0 he hm rfl rfl rfl rfl sizeOf66 rfl rfl rfl fun w hm=>⟨zU (by kernel_rfl),fun a he =>?_⟩)
 replace hm:=hm.nf
 refine go fun a he =>?_
 replace hm:=hm.ar [] [5,1,4,5,5,5]
 exact hJ32 _ _ ⟨b143,b144,b125,b138,pn141,cn142,he.pk,hm,trivial⟩
 refine d_e he rfl rfl rfl (yI hm zeroValue66 rfl fun b145 w hm=>⟨fun _=>hm.sn (Fz.Le.refl _),fun a he =>?_⟩)
 refine d_e he rfl rfl rfl (qG he hm rfl rfl fun b146 w hm=>⟨fun _=>hm.sn (Fz.Le.refl _),fun a he =>?_⟩)
 refine vK he rfl rfl (zS 1 he hm rfl rfl rfl rfl sizeOf66 rfl rfl rfl fun w hm=>⟨zU (by kernel_rfl),fun a he =>?_⟩)
 replace hm:=hm.nf
 refine go fun a he =>?_
 replace hm:=hm.ar [] [5,2,4,5,5,5]
 exact hJ32 _ _ ⟨b146,b145,b125,b138,pn141,cn142,he.pk,hm,trivial⟩
 refine d_e he rfl rfl rfl (yI hm zeroValue66 rfl fun b147 w hm=>⟨fun _=>hm.sn (Fz.Le.refl _),fun a he =>?_⟩)
 refine d_e he rfl rfl rfl (qQ he rfl call37 (xC rpc0_ G L_.tidy L_.nl hm) (fun y148 w hG149 hm=>⟨fun _=>hm.sn (Fz.Le.refl _),fun a he =>?_⟩))
 obtain ⟨pn150,cn151,rfl⟩:=qZ hm (i:=0) rfl
 replace hm:=hm.nf
 refine wD he rfl rfl (fun w=>qM (vs:=[(0,.agg (List.toArray [.slice p3 c.datas.length c4,.slice p9 c.inputs.length c10,.slice p15 c.funs.length c16,.slice p21 c.outputs.length c22])),(1,.slice pn150 (zD c).length cn151),(3,.map (some b125)),(4,.map (some b138))]) (cs:=[.slice p3 c.datas.length c4,.slice p9 c.inputs.length c10,.slice p15 c.funs.length c16,.slice p21 c.outputs.length c22,.slice pn150 (zD c).length cn151,.slice none 0 0,.map (some b125),.map (some b138),.nilFunc]) he rfl (by kernel_rfl)) rfl fun a he =>?_
 refine d_e he rfl rfl rfl (qG he hm rfl rfl fun b152 w hm=>⟨fun _=>hm.sn (Fz.Le.refl _),fun a he =>?_⟩)
 refine vK he rfl rfl (zS 2 he hm rfl rfl rfl rfl sizeOf66 rfl rfl rfl fun w hm=>⟨zU (by kernel_rfl),fun a he =>?_⟩)
 replace hm:=hm.nf
 refine go fun a he =>?_
 replace hm:=hm.ar [] [5,3,4,5,5,5]
 exact hJ32 _ _ ⟨b152,b147,b125,b138,pn150,cn151,he.pk,hm,trivial⟩
 refine wE he rfl rfl rfl (yI hm zeroValue66 rfl fun b153 w hm=>⟨fun _=>hm.sn (Fz.Le.refl _),fun a he =>?_⟩)
 refine z8l ?_
 refine gL ?_ ?_
 refine d_e he rfl rfl rfl (qQ he rfl call37 (xC rpc0_ G L_.tidy L_.nl hm) (fun y154 w hG155 hm=>⟨fun _=>hm.sn (Fz.Le.refl _),fun a he =>?_⟩))
 obtain ⟨pn156,cn157,rfl⟩:=qZ hm (i:=0) rfl
 replace hm:=hm.nf
 refine d_e he rfl rfl rfl (zW hm fun b158 w hm=>⟨fun _=>hm.sn (Fz.Le.refl _),fun a he =>?_⟩)
 refine wD he rfl rfl (fun w=>qM (vs:=[(0,.agg (List.toArray [.slice p3 c.datas.length c4,.slice p9 c.inputs.length c10,.slice p15 c.funs.length c16,.slice p21 c.outputs.length c22])),(1,.slice pn156 (zD c).length cn157),(3,.map (some b125)),(4,.map (some b158))]) (cs:=[.slice p3 c.datas.length c4,.slice p9 c.inputs.length c10,.slice p15 c.funs.length c16,.slice p21 c.outputs.length c22,.slice pn156 (zD c).length cn157,.slice none 0 0,.map (some b125),.map (some b158),.nilFunc]) he rfl (by kernel_rfl)) rfl fun a he =>?_
 refine d_e he rfl rfl rfl (qG he hm rfl rfl fun b159 w hm=>⟨fun _=>hm.sn (Fz.Le.refl _),fun a he =>?_⟩)
 refine vK he rfl rfl (zS 3 he hm rfl rfl rfl rfl sizeOf66 rfl rfl rfl fun w hm=>⟨zU (by kernel_rfl),fun a he =>?_⟩)
 replace hm:=hm.nf
 refine go fun a he =>?_
 replace hm:=hm.ar [] [5,4,3,5,5,5]
 exact hJ32 _ _ ⟨b159,b153,b125,b158,pn156,cn157,he.pk,hm,trivial⟩
 refine d_e he rfl rfl rfl (zW hm fun b160 w hm=>⟨fun _=>hm.sn (Fz.Le.refl _),fun a he =>?_⟩)
 refine d_e he rfl rfl rfl (qQ he rfl call37 (xC rpc0_ G L_.tidy L_.nl hm) (fun y161 w hG162 hm=>⟨fun _=>hm.sn (Fz.Le.refl _),fun a he =>?_⟩))
 obtain ⟨pn163,cn164,rfl⟩:=qZ hm (i:=0) rfl
 replace hm:=hm.nf
 refine wD he rfl rfl (fun w=>qM (vs:=[(0,.agg (List.toArray [.slice p3 c.datas.length c4,.slice p9 c.inputs.length c10,.slice p15 c.funs.length c16,.slice p21 c.outputs.length c22])),(1,.slice pn163 (zD c).length cn164),(3,.map (some b125)),(4,.map (some b160))]) (cs:=[.slice p3 c.datas.length c4,.slice p9 c.inputs.length c10,.slice p15 c.funs.length c16,.slice p21 c.outputs.length c22,.slice pn163 (zD c).length cn164,.slice none 0 0,.map (some b125),.map (some b160),.nilFunc]) he rfl (by kernel_rfl)) rfl fun a he =>?_
 refine d_e he rfl rfl rfl (qG he hm rfl rfl fun b165 w hm=>⟨fun _=>hm.sn (Fz.Le.refl _),fun a he =>?_⟩)
 refine vK he rfl rfl (zS 3 he hm rfl rfl rfl rfl sizeOf66 rfl rfl rfl fun w hm=>⟨zU (by kernel_rfl),fun a he =>?_⟩)
 replace hm:=hm.nf
 refine go fun a he =>?_
 replace hm:=hm.ar [] [5,4,4,5,5,5]
 exact hJ32 _ _ ⟨b165,b153,b125,b160,pn163,cn164,he.pk,hm,trivial⟩
 refine wE he rfl rfl rfl (zW hm fun b166 w hm=>⟨fun _=>hm.sn (Fz.Le.refl _),fun a he =>?_⟩)
 refine t_e3 ?_ ?_ ?_
 refine wE he rfl rfl rfl (qQ he rfl call37 (xC rpc0_ G L_.tidy L_.nl hm) (fun y167 w hG168 hm=>⟨fun _=>hm.sn (Fz.Le.refl _),fun a he =>?_⟩))
 obtain ⟨pn169,cn170,rfl⟩:=qZ hm (i:=0) rfl
 replace hm:=hm.nf
 refine z8l ?_
 refine gL ?_ ?_
 refine d_e he rfl rfl rfl (zW hm fun b171 w hm=>⟨fun _=>hm.sn (Fz.Le.refl _),fun a he =>?_⟩)
 refine wD he rfl rfl (fun w=>qM (vs:=[(0,.agg (List.toArray [.slice p3 c.datas.length c4,.slice p9 c.inputs.length c10,.slice p15 c.funs.length c16,.slice p21 c.outputs.length c22])),(1,.slice pn169 (zD c).length cn170),(3,.map (some b171)),(4,.map (some b166))]) (cs:=[.slice p3 c.datas.length c4,.slice p9 c.inputs.length c10,.slice p15 c.funs.length c16,.slice p21 c.outputs.length c22,.slice pn169 (zD c).length cn170,.slice none 0 0,.map (some b171),.map (some b166),.nilFunc]) he rfl (by kernel_rfl)) rfl fun a he =>?_
 refine gL ?_ ?_
 refine d_e he rfl rfl rfl (qG he hm rfl rfl fun b172 w hm=>⟨fun _=>hm.sn (Fz.Le.refl _),fun a he =>?_⟩)
 refine d_e he rfl rfl rfl (yI hm zeroValue66 rfl fun b173 w hm=>⟨fun _=>hm.sn (Fz.Le.refl _),fun a he =>?_⟩)
 refine vK he rfl rfl (zS 0 he hm rfl rfl rfl rfl sizeOf66 rfl rfl rfl fun w hm=>⟨zU (by kernel_rfl),fun a he =>?_⟩)
 replace hm:=hm.nf
 refine go fun a he =>?_
 replace hm:=hm.ar [] [5,1,5,4,5,5]
 exact hJ32 _ _ ⟨b172,b173,b171,b166,pn169,cn170,he.pk,hm,trivial⟩
 refine d_e he rfl rfl rfl (yI hm zeroValue66 rfl fun b174 w hm=>⟨fun _=>hm.sn (Fz.Le.refl _),fun a he =>?_⟩)
 refine d_e he rfl rfl rfl (qG he hm rfl rfl fun b175 w hm=>⟨fun _=>hm.sn (Fz.Le.refl _),fun a he =>?_⟩)
 refine vK he rfl rfl (zS 1 he hm rfl rfl rfl rfl sizeOf66 rfl rfl rfl fun w hm=>⟨zU (by kernel_rfl),fun a he =>?_⟩)
 replace hm:=hm.nf
 refine go fun a he =>?_
 replace hm:=hm.ar [] [5,2,5,4,5,5]
 exact hJ32 _ _ ⟨b175,b174,b171,b166,pn169,cn170,he.pk,hm,trivial⟩
 refine d_e he rfl rfl rfl (yI hm zeroValue66 rfl fun b176 w hm=>⟨fun _=>hm.sn (Fz.Le.refl _),fun a he =>?_⟩)
 refine d_e he rfl rfl rfl (zW hm fun b177 w hm=>⟨fun _=>hm.sn (Fz.Le.refl _),fun a he =>?_⟩)
 refine wD he rfl rfl (fun w=>qM (vs:=[(0,.agg (List.toArray [.slice p3 c.datas.length c4,.slice p9 c.inputs.length c10,.slice p15 c.funs.length c16,.slice p21 c.outputs.length c22])),(1,.slice pn169 (zD c).length cn170),(3,.map (some b177)),(4,.map (some b166))]) (cs:=[.slice p3 c.datas.length c4,.slice p9 c.inputs.length c10,.slice p15 c.funs.length c16,.slice p21 c.outputs.length c22,.slice pn169 (zD c).length cn170,.slice none 0 0,.map (some b177),.map (some b166),.nilFunc]) he rfl (by kernel_rfl)) rfl fun a he =>?_
 refine d_e he rfl rfl rfl (qG he hm rfl rfl fun b178 w hm=>⟨fun _=>hm.sn (Fz.Le.refl _),fun a he =>?_⟩)
 refine vK he rfl rfl (zS 2 he hm rfl rfl rfl rfl sizeOf66 rfl rfl rfl fun w hm=>⟨zU (by kernel_rfl),fun a he =>?_⟩)
 replace hm:=hm.nf
 refine go fun a he =>?_
 replace hm:=hm.ar [] [5,3,5,4,5,5]
 exact hJ32 _ _ ⟨b178,b176,b177,b166,pn169,cn170,he.pk,hm,trivial⟩
 refine wE he rfl rfl rfl (zW hm fun b179 w hm=>⟨fun _=>hm.sn (Fz.Le.refl _),fun a he =>?_⟩)
 refine z8l ?_
 refine gL ?_ ?_
 refine d_e he rfl rfl rfl (qQ he rfl call37 (xC rpc0_ G L_.tidy L_.nl hm) (fun y180 w hG181 hm=>⟨fun _=>hm.sn (Fz.Le.refl _),fun a he =>?_⟩))
 obtain ⟨pn182,cn183,rfl⟩:=qZ hm (i:=0) rfl
 replace hm:=hm.nf
 refine wD he rfl rfl (fun w=>qM (vs:=[(0,.agg (List.toArray [.slice p3 c.datas.length c4,.slice p9 c.inputs.length c10,.slice p15 c.funs.length c16,.slice p21 c.outputs.length c22])),(1,.slice pn182 (zD c).length cn183),(3,.map (some b179)),(4,.map (some b166))]) (cs:=[.slice p3 c.datas.length c4,.slice p9 c.inputs.length c10,.slice p15 c.funs.length c16,.slice p21 c.outputs.length c22,.slice pn182 (zD c).length cn183,.slice none 0 0,.map (some b179),.map (some b166),.nilFunc]) he rfl (by kernel_rfl)) rfl fun a he =>?_
 refine gL ?_ ?_
 refine d_e he rfl rfl rfl (qG he hm rfl rfl fun b184 w hm=>⟨fun _=>hm.sn (Fz.Le.refl _),fun a he =>?_⟩)
 refine d_e he rfl rfl rfl (yI hm zeroValue66 rfl fun b185 w hm=>⟨fun _=>hm.sn (Fz.Le.refl _),fun a he =>?_⟩)
 refine vK he rfl rfl (zS 0 he hm rfl rfl rfl rfl sizeOf66 rfl rfl rfl fun w hm=>⟨zU (by kernel_rfl),fun a he =>?_⟩)
 replace hm:=hm.nf
 refine go fun a he =>?_
 replace hm:=hm.ar [] [5,1,5,5,5,5]
 exact hJ32 _ _ ⟨b184,b185,b179,b166,pn182,cn183,he.pk,hm,trivial⟩
 refine d_e he rfl rfl rfl (yI hm zeroValue66 rfl fun b186 w hm=>⟨fun _=>hm.sn (Fz.Le.refl _),fun a he =>?_⟩)
 refine d_e he rfl rfl rfl (qG he hm rfl rfl fun b187 w hm=>⟨fun _=>hm.sn (Fz.Le.refl _),fun a he =>?_⟩)
 refine vK he rfl rfl (zS 1 he hm rfl rfl rfl rfl sizeOf66 rfl rfl rfl fun w hm=>⟨zU (by kernel_rfl),fun a he =>?_⟩)
 replace hm:=hm.nf
 refine go fun a he =>?_
 replace hm:=hm.ar [] [5,2,5,5,5,5]
 exact hJ32 _ _ ⟨b187,b186,b179,b166,pn182,cn183,he.pk,hm,trivial⟩
 refine d_e he rfl rfl rfl (yI hm zeroValue66 rfl fun b188 w hm=>⟨fun _=>hm.sn (Fz.Le.refl _),fun a he =>?_⟩)
 refine d_e he rfl rfl rfl (qQ he rfl call37 (xC rpc0_ G L_.tidy L_.nl hm) (fun y189 w hG190 hm=>⟨fun _=>hm.sn (Fz.Le.refl _),fun a he =>?_⟩))
 obtain ⟨pn191,cn192,rfl⟩:=qZ hm (i:=0) rfl
 replace hm:=hm.nf
 refine wD he rfl rfl (fun w=>qM (vs:=[(0,.agg (List.toArray [.slice p3 c.datas.length c4,.slice p9 c.inputs.length c10,.slice p15 c.funs.length c16,.slice p21 c.outputs.length c22])),(1,.slice pn191 (zD c).length cn192),(3,.map (some b179)),(4,.map (some b166))]) (cs:=[.slice p3 c.datas.length c4,.slice p9 c.inputs.length c10,.slice p15 c.funs.length c16,.slice p21 c.outputs.length c22,.slice pn191 (zD c).length cn192,.slice none 0 0,.map (some b179),.map (some b166),.nilFunc]) he rfl (by kernel_rfl)) rfl fun a he =>?_
 refine d_e he rfl rfl rfl (qG he hm rfl rfl fun b193 w hm=>⟨fun _=>hm.sn (Fz.Le.refl _),fun a he =>?_⟩)
 refine vK he rfl rfl (zS 2 he hm rfl rfl rfl rfl sizeOf66 rfl rfl rfl fun w hm=>⟨zU (by kernel_rfl),fun a he =>?_⟩)
 replace hm:=hm.nf
 refine go fun a he =>?_
 replace hm:=hm.ar [] [5,3,5,5,5,5]
 exact hJ32 _ _ ⟨b193,b188,b179,b166,pn191,cn192,he.pk,hm,trivial⟩
 refine wE he rfl rfl rfl (yI hm zeroValue66 rfl fun b194 w hm=>⟨fun _=>hm.sn (Fz.Le.refl _),fun a he =>?_⟩)
 refine z8l ?_
 refine gL ?_ ?_
 refine d_e he rfl rfl rfl (qQ he rfl call37 (xC rpc0_ G L_.tidy L_.nl hm) (fun y195 w hG196 hm=>⟨fun _=>hm.sn (Fz.Le.refl _),fun a he =>?_⟩))
 obtain ⟨pn197,cn198,rfl⟩:=qZ hm (i:=0) rfl
 replace hm:=hm.nf
 refine d_e he rfl rfl rfl (zW hm fun b199 w hm=>⟨fun _=>hm.sn (Fz.Le.refl _),fun a he =>?_⟩)
 refine wD he rfl rfl (fun w=>qM (vs:=[(0,.agg (List.toArray [.slice p3 c.datas.length c4,.slice p9 c.inputs.length c10,.slice p15 c.funs.length c16,.slice p21 c.outputs.length c22])),(1,.slice pn197 (zD c).length cn198),(3,.map (some b199)),(4,.map (some b166))]) (cs:=[.slice p3 c.datas.length c4,.slice p9 c.inputs.length c10,.slice p15 c.funs.length c16,.slice p21 c.outputs.length c22,.slice pn197 (zD c).length cn198,.slice none 0 0,.map (some b199),.map (some b166),.nilFunc]) he rfl (by kernel_rfl)) rfl fun a he =>?_
 refine d_e he rfl rfl rfl (qG he hm rfl rfl fun b200 w hm=>⟨fun _=>hm.sn (Fz.Le.refl _),fun a he =>?_⟩)
 refine vK he rfl rfl (zS 3 he hm rfl rfl rfl rfl sizeOf66 rfl rfl rfl fun w hm=>⟨zU (by kernel_rfl),fun a he =>?_⟩)
 replace hm:=hm.nf
 refine go fun a he =>?_
 replace hm:=hm.ar [] [5,4,5,4,5,5]
 exact hJ32 _ _ ⟨b200,b194,b199,b166,pn197,cn198,he.pk,hm,trivial⟩
 refine d_e he rfl rfl rfl (zW hm fun b201 w hm=>⟨fun _=>hm.sn (Fz.Le.refl _),fun a he =>?_⟩)
 refine d_e he rfl rfl rfl (qQ he rfl call37 (xC rpc0_ G L_.tidy L_.nl hm) (fun y202 w hG203 hm=>⟨fun _=>hm.sn (Fz.Le.refl _),fun a he =>?_⟩))
 obtain ⟨pn204,cn205,rfl⟩:=qZ hm (i:=0) rfl
 replace hm:=hm.nf
 refine wD he rfl rfl (fun w=>qM (vs:=[(0,.agg (List.toArray [.slice p3 c.datas.length c4,.slice p9 c.inputs.length c10,.slice p15 c.funs.length c16,.slice p21 c.outputs.length c22])),(1,.slice pn204 (zD c).length cn205),(3,.map (some b201)),(4,.map (some b166))]) (cs:=[.slice p3 c.datas.length c4,.slice p9 c.inputs.length c10,.slice p15 c.funs.length c16,.slice p21 c.outputs.length c22,.slice pn204 (zD c).length cn205,.slice none 0 0,.map (some b201),.map (some b166),.nilFunc]) he rfl (by kernel_rfl)) rfl fun a he =>?_
 refine d_e he rfl rfl rfl (qG he hm rfl rfl fun b206 w hm=>⟨fun _=>hm.sn (Fz.Le.refl _),fun a he =>?_⟩)
 refine vK he rfl rfl (zS 3 he hm rfl rfl rfl rfl sizeOf66 rfl rfl rfl fun w hm=>⟨zU (by kernel_rfl),fun a he =>?_⟩)
 replace hm:=hm.nf
 refine go fun a he =>?_
 replace hm:=hm.ar [] [5,4,5,5,5,5]
 exact hJ32 _ _ ⟨b206,b194,b201,b166,pn204,cn205,he.pk,hm,trivial⟩
 refine wE he rfl rfl rfl (yI hm zeroValue66 rfl fun b207 w hm=>⟨fun _=>hm.sn (Fz.Le.refl _),fun a he =>?_⟩)
 refine t_e3 ?_ ?_ ?_
 refine wE he rfl rfl rfl (qQ he rfl call37 (xC rpc0_ G L_.tidy L_.nl hm) (fun y208 w hG209 hm=>⟨fun _=>hm.sn (Fz.Le.refl _),fun a he =>?_⟩))
 obtain ⟨pn210,cn211,rfl⟩:=qZ hm (i:=0) rfl
 replace hm:=hm.nf
 refine z8l ?_
 refine gL ?_ ?_
 refine d_e he rfl rfl rfl (zW hm fun b212 w hm=>⟨fun _=>hm.sn (Fz.Le.refl _),fun a he =>?_⟩)
 refine d_e he rfl rfl rfl (zW hm fun b213 w hm=>⟨fun _=>hm.sn (Fz.Le.refl _),fun a he =>?_⟩)
 refine wD he rfl rfl (fun w=>qM (vs:=[(0,.agg (List.toArray [.slice p3 c.datas.length c4,.slice p9 c.inputs.length c10,.slice p15 c.funs.length c16,.slice p21 c.outputs.length c22])),(1,.slice pn210 (zD c).length cn211),(3,.map (some b212)),(4,.map (some b213))]) (cs:=[.slice p3 c.datas.length c4,.slice p9 c.inputs.length c10,.slice p15 c.funs.length c16,.slice p21 c.outputs.length c22,.slice pn210 (zD c).length cn211,.slice none 0 0,.map (some b212),.map (some b213),.nilFunc]) he rfl (by kernel_rfl)) rfl fun a he =>?_
 refine d_e he rfl rfl rfl (qG he hm rfl rfl fun b214 w hm=>⟨fun _=>hm.sn (Fz.Le.refl _),fun a he =>?_⟩)
 refine vK he rfl rfl (zS 4 he hm rfl rfl rfl rfl sizeOf66 rfl rfl rfl fun w hm=>⟨zU (by kernel_rfl),fun a he =>?_⟩)
 replace hm:=hm.nf
 refine go fun a he =>?_
 replace hm:=hm.ar [] [5,5,3,4,5,5]
 exact hJ32 _ _ ⟨b214,b207,b212,b213,pn210,cn211,he.pk,hm,trivial⟩
 refine d_e he rfl rfl rfl (zW hm fun b215 w hm=>⟨fun _=>hm.sn (Fz.Le.refl _),fun a he =>?_⟩)
 refine d_e he rfl rfl rfl (zW hm fun b216 w hm=>⟨fun _=>hm.sn (Fz.Le.refl _),fun a he =>?_⟩)
 refine wD he rfl rfl (fun w=>qM (vs:=[(0,.agg (List.toArray [.slice p3 c.datas.length c4,.slice p9 c.inputs.length c10,.slice p15 c.funs.length c16,.slice p21 c.outputs.length c22])),(1,.slice pn210 (zD c).length cn211),(3,.map (some b216)),(4,.map (some b215))]) (cs:=[.slice p3 c.datas.length c4,.slice p9 c.inputs.length c10,.slice p15 c.funs.length c16,.slice p21 c.outputs.length c22,.slice pn210 (zD c).length cn211,.slice none 0 0,.map (some b216),.map (some b215),.nilFunc]) he rfl (by kernel_rfl)) rfl fun a he =>?_
 refine d_e he rfl rfl rfl (qG he hm rfl rfl fun b217 w hm=>⟨fun _=>hm.sn (Fz.Le.refl _),fun a he =>?_⟩)
 refine vK he rfl rfl (zS 4 he hm rfl rfl rfl rfl sizeOf66 rfl rfl rfl fun w hm=>⟨zU (by kernel_rfl),fun a he =>?_⟩)
 replace hm:=hm.nf
 refine go fun a he =>?_
 replace hm:=hm.ar [] [5,5,4,4,5,5]
 exact hJ32 _ _ ⟨b217,b207,b216,b215,pn210,cn211,he.pk,hm,trivial⟩
 refine wE he rfl rfl rfl (zW hm fun b218 w hm=>⟨fun _=>hm.sn (Fz.Le.refl _),fun a he =>?_⟩)
 refine z8l ?_
 refine gL ?_ ?_
 refine d_e he rfl rfl rfl (qQ he rfl call37 (xC rpc0_ G L_.tidy L_.nl hm) (fun y219 w hG220 hm=>⟨fun _=>hm.sn (Fz.Le.refl _),fun a he =>?_⟩))
 obtain ⟨pn221,cn222,rfl⟩:=qZ hm (i:=0) rfl
 replace hm:=hm.nf
 refine d_e he rfl rfl rfl (zW hm fun b223 w hm=>⟨fun _=>hm.sn (Fz.Le.refl _),fun a he =>?_⟩)
 refine wD he rfl rfl (fun w=>qM (vs:=[(0,.agg (List.toArray [.slice p3 c.datas.length c4,.slice p9 c.inputs.length c10,.slice p15 c.funs.length c16,.slice p21 c.outputs.length c22])),(1,.slice pn221 (zD c).length cn222),(3,.map (some b218)),(4,.map (some b223))]) (cs:=[.slice p3 c.datas.length c4,.slice p9 c.inputs.length c10,.slice p15 c.funs.length c16,.slice p21 c.outputs.length c22,.slice pn221 (zD c).length cn222,.slice none 0 0,.map (some b218),.map (some b223),.nilFunc]) he rfl (by kernel_rfl)) rfl fun a he =>?_
 refine d_e he rfl rfl rfl (qG he hm rfl rfl fun b224 w hm=>⟨fun _=>hm.sn (Fz.Le.refl _),fun a he =>?_⟩)
 refine vK he rfl rfl (zS 4 he hm rfl rfl rfl rfl sizeOf66 rfl rfl rfl fun w hm=>⟨zU (by kernel_rfl),fun a he =>?_⟩)
 replace hm:=hm.nf
 refine go fun a he =>?_
 replace hm:=hm.ar [] [5,5,3,5,5,5]
 exact hJ32 _ _ ⟨b224,b207,b218,b223,pn221,cn222,he.pk,hm,trivial⟩
 refine d_e he rfl rfl rfl (zW hm fun b225 w hm=>⟨fun _=>hm.sn (Fz.Le.refl _),fun a he =>?_⟩)
 refine d_e he rfl rfl rfl (qQ he rfl call37 (xC rpc0_ G L_.tidy L_.nl hm) (fun y226 w hG227 hm=>⟨fun _=>hm.sn (Fz.Le.refl _),fun a he =>?_⟩))
 obtain ⟨pn228,cn229,rfl⟩:=qZ hm (i:=0) rfl
 replace hm:=hm.nf
 refine wD he rfl rfl (fun w=>qM (vs:=[(0,.agg (List.toArray [.slice p3 c.datas.length c4,.slice p9 c.inputs.length c10,.slice p15 c.funs.length c16,.slice p21 c.outputs.length c22])),(1,.slice pn228 (zD c).length cn229),(3,.map (some b218)),(4,.map (some b225))]) (cs:=[.slice p3 c.datas.length c4,.slice p9 c.inputs.length c10,.slice p15 c.funs.length c16,.slice p21 c.outputs.length c22,.slice pn228 (zD c).length cn229,.slice none 0 0,.map (some b218),.map (some b225),.nilFunc]) he rfl (by kernel_rfl)) rfl fun a he =>?_
 refine d_e he rfl rfl rfl (qG he hm rfl rfl fun b230 w hm=>⟨fun _=>hm.sn (Fz.Le.refl _),fun a he =>?_⟩)
 refine vK he rfl rfl (zS 4 he hm rfl rfl rfl rfl sizeOf66 rfl rfl rfl fun w hm=>⟨zU (by kernel_rfl),fun a he =>?_⟩)
 replace hm:=hm.nf
 refine go fun a he =>?_
 replace hm:=hm.ar [] [5,5,4,5,5,5]
 exact hJ32 _ _ ⟨b230,b207,b218,b225,pn228,cn229,he.pk,hm,trivial⟩
 refine wE he rfl rfl rfl (zW hm fun b231 w hm=>⟨fun _=>hm.sn (Fz.Le.refl _),fun a he =>?_⟩)
 refine z8l ?_
 refine gL ?_ ?_
 refine d_e he rfl rfl rfl (qQ he rfl call37 (xC rpc0_ G L_.tidy L_.nl hm) (fun y232 w hG233 hm=>⟨fun _=>hm.sn (Fz.Le.refl _),fun a he =>?_⟩))
 obtain ⟨pn234,cn235,rfl⟩:=qZ hm (i:=0) rfl
 replace hm:=hm.nf
 refine d_e he rfl rfl rfl (zW hm fun b236 w hm=>⟨fun _=>hm.sn (Fz.Le.refl _),fun a he =>?_⟩)
 refine wD he rfl rfl (fun w=>qM (vs:=[(0,.agg (List.toArray [.slice p3 c.datas.length c4,.slice p9 c.inputs.length c10,.slice p15 c.funs.length c16,.slice p21 c.outputs.length c22])),(1,.slice pn234 (zD c).length cn235),(3,.map (some b236)),(4,.map (some b231))]) (cs:=[.slice p3 c.datas.length c4,.slice p9 c.inputs.length c10,.slice p15 c.funs.length c16,.slice p21 c.outputs.length c22,.slice pn234 (zD c).length cn235,.slice none 0 0,.map (some b236),.map (some b231),.nilFunc]) he rfl (by kernel_rfl)) rfl fun a he =>?_
 refine d_e he rfl rfl rfl (qG he hm rfl rfl fun b237 w hm=>⟨fun _=>hm.sn (Fz.Le.refl _),fun a he =>?_⟩)
 refine vK he rfl rfl (zS 4 he hm rfl rfl rfl rfl sizeOf66 rfl rfl rfl fun w hm=>⟨zU (by kernel_rfl),fun a he =>?_⟩)
 replace hm:=hm.nf
 refine go fun a he =>?_
 replace hm:=hm.ar [] [5,5,5,4,5,5]
 exact hJ32 _ _ ⟨b237,b207,b236,b231,pn234,cn235,he.pk,hm,trivial⟩
 refine d_e he rfl rfl rfl (zW hm fun b238 w hm=>⟨fun _=>hm.sn (Fz.Le.refl _),fun a he =>?_⟩)
 refine d_e he rfl rfl rfl (qQ he rfl call37 (xC rpc0_ G L_.tidy L_.nl hm) (fun y239 w hG240 hm=>⟨fun _=>hm.sn (Fz.Le.refl _),fun a he =>?_⟩))
 obtain ⟨pn241,cn242,rfl⟩:=qZ hm (i:=0) rfl
 replace hm:=hm.nf
 refine wD he rfl rfl (fun w=>qM (vs:=[(0,.agg (List.toArray [.slice p3 c.datas.length c4,.slice p9 c.inputs.length c10,.slice p15 c.funs.length c16,.slice p21 c.outputs.length c22])),(1,.slice pn241 (zD c).length cn242),(3,.map (some b238)),(4,.map (some b231))]) (cs:=[.slice p3 c.datas.length c4,.slice p9 c.inputs.length c10,.slice p15 c.funs.length c16,.slice p21 c.outputs.length c22,.slice pn241 (zD c).length cn242,.slice none 0 0,.map (some b238),.map (some b231),.nilFunc]) he rfl (by kernel_rfl)) rfl fun a he =>?_
 refine d_e he rfl rfl rfl (qG he hm rfl rfl fun b243 w hm=>⟨fun _=>hm.sn (Fz.Le.refl _),fun a he =>?_⟩)
 refine vK he rfl rfl (zS 4 he hm rfl rfl rfl rfl sizeOf66 rfl rfl rfl fun w hm=>⟨zU (by kernel_rfl),fun a he =>?_⟩)
 replace hm:=hm.nf
 refine go fun a he =>?_
 exact hJ32 _ _ ⟨b243,b207,b238,b231,pn241,cn242,he.pk,hm,trivial⟩
 refine go fun a he =>?_
 replace hm:=hm.dl [0]
 replace hm:Mem Φ (xJ []++(K)) w:=Mem.mid (A:=[]) (B:=xJ []) (C:=K) hm
 refine hQ _ _ _ (retX2 (ds:=[]) he results41 rfl rfl hm fun w hm =>?_)
 rw [z4j h30];exact ⟨rfl,hm⟩
end Go.Sw

namespace Go.Sw
section
variable {P:Program} {n:Nat} {E:List (Nat×Value)} {D:List Deferred} {a:Act} {Φ:Fz} {K:List Res} {w:World}
variable {dst:Option Tmp} {ty:TypeId} {pos:String} {aft:Array Edge} {g:Option (Nat×Bool)} {Kn:Value→World→Prop} {Qp:List PanicEntry→World→Prop}
theorem x3b {cur:List Value} {k j:Nat} {v:Value} (hl:j < cur.length):(cur.take j++(v::cur.drop (j+1))).take k=(cur.take k).set j v:=by
 have h:cur.take j++(v::cur.drop (j+1))=cur.set j v:=by rw [List.set_eq_take_append_cons_drop,if_pos hl]
 rw [h,List.take_set]
theorem z0x (i j:Nat) {x y:Operand} {T:TypeId} {q:Addr} {m c:Nat} {val:Value} {cells:List Value} (he:EnvR n E D a) (hm:Mem Φ K w)
  (hx:ev E x=some (.pointer (some (q.add (j * 1))))) (hy:ev E y=some val) (hk:qI K i=some (.gs (.slice (some q) m c) T 1 cells)) (hj:j < cells.length) (hc:val.cells.toList=[val]) (hS:SizeT P T 1) (h1:val.oneCell'=true)
  (kk:∀w',Mem Φ (kR K i (.gs (.slice (some q) m c) T 1 (cells.set j val))) w'→Kn undef w'):Oper.eff P ⟨dst,.store T x y,ty,pos,aft,g⟩ a w Kn Qp:=by
 obtain ⟨n0,hl,h2⟩:=hm.own _ (qJ hk)
 rcases h2 with ⟨h2,_⟩ | ⟨b,cap,cur,h2,hb0,hb,hnc,hcm,hcs,htk⟩
 ·cases h2
 ·cases h2
  have hlt:j < cur.toList.length:=by
   have:(cur.toList.take (m * 1)).length=cells.length:=by rw [htk]
   rw [List.length_take] at this;omega
  have hb':w.heap[b]? = some (.cells cur.toList.toArray T (0,0)):=by simpa using hb
  have hr:=run_storeCells_at P b j T [val] 0 cur w hb (by have:=hlt;simp at this ⊢;omega) (fun v hv=>by rw [List.mem_singleton] at hv;subst hv;exact h1)
  have ha:(⟨b,0,none⟩:Addr).add (j * 1)=⟨b,j,none⟩:=by
   unfold Addr.add;split
   ·rename_i h0;rw [Nat.mul_one] at h0;subst h0;rfl
   ·simp
  rw [ha] at hx
  have hsz:val.cells.size=1:=by rw [← Array.length_toList,hc];rfl
  unfold Oper.eff
  have:(execOp a.eval ⟨dst,.store T x y,ty,pos,aft,g⟩).run P w=.ok .skip (w.setRow b (wI cur.toList j [val]).toArray):=by
   simp only [execOp,he.ev hx,he.ev hy]
   simp only [Nat.add_zero] at hr
   simp [Instr.storeAt,Instr.sureAddr,storeVar,Sem.run_bind,hS w,hsz,hc,hr,gE]
  rw [this]
  refine kk _ (hm.upd hk rfl rfl (fun x hc hne=>setRow_other w b x _ (fun e=>hne (by simp [Res.foot,Value.ownBlock,e]))) ?_ (.inl rfl))
  refine ⟨m,by rw [List.length_set];exact hl,.inr ⟨b,c,(wI cur.toList j [val]).toArray,rfl,hb0,setRow_heap w b _ _ T _ hb,hnc,hcm,?_,?_⟩⟩
  ·rw [← hcs,gE,List.size_toArray]
   simp only [List.length_append,List.length_take,List.length_cons,List.length_nil,List.length_drop,Array.length_toList] at *
   omega
  ·rw [gE,List.toList_toArray,← htk]
   exact x3b hlt
theorem x4a (i:Nat) {x:Operand} {t kt et:TypeId} {b:Nat} {m:List (Bs×Value)} (he:EnvR n E D a) (hs:Sees Φ K w) (hx:ev E x=some (.map (some b))) (hk:qI K i=some (.mp b m)) (ht:Under P t (.map kt et)) :
  Ok P a (.call { callee:=.builtin .len,args:=#[x],argTypes:=#[t] }) ty w (.int .i64 (m.length:Int)):=fun _ _ _ _=>by
 obtain ⟨es,clock,h1,h2⟩:=hs.own _ (qJ hk)
 have h3:(getObj b).run P w=.ok (.map es clock) w:=by simp [getObj,Sem.run,h1]
 have h4:es.size=m.length:=by have:=congrArg List.length h2.eq;simpa using this
 simp only [execOp,resolve]
 simp [Sem.run_bind,Result.andThen,invoke,builtin,he.ev hx,Builtin.len_,ht w,goInt,h3,h4]
theorem z5x (o:Scope):(yK o).length=o.length:=by
 induction o with
 | nil=>rfl
 | cons p o ih=>obtain ⟨k,v⟩:=p;simp only [yK,List.map_cons,List.length_cons] at ih ⊢;omega
end
end Go.Sw

namespace Go.Sw
open Go.Proofs.Tryz
open Go.Proofs
set_option maxRecDepth 20000
set_option maxHeartbeats 4000000
theorem q7k (l:List Bs) (i:Nat) (x:Bs):strs (l.set i x)=(strs l).set i (.string x):=by simp [strs,List.map_set]
def RvI (l:List Bs) (i j:Nat) (m:List Bs):Prop:=m.length=l.length∧i+j+1=l.length∧∀k,m[k]? = if k < i∨j < k then l.reverse[k]? else l[k]?
theorem j0l {l:List Bs} {k j:Nat} (h:k+j+1=l.length):l.reverse[k]? = l[j]? := by
 rw [List.getElem?_reverse (by omega)];congr 1;omega
theorem RvI.start {l:List Bs} (h:l≠[]):RvI l 0 (l.length - 1) l:=by
 have:=List.length_pos_iff.2 h
 refine ⟨rfl,by omega,fun k =>?_⟩
 by_cases hk:l.length - 1 < k
 rw [if_pos (.inr hk),List.getElem?_eq_none_iff.2 (by omega),List.getElem?_eq_none_iff.2 (by rw [List.length_reverse];omega)]
 rw [if_neg (by omega)]
theorem RvI.step {l m:List Bs} {i j:Nat} {x y:Bs} (h:RvI l i j m) (hij:i < j) (hx:m[i]? = some x) (hy:m[j]? = some y):RvI l (i+1) (j - 1) ((m.set i y).set j x):=by
 obtain ⟨h1,h2,h3⟩:=h
 have ex:=h3 i;rw [if_neg (by omega),hx] at ex
 have ey:=h3 j;rw [if_neg (by omega),hy] at ey
 refine ⟨by rw [List.length_set,List.length_set,h1],by omega,fun k =>?_⟩
 rw [List.getElem?_set,List.getElem?_set,List.length_set]
 by_cases kj:j=k
 subst kj;rw [if_pos rfl,if_pos (by omega),if_pos (by omega),j0l (j:=i) (by omega)];exact ex
 rw [if_neg kj]
 by_cases ki:i=k
 subst ki;rw [if_pos rfl,if_pos (by omega),if_pos (by omega),j0l (j:=j) (by omega)];exact ey
 rw [if_neg ki,h3 k]
 by_cases hk:k < i∨j < k
 rw [if_pos hk,if_pos (by omega)]
 rw [if_neg hk,if_neg (by omega)]
theorem RvI.fin {l m:List Bs} {i j:Nat} (h:RvI l i j m) (hij:¬i < j):m=l.reverse:=by
 obtain ⟨h1,h2,h3⟩:=h
 apply List.ext_getElem?
 intro k
 rw [h3 k]
 by_cases hk:k < i∨j < k
 rw [if_pos hk]
 rw [if_neg hk,j0l (j:=k) (by omega)]
theorem j0m {Φ:Fz} {K:List Res} {w:World} {v:Value} {l:List Bs} (hne:l≠[]) (hlen:l.length≤2000000000000) (hm:Mem Φ (.gs v 9 1 (strs l)::K) w) :
  Calls prog 85 (List.toArray [v]) w (fun ee w'=>ee=.returned (.tuple (List.toArray []))∧Mem Φ (.gs v 9 1 (strs l.reverse)::K) w'):=by
 obtain ⟨q1,cap2,rfl⟩:=qZ hm (i:=0) rfl
 have hp_:=List.length_pos_iff.2 hne
 refine zN func85 ntmps85 fun Q hQ a he =>?_
 refine Qq (fun a he =>?_) (o:=by exact fun he hs=>pE ((l.length - 1:Nat):Int) he rfl rfl (by rw [xH (by omega)];omega))
 refine go fun a he =>?_
 refine yG (he.ks [0]) hm (fun R mm a w=>∃(i:Nat) (j:Nat) (m:List Bs),mm=j - i∧R Φ [(2,.int .i64 ((i:Nat):Int)),(3,.int .i64 ((j:Nat):Int))] [(0,.gs (.slice q1 l.length cap2) 9 1 (strs m))] a w∧(RvI l i j m)) ((l.length - 1) - 0) ⟨0,l.length - 1,l,rfl,⟨he.pk,hm⟩,RvI.start hne⟩ ?_
 clear hm he
 rintro mm a w ⟨i,j,m,hmu,⟨he,hm⟩,hI5⟩ L4 hL4
 replace hm:=hm.nf
 obtain ⟨hI1_,hI2_,hI3_⟩:=id hI5
 by_cases h8:i < j
 refine Reg [1,1,1,1,1,1,1,2,1,1,1,2,1,0,1,0] [0] fun w hm a he =>?_
 refine go fun a he =>?_
 have hb14:j < l.length:=by omega
 obtain ⟨q10,hq11⟩:=hm.toSees.gsSome (i:=0) rfl hb14
 obtain ⟨x13,hx12⟩:=yF (l:=m) (i:=j) (by first | omega | (rw [List.length_set];omega))
 refine Qq (fun a he =>?_) (o:=by exact fun he hs=>kA (p:=q10) j he (by rw [← hq11];rfl) rfl runUnderlying25 sizeOf9 hb14)
 refine Qq (fun a he =>?_) (o:=by exact fun he hs=>gH 0 j he hs rfl (by rw [← hq11];rfl) (sP hx12) isAgg9)
 refine go fun a he =>?_
 have hb19:i < l.length:=by omega
 obtain ⟨q15,hq16⟩:=hm.toSees.gsSome (i:=0) rfl hb19
 obtain ⟨x18,hx17⟩:=yF (l:=m) (i:=i) (by first | omega | (rw [List.length_set];omega))
 refine Qq (fun a he =>?_) (o:=by exact fun he hs=>kA (p:=q15) i he (by rw [← hq16];rfl) rfl runUnderlying25 sizeOf9 hb19)
 refine Qq (fun a he =>?_) (o:=by exact fun he hs=>gH 0 i he hs rfl (by rw [← hq16];rfl) (sP hx17) isAgg9)
 obtain ⟨q20,hq21⟩:=hm.toSees.gsSome (i:=0) rfl hb19
 obtain ⟨x23,hx22⟩:=yF (l:=m) (i:=i) (by first | omega | (rw [List.length_set];omega))
 refine Qq (fun a he =>?_) (o:=by exact fun he hs=>kA (p:=q20) i he (by rw [← hq21];rfl) rfl runUnderlying25 sizeOf9 hb19)
 refine vK he rfl rfl (z0x 0 i he hm rfl rfl (by rw [← hq21];rfl) (by rw [yA];first | omega | (rw [List.length_set];omega)) rfl sizeOf9 rfl fun w hm=>⟨zU (by kernel_rfl),fun a he =>?_⟩)
 replace hm:Mem Φ (.gs (.slice q1 l.length cap2) 9 1 (strs (m.set i x13))::K) w:=by rw [hq21,q7k];exact hm
 obtain ⟨q24,hq25⟩:=hm.toSees.gsSome (i:=0) rfl hb14
 obtain ⟨x27,hx26⟩:=yF (l:=(m.set i x13)) (i:=j) (by first | omega | (rw [List.length_set];omega))
 refine Qq (fun a he =>?_) (o:=by exact fun he hs=>kA (p:=q24) j he (by rw [← hq25];rfl) rfl runUnderlying25 sizeOf9 hb14)
 refine vK he rfl rfl (z0x 0 j he hm rfl rfl (by rw [← hq25];rfl) (by rw [yA];first | omega | (rw [List.length_set];omega)) rfl sizeOf9 rfl fun w hm=>⟨zU (by kernel_rfl),fun a he =>?_⟩)
 replace hm:Mem Φ (.gs (.slice q1 l.length cap2) 9 1 (strs ((m.set i x13).set j x18))::K) w:=by rw [hq25,q7k];exact hm
 refine Qq (fun a he =>?_) (o:=by exact fun he hs=>pE ((j - 1:Nat):Int) he rfl rfl (by rw [xH (by omega)];omega))
 refine go fun a he =>?_
 refine hL4 _ _ _ (by subst hmu;omega) ⟨(i+1),(j - 1),(((m.set i x13).set j x18)),rfl,⟨he.pk,hm⟩,?_⟩
 exact RvI.step hI5 h8 hx17 hx12
 refine go fun a he =>?_
 refine hQ _ _ _ (q0t he results85 ?_)
 rw [RvI.fin hI5 h8] at hm;exact ⟨rfl,hm⟩
end Go.Sw

namespace Go.Sw
open Go.Proofs.Tryz
open Go.Proofs
set_option maxRecDepth 20000
set_option maxHeartbeats 4000000
theorem j6n:∀l:List Flow,((yY l).flatMap (·.2)).length=l.length:=by
 have put:∀(m:Next) (k x:Bs),((qX m k ((zK m k).getD []++[x])).flatMap (·.2)).length=(m.flatMap (·.2)).length+1:=by
  intro m k x
  induction m with
  | nil=>simp [qX,zK]
  | cons p m ih =>
   obtain ⟨j,y⟩:=p
   by_cases h:k=j
   subst h;simp [qX,zK];omega
   simp only [qX,zK,if_neg h,List.flatMap_cons,List.length_append,ih];omega
 refine wZ (by simp [yY]) (fun l x ih =>?_)
 rw [dZ,gV,put,ih,List.length_append];rfl
def PathOk (nx:Next) (rs:List Bs) (n:Bs) (l:List Bs):Prop:=∃p,l=p++[n]∧y8n nx l∧(∀x,l[0]? = some x→x∈rs)∧∀k,Way nx rs k n→p.length≤k
def y5a (nx:Next) (rs:List Bs) (n:Bs):Except Unit Unit:=if (zK (yB nx rs) n).isSome then .ok () else .error ()
theorem y8q {nx:Next} {l:List Bs} {o:From} {q:List Bs} {d:Bs→Nat} (h:Bfs nx l q.length o q d):∀(n:Nat) (s:Bs),d s≤n→(zK o s).isSome=true→∃L:List Bs,L.length=d s+1∧L.Nodup∧(∀x∈L,x∈q)∧∀x∈L,d x≤d s
 | n,s,hn,hs=>by
  by_cases hl:s∈l
  exact ⟨[s],by rw [(h.root s hl).2];rfl,by simp,fun x hx=>by rw [List.mem_singleton] at hx;subst hx;exact (h.mem _).1 hs,fun x hx=>by rw [List.mem_singleton] at hx;subst hx;exact Nat.le_refl _⟩
  obtain ⟨p,hp⟩:=Option.isSome_iff_exists.1 hs
  obtain ⟨h1,h2,h3⟩:=h.back s p hp hl
  cases n with
  | zero=>omega
  | succ n =>
   obtain ⟨L,e1,e2,e3,e4⟩:=y8q h n p (by omega) h1
   refine ⟨s::L,by rw [List.length_cons,e1,h3],List.nodup_cons.2 ⟨fun hc=>by have:=e4 s hc;omega,e2⟩,fun x hx =>?_,fun x hx =>?_⟩
   rcases List.mem_cons.1 hx with rfl | hx
   exact (h.mem _).1 hs
   exact e3 x hx
   rcases List.mem_cons.1 hx with rfl | hx
   exact Nat.le_refl _
   have:=e4 x hx;omega
def PI (nx:Next) (o:From) (d:Bs→Nat) (n:Bs) (acc:List Bs) (s:Bs):Prop:=(zK o s).isSome=true∧acc.length+d s=d n∧y8n nx (s::acc.reverse)∧∃p,s::acc.reverse=p++[n]
section
variable {nx:Next} {l q acc:List Bs} {o:From} {d:Bs→Nat} {n s t:Bs}
theorem PI.start (h:(zK o n).isSome=true):PI nx o d n [] n:=⟨h,by simp,j7g _ _,[],rfl⟩
theorem PI.len (hb:Bfs nx l q.length o q d) (hs:(zK o n).isSome=true) (h:PI nx o d n acc s):acc.length+1≤kB nx l:=by
 obtain ⟨L,e1,e2,e3,_⟩:=y8q hb _ n (Nat.le_refl _) hs
 have h1:=dY e2 e3
 have h2:=z8n hb
 have:=h.2.1;omega
theorem PI.root (hb:Bfs nx l q.length o q d) (h0:zK o sE=none) (h:zK o s=some sE):s∈l:=by
 refine Decidable.byContradiction fun hl =>?_
 have:=(hb.back s sE h hl).1
 rw [h0] at this;cases this
theorem PI.fin (hb:Bfs nx l q.length o q d) (h0:zK o sE=none) (h:PI nx o d n acc s) (hs:zK o s=some sE):PathOk nx l n (acc++[s]).reverse:=by
 have hr:=PI.root hb h0 hs
 obtain ⟨h1,h2,h3,p,h4⟩:=h
 rw [List.reverse_append]
 refine ⟨p,h4,h3,fun x hx =>?_,fun k hk =>?_⟩
 simp at hx;subst hx;exact hr
 have hl:p.length=acc.length:=by have:=congrArg List.length h4;simp at this;omega
 have hd:=(j1y hb k n hk).2
 rw [(hb.root s hr).2] at h2;omega
theorem PI.step (hb:Bfs nx l q.length o q d) (h:PI nx o d n acc s) (hs:zK o s=some t) (ht:¬t=sE):PI nx o d n (acc++[s]) t∧d t < d s:=by
 obtain ⟨h1,h2,h3,p,h4⟩:=h
 have hl:s∉l:=fun hl=>ht (by have:=(hb.root s hl).1;rw [hs] at this;exact Option.some.inj this)
 obtain ⟨e1,e2,e3⟩:=hb.back s t hs hl
 refine ⟨⟨e1,by rw [List.length_append];simp;omega,?_,t::p,?_⟩,by omega⟩
 rw [List.reverse_append]
 intro i a b ha hb2
 cases i with
 | zero=>simp at ha hb2;subst ha;subst hb2;exact e2
 | succ i=>exact h3 i a b (by simpa using ha) (by simpa using hb2)
 rw [List.reverse_append];show t::s::acc.reverse=_;rw [h4];rfl
end
theorem q6v {Φ:Fz} {K:List Res} {w:World} {b:Addr} {g:Graph} {n:Bs} (rg:RGraph Φ b g) (hb:kB g.next (zO g.core)≤2000000000000) (hse:zK (yB g.next (zO g.core)) sE=none) (hz:∀p∈g.core.inputs,p.name.size≤1000) (hni:g.core.inputs.length≤1000000000) (hm:Mem Φ K w) :
  Calls prog 51 (List.toArray [.pointer (some b),.string n]) w (fun ee w'=>Out (y5a g.next (zO g.core) n) (fun _=>∃y:Value×List Bs,ee=.returned (.tuple (List.toArray [y.1,.bool true]))∧PathOk g.next (zO g.core) n y.2∧Mem Φ (.gs y.1 9 1 (strs y.2)::K) w') (fun _=>ee=.returned (.tuple (List.toArray [.slice none 0 0,.bool false]))∧Mem Φ K w')):=by
 obtain ⟨d1,nd2,fl3,pm4,nb5,nm6,hat7,rc8,rn9,rf10,ma11,mr12⟩:=id rg
 have rc8o:=rc8
 obtain ⟨p15,c16,p21,c22,p27,c28,p33,c34,rfl,h14,h20,h26,h32,hm17,hn18,hm23,hn24,hm29,hn30,hm35,hn36⟩:=RCore.fm rc8
 obtain ⟨p37,c38,rfl,hmx39,hn40⟩:=rn9.fm
 obtain ⟨p41,c42,rfl,hmx43,hn44⟩:=rf10.fm
 obtain ⟨q_,d_,hb_⟩:=q0r g.next (zO g.core)
 refine zN func51 ntmps51 fun Q hQ a he =>?_
 refine go fun a he =>?_
 refine wp_scope_straight ?_
 refine Reg [1,1,1,2,1,0,0,1] [] fun w hm a he =>?_
 refine qV call39 (fun y47 w hG48 hm a he =>?_) (c:=cF rg hz hni hm)
 refine d_e he rfl rfl rfl (kD he rfl rfl call67 (aJ (l:=(zO g.core)) rg (by omega) hm) (fun y49 w hG50 hm=>⟨zU (by kernel_rfl),fun a he =>?_⟩))
 refine go fun a he =>?_
 rcases hf53:yD ((yK (yB g.next (zO g.core)))) n with _ | vf54
 have hf53_:=congrArg (zG true (.string ⟨#[]⟩)) hf53
 refine Qq (fun a he =>?_) (o:=by exact fun he hs=>Ok.cast (zQ 0 runUnderlying70 runUnderlying9 zeroValue9 he hs rfl rfl rfl) (show zG true (.string ⟨#[]⟩) (yD ((yK (yB g.next (zO g.core)))) n)=.tuple (List.toArray [.string ⟨#[]⟩,.bool false]) from hf53_))
 refine vE ?_
 replace hm:=hm.dl [0]
 rw [y5a,show (zK (yB g.next (zO g.core)) n).isSome=false by rw [vC hf53];rfl];exact ⟨rfl,hm⟩
 obtain ⟨y57,hy58,rfl⟩:=vD hf53
 have hf53_:=congrArg (zG true (.string ⟨#[]⟩)) hf53
 refine Qq (fun a he =>?_) (o:=by exact fun he hs=>Ok.cast (zQ 0 runUnderlying70 runUnderlying9 zeroValue9 he hs rfl rfl rfl) (show zG true (.string ⟨#[]⟩) (yD ((yK (yB g.next (zO g.core)))) n)=.tuple (List.toArray [.string y57,.bool true]) from hf53_))
 have hs_:(zK (yB g.next (zO g.core)) n).isSome=true:=by rw [hy58];rfl
 refine go fun a he =>?_
 refine wp_label ?_
 refine go fun a he =>?_
 replace hm:=hm.nilRow 9 1
 replace hm:=hm.nf
 refine yG (he.ks [6]) hm (fun R mm a w=>∃(u:Value) (acc:List Bs) (s:Bs),mm=d_ s∧R Φ [(1,.string s),(9,u)] [(0,.gs (u) 9 1 (strs acc))] a w∧(PI g.next (yB g.next (zO g.core)) d_ n acc s)) (d_ n) ⟨.slice none 0 0,[],n,rfl,⟨he.pk,hm⟩,PI.start hs_⟩ ?_
 clear hm he
 rintro mm a w ⟨u,acc,s,hmu,⟨he,hm⟩,hI64⟩ L63 hL63
 replace hm:=hm.nf
 refine kW fun v66 w hm a he =>?_
 refine wL 1 vV (fun v67 w hm a he =>?_) (hb:=by have hl_:=PI.len hb_ hs_ hI64;simp only [yA,List.length_cons,List.length_nil];omega)
 replace hm:Mem Φ (.gs (v66) 9 1 [.string s]::.gs (v67) 9 1 (strs (acc++[s]))::.mp y49 (yK (yB g.next (zO g.core)))::K) w:=by rw [qK] at hm;exact hm
 refine go fun a he =>?_
 rcases hf70:yD ((yK (yB g.next (zO g.core)))) s with _ | vf71
 exact absurd hI64.1 (by rw [vC hf70];simp)
 obtain ⟨y72,hy73,rfl⟩:=vD hf70
 have hf70_:=congrArg (zG false (.string ⟨#[]⟩)) hf70
 refine Qq (fun a he =>?_) (o:=by exact fun he hs=>Ok.cast (zQ 2 runUnderlying70 runUnderlying9 zeroValue9 he hs rfl rfl rfl) (show zG false (.string ⟨#[]⟩) (yD ((yK (yB g.next (zO g.core)))) s)=.string y72 from hf70_))
 by_cases h74:y72=(⟨#[]⟩:ByteArray)
 replace hm:=hm.pl 1
 refine zT call85 (fun w hm a he =>?_) (c:=j0m (l:=(acc++[s])) (by simp) (by have hl_:=PI.len hb_ hs_ hI64;rw [List.length_append];simp only [List.length_cons,List.length_nil];omega) hm)
 replace hm:=hm.nf
 refine vE ?_
 replace hm:=hm.dl [2,1]
 rw [y5a,if_pos hs_];exact ⟨(_,_),rfl,PI.fin hb_ hse hI64 (hy73.trans (congrArg some h74)),hm⟩
 refine go fun a he =>?_
 rcases hf77:yD ((yK (yB g.next (zO g.core)))) s with _ | vf78
 exact absurd hI64.1 (by rw [vC hf77];simp)
 obtain ⟨y79,hy80,rfl⟩:=vD hf77
 have hf77_:=congrArg (zG false (.string ⟨#[]⟩)) hf77
 refine Qq (fun a he =>?_) (o:=by exact fun he hs=>Ok.cast (zQ 2 runUnderlying70 runUnderlying9 zeroValue9 he hs rfl rfl rfl) (show zG false (.string ⟨#[]⟩) (yD ((yK (yB g.next (zO g.core)))) s)=.string y79 from hf77_))
 have hne_:¬y79=sE:=fun e_=>h74 (by rw [show y72=y79 from Option.some.inj (hy73.symm.trans hy80)];exact e_)
 refine go fun a he =>?_
 replace hm:=hm.dl [0]
 refine hL63 (d_ y79) _ _ (by subst hmu;exact (PI.step hb_ hI64 hy80 hne_).2) ⟨(v67),((acc++[s])),(y79),rfl,⟨he.pk,hm⟩,?_⟩
 exact (PI.step hb_ hI64 hy80 hne_).1
end Go.Sw

namespace Go.Sw
open Go.Proofs.Tryz
open Go.Proofs
set_option maxRecDepth 20000
set_option maxHeartbeats 4000000
variable {Φ:Fz} {K:List Res} {w:World}
theorem mX {c:Core} {x:Unit} (h:z5p c=.ok x):zP c=0:=by
 unfold z5p at h;split at h
 assumption
 cases h
theorem mW {c:Core} {e:Int} (h:z5p c=.error e):¬zP c=0∧zP c=e:=by
 unfold z5p at h;split at h
 cases h
 cases h;exact ⟨by assumption,rfl⟩
theorem j4z (c:Core):(zY c).length≤(xI c).length:=cW _
theorem LOk.bound {c:Core} (L:LOk c) (l:List Bs):kB (yY (zY c)) l≤l.length+1000000000000:=by
 unfold kB;rw [j6n];have:=j4z c;have:=L.al;omega
theorem z4r (c:Core):(zO c).length=c.inputs.length:=by simp [zO]
theorem LOk.boundR {c:Core} (L:LOk c):kB (yY (zY c)) (zO c)≤1001000000000:=by
 have:=L.bound (zO c);rw [z4r] at this;have:=L.il;omega
theorem dA {c:Core}:∀r∈zO c,r∈zD c:=fun r hr=>by
 simp only [zD,zO] at *;exact List.mem_append_left _ (List.mem_append_left _ hr)
theorem LOk.se {c:Core} (L:LOk c):zK (yB (yY (zY c)) (zO c)) sE=none:=by
 cases h:zK (yB (yY (zY c)) (zO c)) sE with
 | none=>rfl
 | some x=>exact absurd (z2n L.gok dA ((wQ _ _ _).1 (by rw [h];rfl))) L.gok.ne
def cG (c:Core):List Bs:=jO (zD c) (yB (yY (zY c)) (zO c))
def nT (c:Core) (n:Bs):Except Int Unit:=if zP c=0 then (if n∈zD c then .ok () else .error 110) else .error (zP c)
theorem kL {c:Core} {n:Bs} (h0:zP c=0) (h:n∈zD c):nT c n=.ok ():=by rw [nT,if_pos h0,if_pos h]
theorem x1z {c:Core} {n:Bs} (h0:zP c=0) (h:¬n∈zD c):nT c n=.error 110:=by rw [nT,if_pos h0,if_neg h]
theorem j6f {c:Core} {n:Bs} (h0:¬zP c=0):nT c n=.error (zP c):=if_neg h0
theorem z2e {c:Core} {n:Bs} {x:Unit} (h:nT c n=.ok x):zP c=0∧n∈zD c:=by
 unfold nT at h;split at h
 split at h
 exact ⟨by assumption,by assumption⟩
 cases h
 cases h
theorem gW {c:Core} {n:Bs} {e:Int} (h:nT c n=.error e):¬e=0:=by
 unfold nT at h;split at h
 split at h
 cases h
 cases h;decide
 cases h;assumption
theorem z2f {d0:List Value} {c:Core} {n:Bs} (rpc:RCore Φ d0 c) (G:Glob Φ) (hL:zP c=0→LOk c) (hm:Mem Φ K w) :
  Calls prog 38 (List.toArray [.agg d0.toArray,.string n]) w (fun ee w'=>Out (nT c n) (fun _=>∃y:Fz×Addr,ee=.returned (.tuple (List.toArray [.pointer (some y.2),.int .i64 0]))∧(Φ.Le y.1∧RGraph y.1 y.2 (xX c))∧Mem y.1 K w') (fun e=>ee=.returned (.tuple (List.toArray [.pointer none,.int .i64 e]))∧Mem Φ K w')):=by
 have rpc0_:=rpc
 obtain ⟨p3,c4,p9,c10,p15,c16,p21,c22,rfl,h2,h8,h14,h20,hm5,hn6,hm11,hn12,hm17,hn18,hm23,hn24⟩:=RCore.fm rpc
 refine zN func38 ntmps38 fun Q hQ a he =>?_
 refine Bx fun b26 w hm a he =>?_
 refine go fun a he =>?_
 refine st he rfl rfl rfl (qA he rfl call41 (dR rpc0_ G hL hm) (fun q28 y29 w hq30 hG31 hm a he =>?_) (fun q28 w hq30 hm a he =>?_))
 obtain ⟨Ψg,bg⟩:=y29
 obtain ⟨leg,rg⟩:=hG31
 simp only at leg rg hm he
 have h0:=mX hq30
 have L_:=hL h0
 replace rpc0_:=RCore.mono _ _ _ _ leg rpc0_
 replace G:=G.mono leg
 replace hm:=hm.nf
 obtain ⟨d32,nd33,fl34,pm35,nb36,nm37,hat38,rc39,rn40,rf41,ma42,mr43⟩:=id rg
 have rc39o:=rc39
 obtain ⟨p46,c47,p52,c53,p58,c59,p64,c65,rfl,h45,h51,h57,h63,hm48,hn49,hm54,hn55,hm60,hn61,hm66,hn67⟩:=RCore.fm rc39
 obtain ⟨p68,c69,rfl,hmx70,hn71⟩:=rn40.fm
 obtain ⟨p72,c73,rfl,hmx74,hn75⟩:=rf41.fm
 refine Qq (fun a he =>?_) (o:=by exact fun he hs=>qF false he rfl rfl rfl)
 refine yH call48 (fun hB79 w hm a he =>?_) (fun hB79 w hm a he =>?_) (c:=cQ rn40 hm)
 refine vE ?_
 replace hm:=hm.dl [0]
 rw [kL h0 (of_decide_eq_true hB79)];exact ⟨(Ψg,bg),rfl,⟨leg,rg⟩,hm⟩
 refine vE ?_
 replace hm:=hm.dl [0]
 replace hm:=hm.le (leg)
 rw [x1z h0 (of_decide_eq_false hB79)];exact ⟨rfl,hm⟩
 obtain ⟨hz_,rfl⟩:=mW hq30
 refine vE ?_
 replace hm:=hm.dl [0]
 rw [j6f hz_];exact ⟨rfl,hm⟩
def hY (c:Core):Except Int (List Bs):=if zP c=0 then .ok (cG c) else .error (zP c)
theorem z4s {d0:List Value} {c:Core} (rpc:RCore Φ d0 c) (G:Glob Φ) (hL:zP c=0→LOk c) (hm:Mem Φ K w) :
  Calls prog 15 (List.toArray [.agg d0.toArray]) w (fun ee w'=>Out (hY c) (fun l=>∃y:Value,ee=.returned (.tuple (List.toArray [y,.int .i64 0]))∧True∧Mem Φ (.gs y 9 1 (strs l)::K) w') (fun e=>ee=.returned (.tuple (List.toArray [.slice none 0 0,.int .i64 e]))∧Mem Φ K w')):=by
 have rpc0_:=rpc
 obtain ⟨p3,c4,p9,c10,p15,c16,p21,c22,rfl,h2,h8,h14,h20,hm5,hn6,hm11,hn12,hm17,hn18,hm23,hn24⟩:=RCore.fm rpc
 refine zN func15 ntmps15 fun Q hQ a he =>?_
 refine Bx fun b26 w hm a he =>?_
 refine go fun a he =>?_
 refine st he rfl rfl rfl (qA he rfl call41 (dR rpc0_ G hL hm) (fun q28 y29 w hq30 hG31 hm a he =>?_) (fun q28 w hq30 hm a he =>?_))
 obtain ⟨Ψg,bg⟩:=y29
 obtain ⟨leg,rg⟩:=hG31
 simp only at leg rg hm he
 have h0:=mX hq30
 have L_:=hL h0
 replace rpc0_:=RCore.mono _ _ _ _ leg rpc0_
 replace G:=G.mono leg
 replace hm:=hm.nf
 obtain ⟨d32,nd33,fl34,pm35,nb36,nm37,hat38,rc39,rn40,rf41,ma42,mr43⟩:=id rg
 have rc39o:=rc39
 obtain ⟨p46,c47,p52,c53,p58,c59,p64,c65,rfl,h45,h51,h57,h63,hm48,hn49,hm54,hn55,hm60,hn61,hm66,hn67⟩:=RCore.fm rc39
 obtain ⟨p68,c69,rfl,hmx70,hn71⟩:=rn40.fm
 obtain ⟨p72,c73,rfl,hmx74,hn75⟩:=rf41.fm
 refine Qq (fun a he =>?_) (o:=by exact fun he hs=>qF false he rfl rfl rfl)
 refine Reg [1,1,1,1,2,1,0,0,0,1,1] [0] fun w hm a he =>?_
 refine qV call39 (fun y79 w hG80 hm a he =>?_) (c:=cF rg L_.tidy.inp L_.il hm)
 refine d_e he rfl rfl rfl (kD he rfl rfl call67 (aJ (l:=(zO (xX c).core)) rg (by have:=L_.boundR;exact Nat.le_trans this (by decide)) hm) (fun y81 w hG82 hm=>⟨zU (by kernel_rfl),fun a he =>?_⟩))
 refine qV call42 (fun y83 w hG84 hm a he =>?_) (c:=z4m (o:=(yB (xX c).next (zO (xX c).core))) rg L_.nl hm)
 refine vE ?_
 replace hm:=hm.le (leg)
 replace hm:=hm.dl [2,1]
 rw [hY,if_pos h0];exact ⟨_,rfl,trivial,hm⟩
 obtain ⟨hz_,rfl⟩:=mW hq30
 refine vE ?_
 replace hm:=hm.dl [0]
 rw [hY,if_neg hz_];exact ⟨rfl,hm⟩
def sK (c:Core):Except Int (List Bs):=if zP c=0 then .ok (zD c) else .error (zP c)
theorem z4n {d0:List Value} {c:Core} (rpc:RCore Φ d0 c) (G:Glob Φ) (hL:zP c=0→LOk c) (hm:Mem Φ K w) :
  Calls prog 12 (List.toArray [.agg d0.toArray]) w (fun ee w'=>Out (sK c) (fun l=>∃y:Value,ee=.returned (.tuple (List.toArray [y,.int .i64 0]))∧True∧Mem Φ (.gs y 9 1 (strs l)::K) w') (fun e=>ee=.returned (.tuple (List.toArray [.slice none 0 0,.int .i64 e]))∧Mem Φ K w')):=by
 have rpc0_:=rpc
 obtain ⟨p3,c4,p9,c10,p15,c16,p21,c22,rfl,h2,h8,h14,h20,hm5,hn6,hm11,hn12,hm17,hn18,hm23,hn24⟩:=RCore.fm rpc
 refine zN func12 ntmps12 fun Q hQ a he =>?_
 refine Bx fun b26 w hm a he =>?_
 refine zT call36 (fun w hm a he =>?_) (c:=z9i rpc0_ G hm)
 by_cases h30:(zP c)=0
 refine qV call37 (fun y32 w hG33 hm a he =>?_) (c:=xC rpc0_ G (hL h30).tidy (hL h30).nl hm)
 refine vE ?_
 replace hm:=hm.dl [1]
 rw [sK,if_pos h30];exact ⟨_,rfl,trivial,hm⟩
 refine vE ?_
 replace hm:=hm.dl [0]
 rw [sK,if_neg h30];exact ⟨rfl,hm⟩
theorem y9m {d0:List Value} {c:Core} (rpc:RCore Φ d0 c) (G:Glob Φ) (hL:zP c=0→LOk c) (hm:Mem Φ K w) :
  Calls prog 31 (List.toArray [.agg d0.toArray]) w (fun ee w'=>Out (z5p c) (fun _=>∃y:Fz×Value,ee=.returned (.tuple (List.toArray [y.2,.int .i64 0]))∧(Φ.Le y.1∧SliceOf RFlow y.1 2 y.2 (zY c))∧Mem y.1 K w') (fun e=>ee=.returned (.tuple (List.toArray [.slice none 0 0,.int .i64 e]))∧Mem Φ K w')):=by
 have rpc0_:=rpc
 obtain ⟨p3,c4,p9,c10,p15,c16,p21,c22,rfl,h2,h8,h14,h20,hm5,hn6,hm11,hn12,hm17,hn18,hm23,hn24⟩:=RCore.fm rpc
 refine zN func31 ntmps31 fun Q hQ a he =>?_
 refine Bx fun b26 w hm a he =>?_
 refine go fun a he =>?_
 refine st he rfl rfl rfl (qA he rfl call41 (dR rpc0_ G hL hm) (fun q28 y29 w hq30 hG31 hm a he =>?_) (fun q28 w hq30 hm a he =>?_))
 obtain ⟨Ψg,bg⟩:=y29
 obtain ⟨leg,rg⟩:=hG31
 simp only at leg rg hm he
 have h0:=mX hq30
 have L_:=hL h0
 replace rpc0_:=RCore.mono _ _ _ _ leg rpc0_
 replace G:=G.mono leg
 replace hm:=hm.nf
 obtain ⟨d32,nd33,fl34,pm35,nb36,nm37,hat38,rc39,rn40,rf41,ma42,mr43⟩:=id rg
 have rc39o:=rc39
 obtain ⟨p46,c47,p52,c53,p58,c59,p64,c65,rfl,h45,h51,h57,h63,hm48,hn49,hm54,hn55,hm60,hn61,hm66,hn67⟩:=RCore.fm rc39
 obtain ⟨p68,c69,rfl,hmx70,hn71⟩:=rn40.fm
 obtain ⟨p72,c73,rfl,hmx74,hn75⟩:=rf41.fm
 refine Qq (fun a he =>?_) (o:=by exact fun he hs=>qF false he rfl rfl rfl)
 refine vE ?_
 replace hm:=hm.dl [0]
 rw [y4l h0];exact ⟨(Ψg,_),rfl,⟨leg,rf41⟩,hm⟩
 obtain ⟨hz_,rfl⟩:=mW hq30
 refine vE ?_
 replace hm:=hm.dl [0]
 rw [z4j hz_];exact ⟨rfl,hm⟩
end Go.Sw

namespace Go.Sw
open Go.Proofs.Tryz
open Go.Proofs
set_option maxRecDepth 20000
set_option maxHeartbeats 4000000
def pZ (c:Core) (l:List Bs):Int:=if zP c=0 then (if jP (zD c) (zY c) (zO c) l then 0 else 111) else zP c
def pK (c:Core) (l:List Bs):Int:=if zP c=0 then (if jP (zD c) (zY c) (zO c) l then (if (yB (yY (zY c)) (zO c)).length=l.length then 0 else 112) else 111) else zP c
section
variable {c:Core} {l:List Bs}
theorem q6a {o:From} {n x:Bs} (h:zK o n=some x):(zK o n).isSome=true:=by rw [h];rfl
theorem q5z {o:From} {n:Bs} (h:zK o n=none):(zK o n).isSome=false:=by rw [h];rfl
theorem y8u (h0:zP c=0) (h:jP (zD c) (zY c) (zO c) l=false):pZ c l=111:=by rw [pZ,if_pos h0,h];rfl
theorem y8v (h0:zP c=0) (h:jP (zD c) (zY c) (zO c) l=true):pZ c l=0:=by rw [pZ,if_pos h0,h];rfl
theorem y9y (h0:zP c=0) (h:jP (zD c) (zY c) (zO c) l=false):pK c l=111:=by rw [pK,if_pos h0,h];rfl
theorem j5s (h0:zP c=0) (h:jP (zD c) (zY c) (zO c) l=true) (hl:(yK (yB (yY (zY c)) (zO c))).length=l.length):pK c l=0:=by rw [z5x] at hl;rw [pK,if_pos h0,h,if_pos rfl,if_pos hl]
theorem q9p (h0:zP c=0) (h:jP (zD c) (zY c) (zO c) l=true) (hl:¬(yK (yB (yY (zY c)) (zO c))).length=l.length):pK c l=112:=by rw [z5x] at hl;rw [pK,if_pos h0,h,if_pos rfl,if_neg hl]
end
theorem mU {Φ:Fz} {K:List Res} {w:World} {d0:List Value} {c:Core} {v:Value} {l:List Bs} (rpc:RCore Φ d0 c) (rl:SliceOf RStr Φ 1 v l) (G:Glob Φ) (hL:zP c=0→LOk c) (hm:Mem Φ K w) :
  Calls prog 16 (List.toArray [.agg d0.toArray,v]) w (fun ee w'=>ee=.returned (.int .i64 (pZ c l))∧Mem Φ K w'):=by
 have rpc0_:=rpc
 obtain ⟨p3,c4,p9,c10,p15,c16,p21,c22,rfl,h2,h8,h14,h20,hm5,hn6,hm11,hn12,hm17,hn18,hm23,hn24⟩:=RCore.fm rpc
 obtain ⟨p25,c26,rfl,hmx27,hn28⟩:=rl.fm
 refine zN func16 ntmps16 fun Q hQ a he =>?_
 refine Bx fun b30 w hm a he =>?_
 refine go fun a he =>?_
 refine st he rfl rfl rfl (qA he rfl call41 (dR rpc0_ G hL hm) (fun q32 y33 w hq34 hG35 hm a he =>?_) (fun q32 w hq34 hm a he =>?_))
 obtain ⟨Ψg,bg⟩:=y33
 obtain ⟨leg,rg⟩:=hG35
 simp only at leg rg hm he
 have h0:=mX hq34
 have L_:=hL h0
 replace rpc0_:=RCore.mono _ _ _ _ leg rpc0_
 replace G:=G.mono leg
 replace rl:=rl.up leg
 replace hm:=hm.nf
 obtain ⟨d36,nd37,fl38,pm39,nb40,nm41,hat42,rc43,rn44,rf45,ma46,mr47⟩:=id rg
 have rc43o:=rc43
 obtain ⟨p50,c51,p56,c57,p62,c63,p68,c69,rfl,h49,h55,h61,h67,hm52,hn53,hm58,hn59,hm64,hn65,hm70,hn71⟩:=RCore.fm rc43
 obtain ⟨p72,c73,rfl,hmx74,hn75⟩:=rn44.fm
 obtain ⟨p76,c77,rfl,hmx78,hn79⟩:=rf45.fm
 refine Qq (fun a he =>?_) (o:=by exact fun he hs=>qF false he rfl rfl rfl)
 refine yH call43 (fun hB83 w hm a he =>?_) (fun hB83 w hm a he =>?_) (c:=y5t rg rl L_.tidy.inp L_.il L_.nl hm)
 refine zF ?_
 replace hm:=hm.le (leg)
 replace hm:=hm.dl [0]
 rw [y8v h0 hB83];exact ⟨rfl,hm⟩
 refine zF ?_
 replace hm:=hm.le (leg)
 replace hm:=hm.dl [0]
 rw [y8u h0 hB83];exact ⟨rfl,hm⟩
 obtain ⟨hz_,rfl⟩:=mW hq34
 refine zF ?_
 replace hm:=hm.dl [0]
 rw [pZ,if_neg hz_];exact ⟨rfl,hm⟩
theorem tH {Φ:Fz} {K:List Res} {w:World} {d0:List Value} {c:Core} {v:Value} {l:List Bs} (rpc:RCore Φ d0 c) (rl:SliceOf RStr Φ 1 v l) (G:Glob Φ) (hL:zP c=0→LOk c) (hm:Mem Φ K w) :
  Calls prog 17 (List.toArray [.agg d0.toArray,v]) w (fun ee w'=>ee=.returned (.int .i64 (pK c l))∧Mem Φ K w'):=by
 have rpc0_:=rpc
 obtain ⟨p3,c4,p9,c10,p15,c16,p21,c22,rfl,h2,h8,h14,h20,hm5,hn6,hm11,hn12,hm17,hn18,hm23,hn24⟩:=RCore.fm rpc
 obtain ⟨p25,c26,rfl,hmx27,hn28⟩:=rl.fm
 refine zN func17 ntmps17 fun Q hQ a he =>?_
 refine Bx fun b30 w hm a he =>?_
 refine go fun a he =>?_
 refine st he rfl rfl rfl (qA he rfl call41 (dR rpc0_ G hL hm) (fun q32 y33 w hq34 hG35 hm a he =>?_) (fun q32 w hq34 hm a he =>?_))
 obtain ⟨Ψg,bg⟩:=y33
 obtain ⟨leg,rg⟩:=hG35
 simp only at leg rg hm he
 have h0:=mX hq34
 have L_:=hL h0
 replace rpc0_:=RCore.mono _ _ _ _ leg rpc0_
 replace G:=G.mono leg
 replace rl:=rl.up leg
 replace hm:=hm.nf
 obtain ⟨d36,nd37,fl38,pm39,nb40,nm41,hat42,rc43,rn44,rf45,ma46,mr47⟩:=id rg
 have rc43o:=rc43
 obtain ⟨p50,c51,p56,c57,p62,c63,p68,c69,rfl,h49,h55,h61,h67,hm52,hn53,hm58,hn59,hm64,hn65,hm70,hn71⟩:=RCore.fm rc43
 obtain ⟨p72,c73,rfl,hmx74,hn75⟩:=rn44.fm
 obtain ⟨p76,c77,rfl,hmx78,hn79⟩:=rf45.fm
 refine Qq (fun a he =>?_) (o:=by exact fun he hs=>qF false he rfl rfl rfl)
 refine yH call43 (fun hB83 w hm a he =>?_) (fun hB83 w hm a he =>?_) (c:=y5t rg rl L_.tidy.inp L_.il L_.nl hm)
 refine go fun a he =>?_
 refine qL [1,1,1,2,1,0,0,0,1,1,1,1] (.q 0 (.q 1 (.q 2 (.q 3 (.q 4 (.q 8 (.q 9 (.e 5 (.e 6 (.e 7 (.q 10 (.q 11 (.done))))))))))))) [0] he hm fun w hm =>?_
 refine qV call39 (fun y85 w hG86 hm a he =>?_) (c:=cF rg L_.tidy.inp L_.il hm)
 refine d_e he rfl rfl rfl (kD he rfl rfl call67 (aJ (l:=(zO (xX c).core)) rg (Nat.le_trans L_.boundR (by decide)) hm) (fun y87 w hG88 hm=>⟨zU (by kernel_rfl),fun a he =>?_⟩))
 refine d_e he rfl rfl rfl (aR (x4a 0 he hm.toSees rfl rfl runUnderlying70) ⟨fun _=>hm.sn (Fz.Le.refl _),fun a he =>?_⟩)
 by_cases h89:(yK (yB (xX c).next (zO (xX c).core))).length=l.length
 refine zF ?_
 replace hm:=hm.le (leg)
 replace hm:=hm.dl [1,0]
 rw [j5s h0 hB83 h89];exact ⟨rfl,hm⟩
 refine zF ?_
 replace hm:=hm.le (leg)
 replace hm:=hm.dl [1,0]
 rw [q9p h0 hB83 h89];exact ⟨rfl,hm⟩
 refine zF ?_
 replace hm:=hm.le (leg)
 replace hm:=hm.dl [0]
 rw [y9y h0 hB83];exact ⟨rfl,hm⟩
 obtain ⟨hz_,rfl⟩:=mW hq34
 refine zF ?_
 replace hm:=hm.dl [0]
 rw [pK,if_neg hz_];exact ⟨rfl,hm⟩
theorem z9h {Φ:Fz} {K:List Res} {w:World} {d0:List Value} {c:Core} {n:Bs} (rpc:RCore Φ d0 c) (G:Glob Φ) (hL:zP c=0→LOk c) (hm:Mem Φ K w) :
  Calls prog 13 (List.toArray [.agg d0.toArray,.string n]) w (fun ee w'=>Out (nT c n) (fun _=>∃_y:Unit,ee=.returned (.tuple (List.toArray [.bool (zK (yB (yY (zY c)) (zO c)) n).isSome,.int .i64 0]))∧True∧Mem Φ K w') (fun e=>ee=.returned (.tuple (List.toArray [.bool false,.int .i64 e]))∧Mem Φ K w')):=by
 have rpc0_:=rpc
 obtain ⟨p3,c4,p9,c10,p15,c16,p21,c22,rfl,h2,h8,h14,h20,hm5,hn6,hm11,hn12,hm17,hn18,hm23,hn24⟩:=RCore.fm rpc
 refine zN func13 ntmps13 fun Q hQ a he =>?_
 refine Bx fun b26 w hm a he =>?_
 refine go fun a he =>?_
 refine st he rfl rfl rfl (qA he rfl call38 (z2f rpc0_ G hL hm) (fun q28 y29 w hq30 hG31 hm a he =>?_) (fun q28 w hq30 hm a he =>?_))
 obtain ⟨Ψg,bg⟩:=y29
 obtain ⟨leg,rg⟩:=hG31
 simp only at leg rg hm he
 obtain ⟨h0,hn_⟩:=z2e hq30
 have L_:=hL h0
 replace rpc0_:=RCore.mono _ _ _ _ leg rpc0_
 replace G:=G.mono leg
 replace hm:=hm.nf
 obtain ⟨d32,nd33,fl34,pm35,nb36,nm37,hat38,rc39,rn40,rf41,ma42,mr43⟩:=id rg
 have rc39o:=rc39
 obtain ⟨p46,c47,p52,c53,p58,c59,p64,c65,rfl,h45,h51,h57,h63,hm48,hn49,hm54,hn55,hm60,hn61,hm66,hn67⟩:=RCore.fm rc39
 obtain ⟨p68,c69,rfl,hmx70,hn71⟩:=rn40.fm
 obtain ⟨p72,c73,rfl,hmx74,hn75⟩:=rf41.fm
 refine Qq (fun a he =>?_) (o:=by exact fun he hs=>qF false he rfl rfl rfl)
 refine go fun a he =>?_
 refine qL [1,1,1,2,1,0,0,1,0,1,1,1,1,1] (.q 0 (.q 1 (.q 2 (.q 3 (.q 4 (.q 7 (.e 5 (.e 6 (.e 8 (.q 9 (.q 10 (.q 11 (.q 12 (.q 13 (.done))))))))))))))) [0] he hm fun w hm =>?_
 refine qV call39 (fun y79 w hG80 hm a he =>?_) (c:=cF rg L_.tidy.inp L_.il hm)
 refine d_e he rfl rfl rfl (kD he rfl rfl call67 (aJ (l:=(zO (xX c).core)) rg (Nat.le_trans L_.boundR (by decide)) hm) (fun y81 w hG82 hm=>⟨zU (by kernel_rfl),fun a he =>?_⟩))
 rcases hf83:yD ((yK (yB (xX c).next (zO (xX c).core)))) n with _ | vf84
 have hf83_:=congrArg (zG true (.string ⟨#[]⟩)) hf83
 refine d_e he rfl rfl rfl (aR (Ok.cast (zQ 0 runUnderlying70 runUnderlying9 zeroValue9 he hm.toSees rfl rfl rfl) (show zG true (.string ⟨#[]⟩) (yD ((yK (yB (xX c).next (zO (xX c).core)))) n)=.tuple (List.toArray [.string ⟨#[]⟩,.bool false]) from hf83_)) ⟨fun _=>hm.sn (Fz.Le.refl _),fun a he =>?_⟩)
 refine vE ?_
 replace hm:=hm.le (leg)
 replace hm:=hm.dl [1,0]
 rw [kL h0 hn_,show (zK (yB (yY (zY c)) (zO c)) n).isSome=false from (q5z (vC hf83))];exact ⟨(),rfl,trivial,hm⟩
 obtain ⟨y86,hy87,rfl⟩:=vD hf83
 have hf83_:=congrArg (zG true (.string ⟨#[]⟩)) hf83
 refine d_e he rfl rfl rfl (aR (Ok.cast (zQ 0 runUnderlying70 runUnderlying9 zeroValue9 he hm.toSees rfl rfl rfl) (show zG true (.string ⟨#[]⟩) (yD ((yK (yB (xX c).next (zO (xX c).core)))) n)=.tuple (List.toArray [.string y86,.bool true]) from hf83_)) ⟨fun _=>hm.sn (Fz.Le.refl _),fun a he =>?_⟩)
 refine vE ?_
 replace hm:=hm.le (leg)
 replace hm:=hm.dl [1,0]
 rw [kL h0 hn_,show (zK (yB (yY (zY c)) (zO c)) n).isSome=true from (q6a hy87)];exact ⟨(),rfl,trivial,hm⟩
 have hz_:=gW hq30
 refine vE ?_
 replace hm:=hm.dl [0]
 rw [hq30];exact ⟨rfl,hm⟩
end Go.Sw

namespace Go.Sw
open Go.Proofs.Tryz
open Go.Proofs
set_option maxRecDepth 20000
set_option maxHeartbeats 4000000
def depP (c:Core) (n:Bs) (p:Param):Bool:=(zK (yB (yY (zY c)) [inN p.name]) n).isSome
def oE (c:Core) (n:Bs) (l:List Param):List Bs:=(l.filter (depP c n)).map (·.name)
def vW (c:Core) (n:Bs):List Bs:=oE c n c.inputs
theorem z0v {c:Core} {n:Bs} {l:List Param} {i:Nat} {x:Param} (h:l[i]? = some x) (hd:depP c n x=true):oE c n (l.drop i)=x.name::oE c n (l.drop (i+1)):=by
 rw [zA h,oE,List.filter_cons,if_pos hd];rfl
theorem j2h {c:Core} {n:Bs} {l:List Param} {i:Nat} {x:Param} (h:l[i]? = some x) (hd:depP c n x=false):oE c n (l.drop i)=oE c n (l.drop (i+1)):=by
 rw [zA h,oE,List.filter_cons,if_neg (by rw [hd];simp)];rfl
theorem j8l (c:Core) (n:Bs):(vW c n).length≤c.inputs.length:=by rw [vW,oE,List.length_map];exact List.length_filter_le _ _
def gJ (c:Core) (n:Bs):Except Int Unit:=match nT c n with
 | .error e=>.error e
 | .ok _=>if (zK (yB (yY (zY c)) (zO c)) n).isSome then .ok () else .error 3
theorem q6u {nx:Next} {rs:List Bs} {n:Bs} {x:Unit} (h:y5a nx rs n=.ok x):(zK (yB nx rs) n).isSome=true:=by
 unfold y5a at h;split at h
 assumption
 cases h
theorem y5b {nx:Next} {rs:List Bs} {n:Bs} {x:Unit} (h:y5a nx rs n=.error x):(zK (yB nx rs) n).isSome=false:=by
 unfold y5a at h;split at h
 cases h
 exact Bool.eq_false_iff.2 (by assumption)
theorem q8h {c:Core} {n:Bs} {e:Int} (h:nT c n=.error e):gJ c n=.error e:=by rw [gJ,h]
theorem z3f {c:Core} {n:Bs} (h0:zP c=0) (hn:n∈zD c) (h:(zK (yB (yY (zY c)) (zO c)) n).isSome=true):gJ c n=.ok ():=by simp only [gJ,kL h0 hn,h,if_true]
theorem tC {c:Core} {n:Bs} (h0:zP c=0) (hn:n∈zD c) (h:(zK (yB (yY (zY c)) (zO c)) n).isSome=false):gJ c n=.error 3:=by simp only [gJ,kL h0 hn,h];rfl
theorem z5i {Φ:Fz} {K:List Res} {w:World} {d0:List Value} {c:Core} {n:Bs} (rpc:RCore Φ d0 c) (G:Glob Φ) (hL:zP c=0→LOk c) (hm:Mem Φ K w) :
  Calls prog 14 (List.toArray [.agg d0.toArray,.string n]) w (fun ee w'=>Out (nT c n) (fun _=>∃y:Value,ee=.returned (.tuple (List.toArray [y,.int .i64 0]))∧True∧Mem Φ (.gs y 9 1 (strs (vW c n))::K) w') (fun e=>ee=.returned (.tuple (List.toArray [.slice none 0 0,.int .i64 e]))∧Mem Φ K w')):=by
 have rpc0_:=rpc
 obtain ⟨p3,c4,p9,c10,p15,c16,p21,c22,rfl,h2,h8,h14,h20,hm5,hn6,hm11,hn12,hm17,hn18,hm23,hn24⟩:=RCore.fm rpc
 refine zN func14 ntmps14 fun Q hQ a he =>?_
 refine Bx fun b26 w hm a he =>?_
 refine go fun a he =>?_
 refine st he rfl rfl rfl (qA he rfl call38 (z2f rpc0_ G hL hm) (fun q28 y29 w hq30 hG31 hm a he =>?_) (fun q28 w hq30 hm a he =>?_))
 obtain ⟨Ψg,bg⟩:=y29
 obtain ⟨leg,rg⟩:=hG31
 simp only at leg rg hm he
 obtain ⟨h0,hn_⟩:=z2e hq30
 have L_:=hL h0
 replace rpc0_:=RCore.mono _ _ _ _ leg rpc0_
 replace G:=G.mono leg
 replace hm:=hm.nf
 obtain ⟨d32,nd33,fl34,pm35,nb36,nm37,hat38,rc39,rn40,rf41,ma42,mr43⟩:=id rg
 have rc39o:=rc39
 obtain ⟨p46,c47,p52,c53,p58,c59,p64,c65,rfl,h45,h51,h57,h63,hm48,hn49,hm54,hn55,hm60,hn61,hm66,hn67⟩:=RCore.fm rc39
 obtain ⟨p68,c69,rfl,hmx70,hn71⟩:=rn40.fm
 obtain ⟨p72,c73,rfl,hmx74,hn75⟩:=rf41.fm
 refine Qq (fun a he =>?_) (o:=by exact fun he hs=>qF false he rfl rfl rfl)
 refine go fun a he =>?_
 replace hm:=hm.nilRow 9 1
 replace hm:=hm.nf
 refine go fun a he =>?_
 refine yG (he.ks [1,6,26,27]) hm (fun R mm a w=>∃(i:Nat) (u:Value) (acc:List Bs),mm=c.inputs.length - i∧R Ψg [(8,u),(28,.int .i64 ((i:Nat):Int))] [(0,.gs (u) 9 1 (strs acc))] a w∧(vW c n=acc++oE c n (c.inputs.drop i))) (c.inputs.length - 0) ⟨0,.slice none 0 0,[],rfl,⟨he.pk,hm⟩,rfl⟩ ?_
 clear hm he
 rintro mm a w ⟨i,u,acc,hmu,⟨he,hm⟩,hI82⟩ L81 hL81
 replace hm:=hm.nf
 by_cases h84:i < c.inputs.length
 refine go fun a he =>?_
 obtain ⟨q88,rfl,x89,hx90,cs91,hl92,ha93,hr94⟩:=h51.el hn55 h84
 obtain rfl:=id hr94
 refine Alc fun b95 w hm a he =>?_
 refine Sto 0 fun w hm a he =>?_
 refine go fun a he =>?_
 refine qL [1,1,1,2,1,2,1,0,0,0,1,0,1,1,1,1,1] (.q 0 (.q 1 (.q 2 (.q 3 (.q 4 (.q 5 (.q 6 (.q 10 (.e 7 (.e 8 (.e 9 (.e 11 (.q 12 (.q 13 (.q 14 (.q 15 (.q 16 (.done)))))))))))))))))) [0,1,2] he hm fun w hm =>?_
 have hz1_:=L_.tidy.inp _ (List.mem_of_getElem? hx90)
 refine qH fun a he =>?_
 refine zT call40 (fun w hm a he =>?_) (c:=y0j (by omega) hm)
 refine kW fun v97 w hm a he =>?_
 refine d_e he rfl rfl rfl (kD he rfl rfl call67 (aJ (l:=[(inN x89.name)]) rg (Nat.le_trans (L_.bound _) (by simp)) hm) (fun y98 w hG99 hm=>⟨fun _=>hm.sn (Fz.Le.refl _),fun a he =>?_⟩))
 rcases hf100:yD ((yK (yB (xX c).next [(inN x89.name)]))) n with _ | vf101
 have hf100_:=congrArg (zG true (.string ⟨#[]⟩)) hf100
 refine d_e he rfl rfl rfl (aR (Ok.cast (zQ 0 runUnderlying70 runUnderlying9 zeroValue9 he hm.toSees rfl rfl rfl) (show zG true (.string ⟨#[]⟩) (yD ((yK (yB (xX c).next [(inN x89.name)]))) n)=.tuple (List.toArray [.string ⟨#[]⟩,.bool false]) from hf100_)) ⟨fun _=>hm.sn (Fz.Le.refl _),fun a he =>?_⟩)
 have hd_:depP c n x89=false:=(q5z (vC hf100))
 refine go fun a he =>?_
 replace hm:=hm.dl [1,0]
 refine hL81 _ _ _ (by subst hmu;omega) ⟨(i+1),(u),(acc),rfl,⟨he.pk,hm⟩,?_⟩
 rw [hI82,j2h (l:=c.inputs) hx90 hd_]
 obtain ⟨y103,hy104,rfl⟩:=vD hf100
 have hf100_:=congrArg (zG true (.string ⟨#[]⟩)) hf100
 refine d_e he rfl rfl rfl (aR (Ok.cast (zQ 0 runUnderlying70 runUnderlying9 zeroValue9 he hm.toSees rfl rfl rfl) (show zG true (.string ⟨#[]⟩) (yD ((yK (yB (xX c).next [(inN x89.name)]))) n)=.tuple (List.toArray [.string y103,.bool true]) from hf100_)) ⟨fun _=>hm.sn (Fz.Le.refl _),fun a he =>?_⟩)
 have hd_:depP c n x89=true:=(q6a hy104)
 refine kW fun v106 w hm a he =>?_
 refine wL 3 vV (fun v107 w hm a he =>?_) (hb:=by have hq_:=congrArg List.length hI82;rw [z0v (l:=c.inputs) hx90 hd_] at hq_;have hz_:=j8l c n;have hl_:=L_.il;simp only [List.length_append,yA,List.length_cons,List.length_nil] at hq_ ⊢;omega)
 replace hm:Mem Ψg (.gs (v106) 9 1 [.string x89.name]::.mp y98 (yK (yB (xX c).next [(inN x89.name)]))::.blk b95 (ob [.string x89.name,.string x89.type] 36)::.gs (v107) 9 1 (strs (acc++[x89.name]))::.blk b26 (ob [.slice p3 c.datas.length c4,.slice p9 c.inputs.length c10,.slice p15 c.funs.length c16,.slice p21 c.outputs.length c22] 27)::K) w:=by rw [qK] at hm;exact hm
 refine go fun a he =>?_
 replace hm:=hm.dl [2,1,0]
 refine hL81 _ _ _ (by subst hmu;omega) ⟨(i+1),(v107),((acc++[x89.name])),rfl,⟨he.pk,hm⟩,?_⟩
 rw [hI82,z0v (l:=c.inputs) hx90 hd_];simp
 refine vE ?_
 replace hm:=hm.le (leg)
 replace hm:=hm.dl [1]
 have h_:=hI82
 rw [zH h84,oE,List.filter_nil,List.map_nil,List.append_nil] at h_
 rw [kL h0 hn_,h_];exact ⟨_,rfl,trivial,hm⟩
 have hz_:=gW hq30
 refine vE ?_
 replace hm:=hm.dl [0]
 rw [hq30];exact ⟨rfl,hm⟩
theorem z3g {Φ:Fz} {K:List Res} {w:World} {d0:List Value} {c:Core} {n:Bs} (rpc:RCore Φ d0 c) (G:Glob Φ) (hL:zP c=0→LOk c) (hm:Mem Φ K w) :
  Calls prog 26 (List.toArray [.agg d0.toArray,.string n]) w (fun ee w'=>Out (gJ c n) (fun _=>∃y:Value×List Bs,ee=.returned (.tuple (List.toArray [y.1,.int .i64 0]))∧PathOk (yY (zY c)) (zO c) n y.2∧Mem Φ (.gs y.1 9 1 (strs y.2)::K) w') (fun e=>ee=.returned (.tuple (List.toArray [.slice none 0 0,.int .i64 e]))∧Mem Φ K w')):=by
 have rpc0_:=rpc
 obtain ⟨p3,c4,p9,c10,p15,c16,p21,c22,rfl,h2,h8,h14,h20,hm5,hn6,hm11,hn12,hm17,hn18,hm23,hn24⟩:=RCore.fm rpc
 refine zN func26 ntmps26 fun Q hQ a he =>?_
 refine Bx fun b26 w hm a he =>?_
 refine go fun a he =>?_
 refine st he rfl rfl rfl (qA he rfl call38 (z2f rpc0_ G hL hm) (fun q28 y29 w hq30 hG31 hm a he =>?_) (fun q28 w hq30 hm a he =>?_))
 obtain ⟨Ψg,bg⟩:=y29
 obtain ⟨leg,rg⟩:=hG31
 simp only at leg rg hm he
 obtain ⟨h0,hn_⟩:=z2e hq30
 have L_:=hL h0
 replace rpc0_:=RCore.mono _ _ _ _ leg rpc0_
 replace G:=G.mono leg
 replace hm:=hm.nf
 obtain ⟨d32,nd33,fl34,pm35,nb36,nm37,hat38,rc39,rn40,rf41,ma42,mr43⟩:=id rg
 have rc39o:=rc39
 obtain ⟨p46,c47,p52,c53,p58,c59,p64,c65,rfl,h45,h51,h57,h63,hm48,hn49,hm54,hn55,hm60,hn61,hm66,hn67⟩:=RCore.fm rc39
 obtain ⟨p68,c69,rfl,hmx70,hn71⟩:=rn40.fm
 obtain ⟨p72,c73,rfl,hmx74,hn75⟩:=rf41.fm
 refine Qq (fun a he =>?_) (o:=by exact fun he hs=>qF false he rfl rfl rfl)
 refine go fun a he =>?_
 refine st he rfl rfl rfl (qA he rfl call51 (q6v rg (Nat.le_trans L_.boundR (by decide)) L_.se L_.tidy.inp L_.il hm) (fun q79 y80 w hq81 hG82 hm a he =>?_) (fun q79 w hq81 hm a he =>?_))
 obtain ⟨pv,pl⟩:=y80
 have hpo_:=hG82
 simp only at hpo_ hm he
 have hre_:=q6u hq81
 replace hm:=hm.nf
 refine vE ?_
 replace hm:=hm.le (leg)
 replace hm:=hm.dl [1]
 rw [z3f h0 hn_ hre_];exact ⟨(pv,pl),rfl,hpo_,hm⟩
 have hre_:=y5b hq81
 refine vE ?_
 replace hm:=hm.le (leg)
 replace hm:=hm.dl [0]
 rw [tC h0 hn_ hre_];exact ⟨rfl,hm⟩
 have hz_:=gW hq30
 refine vE ?_
 replace hm:=hm.dl [0]
 rw [q8h hq30];exact ⟨rfl,hm⟩
end Go.Sw
