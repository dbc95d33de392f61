import Derived.Test.YtgkhcfjooiekkaaGreatDoorProg
import Derived.Laws.StructEq
import Derived.Test.YtgkhcfjooiekkaaGreatDoorX01
import Derived.Test.YtgkhcfjooiekkaaGreatDoorX03
import Derived.Test.YtgkhcfjooiekkaaGreatDoorX04
import Derived.Test.YtgkhcfjooiekkaaGreatDoorX06
import Derived.Test.YtgkhcfjooiekkaaGreatDoorX07
import Derived.Test.YtgkhcfjooiekkaaGreatDoorX08
import Derived.Test.YtgkhcfjooiekkaaGreatDoorX10
import Derived.Test.YtgkhcfjooiekkaaGreatDoorX12
import Derived.Test.YtgkhcfjooiekkaaGreatDoorX13
set_option linter.unusedVariables false
set_option linter.unusedSimpArgs false
namespace Go.Sw
open Go.Proofs
set_option maxRecDepth 20000
set_option maxHeartbeats 4000000
theorem read_rest {Φ:Fz} {K:List Res} {w:World} {a:Act} {D:List Deferred} {Q:Exit→Act→World→Prop} {rs:Value} {ws:List Bs} {c0 wd rp r:Nat} (G:Glob Φ) (hE:ExprOk ws 250) (rl:SliceOf RStr Φ 1 rs ws) (hws:ws.length≤1000000)
  (hR:∀{Ψ:Fz} {a:Act} {w:World} {C:Core} {u0 u1 u2 u3:Value},z1x ws (ws.length+1) ⟨[],[],[],[]⟩ 0=.ok C→Φ.Le Ψ→SliceOf RData Ψ 2 u0 C.datas→SliceOf RParam Ψ 2 u1 C.inputs→SliceOf RFun Ψ 8 u2 C.funs→EnvR 96 [(3,.pointer (some ⟨wd,0,none⟩)),(2,.pointer (some ⟨c0,0,none⟩))] D a→Mem Ψ (.blk c0 (ob [u0,u1,u2,u3] 27)::.blk wd (ob [.int .i64 ((0:Nat):Int)] 3)::.gs u3 9 1 (strs C.outputs)::K) w→Q .ret a w)
  (hP:∀{Ψ:Fz} {a:Act} {w:World} {n:Nat} {u0 u1 u2 u3 x:Value},z1x ws (ws.length+1) ⟨[],[],[],[]⟩ 0=.error n→Φ.Le Ψ→EnvR 96 [(3,.pointer (some ⟨wd,0,none⟩)),(2,.pointer (some ⟨c0,0,none⟩))] D a→Mem Ψ (.blk c0 (ob [u0,u1,u2,u3] 27)::.blk wd (ob [x] 3)::K) w→Q (.panic (z9i n)) a w)
  (he:EnvR 96 [(2,.pointer (some ⟨c0,0,none⟩)),(3,.pointer (some ⟨wd,0,none⟩)),(4,.pointer (some ⟨rp,0,none⟩))] D a) (hm:Mem Φ (.blk r (ob [rs,.int .i64 ((0:Nat):Int)] 208)::.blk rp (ob [.pointer (some ⟨r,0,none⟩)] 206)::.blk c0 (ob [.slice none 0 0,.slice none 0 0,.slice none 0 0,.slice none 0 0] 27)::.blk wd (ob [.int .i64 ((0:Nat):Int)] 3)::K) w) :
  (seqR (seqR (seqR (seqR (Tryz.f74.body.getD .skip))))).wp Tryz.prog Q a w:=by
 obtain ⟨pw,cw,rfl,hmw,hnw⟩:=rl.fm
 change (Code.seq _ _).wp _ _ _ _
 refine go he hm fun a he =>?_
 replace hm:=hm.nilRow 133 2
 replace hm:=hm.nf
 replace hm:=hm.nilRow 72 2
 replace hm:=hm.nf
 replace hm:=hm.nilRow 68 8
 replace hm:=hm.nf
 replace hm:=hm.nilRow 9 1
 replace hm:=hm.nf
 refine z1l (he.ks [2,3,4]) hm (fun R mm a w=>∃(Ψ2:Fz) (j:Nat) (f:Nat) (u0:Value) (u1:Value) (u2:Value) (u3:Value) (d0:List Value) (d1:List Value) (d2:List Value) (C:Core),mm=ws.length - j∧R Ψ2 [] [(0,.gs (u3) 9 1 (strs C.outputs)),(1,.gs (u2) 68 8 d2),(2,.gs (u1) 72 2 d1),(3,.gs (u0) 133 2 d0),(4,.blk r (ob [.slice pw ws.length cw,.int .i64 ((j:Nat):Int)] 208)),(6,.blk c0 (ob [u0,u1,u2,u3] 27))] a w∧(Φ.Le Ψ2∧(Chunks (RData Ψ2) 2 d0 C.datas∧Chunks (RParam Ψ2) 2 d1 C.inputs∧Chunks (RFun Ψ2) 8 d2 C.funs∧(C.datas.length≤j∧C.inputs.length≤j∧C.funs.length≤j∧C.outputs.length≤j)∧j≤ws.length∧ws.length+1≤j+f∧z1x ws (ws.length+1) ⟨[],[],[],[]⟩ 0=z1x ws f C j))) (ws.length - 0) ⟨Φ,0,ws.length+1,.slice none 0 0,.slice none 0 0,.slice none 0 0,.slice none 0 0,[],[],[],⟨[],[],[],[]⟩,rfl,⟨he.pk,hm⟩,⟨Fz.Le.refl _,⟨rfl,rfl,rfl,⟨Nat.le_refl _,Nat.le_refl _,Nat.le_refl _,Nat.le_refl _⟩,Nat.zero_le _,by omega,rfl⟩⟩⟩ ?_
 clear hm he
 rintro mm a w ⟨Ψ2,j,f,u0,u1,u2,u3,d0,d1,d2,C,hmu,⟨he,hm⟩,hI5⟩ L4 hL4
 replace hm:=hm.nf
 obtain ⟨le3,hI5⟩:=hI5
 replace rl:=rl.up le3
 replace G:=G.mono le3
 obtain ⟨hch0,hch1,hch2,hln_,hj,hf_,hI_⟩:=hI5
 refine Reg [2,1,1,2,2,1,1,2,1,1] [0,1,2,3,4,5,6,7] he hm fun w hm a he =>?_
 refine go he hm fun a he =>?_
 by_cases h8:j < ws.length
 refine Sto 4 he hm fun w hm a he =>?_
 refine Reg [2,1,1,2,2,1,1,2,1,1,2] [0,1,2,3,4,5,6,7] he hm fun w hm a he =>?_
 refine Qq he hm (fun a he =>?_) (o:=by exact fun _ _ _ he hs=>z9m ((j:Nat):Int) he rfl rfl (by rw [z1m (by omega)];omega))
 obtain ⟨q11,rfl,x12,hx13,cs14,hl15,ha16,hr17⟩:=rl.el hnw h8
 obtain rfl:cs14=[.string x12]:=hr17
 refine go he hm fun a he =>?_
 by_cases h19:x12=(⟨#[100,97,116,97]⟩:ByteArray)
 refine go he hm fun a he =>?_
 refine z9z (E0:=[(3,.pointer (some ⟨wd,0,none⟩)),(2,.pointer (some ⟨c0,0,none⟩))]) [1,2,2,0,0,0,1,0] (.q 0 (.q 1 (.q 2 (.e 3 (.e 4 (.e 5 (.q 6 (.e 7 (.done))))))))) [.gs (u3) 9 1 (strs C.outputs),.gs (u2) 68 8 d2,.gs (u1) 72 2 d1,.blk rp (ob [.pointer (some ⟨r,0,none⟩)] 206),.blk c0 (ob [u0,u1,u2,u3] 27),.blk wd (ob [.int .i64 ((0:Nat):Int)] 3)] (he.pk) hm mixed (by kernel_rfl) (by simp) (by kernel_rfl) fun w hm =>?_
 refine go he hm fun a he =>?_
 replace hm:=hm.pl 4
 refine d_e he rfl rfl rfl (eff_callX he rfl Tryz.call126 (rdata_ok G (i:=(j+1)) rl hws (by omega) hm) (fun q20 y21 w hq22 hG23 hm=>⟨fun _=>hm.sn ((Fz.Le.refl _).trans (hG23.1)),fun a he =>?_⟩) (fun q20 w hq22 hm=>fun a he =>?_))
 obtain ⟨Ψ24,d25⟩:=y21
 obtain ⟨le26,hr27⟩:=hG23
 simp only at le26 hr27 hm he
 have hgo28:=data_le hq22
 replace rl:=rl.up le26
 replace G:=G.mono le26
 replace hch0:=hch0.mono fun _ _ h=>RData.mono _ _ _ _ le26 h
 replace hch1:=hch1.mono fun _ _ h=>RParam.mono _ _ _ _ le26 h
 replace hch2:=hch2.mono fun _ _ h=>RFun.mono _ _ _ _ le26 h
 replace hm:=hm.nf
 obtain ⟨s29,rfl,h30⟩:=id hr27
 obtain ⟨p31,c32,rfl,hm33,hn34⟩:=h30.fm
 refine BldS he hm fun v35 w hm a he =>?_
 refine App_ 5 rt_22 he hm (fun v36 w hm a he =>?_) (hb:=by have h_:=hch0.length;rw [h_];simp only [List.length_cons,List.length_nil];omega)
 refine Sto 7 he hm fun w hm a he =>?_
 refine go he hm fun a he =>?_
 replace hm:=hm.ar [0] [7,7,7,3,7,7,7,7]
 refine hL4 _ _ _ (by subst hmu;omega) ⟨(Ψ24),(q20.2),(f - 1),(v36),(u1),(u2),(u3),((d0++[.string q20.1.name,.slice p31 q20.1.cons.length c32])),(d1),(d2),({ C with datas:=C.datas++[q20.1] }),rfl,⟨he.pk,by exact hm⟩,?_⟩
 refine ⟨(le3).trans le26,?_⟩
 exact ⟨(hch0.snoc (k:=2) (x:=q20.1) rfl hr27),hch1,hch2,⟨by show (C.datas++[q20.1]).length≤_;simp only [List.length_append,List.length_cons,List.length_nil];omega,by show C.inputs.length≤_;omega,by show C.funs.length≤_;omega,by show C.outputs.length≤_;omega⟩,by omega,by omega,hI_.trans (decls_data h8 (by omega) ((z2s hx13).trans h19) hq22)⟩
 replace hm:=hm.dl [4,3,2,1,0]
 exact hP (hI_.trans (decls_dataE h8 (by omega) ((z2s hx13).trans h19) hq22)) (le3) (he.pk) hm
 refine go he hm fun a he =>?_
 by_cases h38:x12=(⟨#[105,110,112,117,116]⟩:ByteArray)
 refine go he hm fun a he =>?_
 refine z9z (E0:=[(3,.pointer (some ⟨wd,0,none⟩)),(2,.pointer (some ⟨c0,0,none⟩))]) [1,2,2,0,0,0,1,0] (.q 0 (.q 1 (.q 2 (.e 3 (.e 4 (.e 5 (.q 6 (.e 7 (.done))))))))) [.gs (u3) 9 1 (strs C.outputs),.gs (u2) 68 8 d2,.gs (u0) 133 2 d0,.blk rp (ob [.pointer (some ⟨r,0,none⟩)] 206),.blk c0 (ob [u0,u1,u2,u3] 27),.blk wd (ob [.int .i64 ((0:Nat):Int)] 3)] (he.pk) hm mixed (by kernel_rfl) (by simp) (by kernel_rfl) fun w hm =>?_
 refine go he hm fun a he =>?_
 replace hm:=hm.pl 4
 refine d_e he rfl rfl rfl (eff_callE he rfl Tryz.call127 (rparam_ok G (i:=(j+1)) rl hws (by omega) hm) (fun q39 w hq40 hm=>⟨fun _=>hm.sn (Fz.Le.refl _),fun a he =>?_⟩) (fun q39 w hq40 hm=>fun a he =>?_))
 have hleq39:=param_le hq40
 refine BldS he hm fun v41 w hm a he =>?_
 refine App_ 4 rt_23 he hm (fun v42 w hm a he =>?_) (hb:=by have h_:=hch1.length;rw [h_];simp only [List.length_cons,List.length_nil];omega)
 refine Sto 7 he hm fun w hm a he =>?_
 refine go he hm fun a he =>?_
 replace hm:=hm.ar [0] [7,7,7,3,7,7,7,7]
 refine hL4 _ _ _ (by subst hmu;omega) ⟨(Ψ2),(q39.2),(f - 1),(u0),(v42),(u2),(u3),(d0),((d1++[.string q39.1.name,.string q39.1.type])),(d2),({ C with inputs:=C.inputs++[q39.1] }),rfl,⟨he.pk,by exact hm⟩,?_⟩
 refine ⟨le3,?_⟩
 exact ⟨hch0,(hch1.snoc (k:=2) (x:=q39.1) rfl rfl),hch2,⟨by show C.datas.length≤_;omega,by show (C.inputs++[q39.1]).length≤_;simp only [List.length_append,List.length_cons,List.length_nil];omega,by show C.funs.length≤_;omega,by show C.outputs.length≤_;omega⟩,by omega,by omega,hI_.trans (decls_input h8 (by omega) (fun h_=>h19 ((z2s hx13).symm.trans h_)) ((z2s hx13).trans h38) hq40)⟩
 replace hm:=hm.dl [4,3,2,1,0]
 exact hP (hI_.trans (decls_inputE h8 (by omega) (fun h_=>h19 ((z2s hx13).symm.trans h_)) ((z2s hx13).trans h38) hq40)) (le3) (he.pk) hm
 refine go he hm fun a he =>?_
 by_cases h44:x12=(⟨#[102,117,110]⟩:ByteArray)
 refine go he hm fun a he =>?_
 refine z9z (E0:=[(3,.pointer (some ⟨wd,0,none⟩)),(2,.pointer (some ⟨c0,0,none⟩))]) [1,2,2,0,0,0,1,0] (.q 0 (.q 1 (.q 2 (.e 3 (.e 4 (.e 5 (.q 6 (.e 7 (.done))))))))) [.gs (u3) 9 1 (strs C.outputs),.gs (u1) 72 2 d1,.gs (u0) 133 2 d0,.blk rp (ob [.pointer (some ⟨r,0,none⟩)] 206),.blk c0 (ob [u0,u1,u2,u3] 27),.blk wd (ob [.int .i64 ((0:Nat):Int)] 3)] (he.pk) hm mixed (by kernel_rfl) (by simp) (by kernel_rfl) fun w hm =>?_
 refine go he hm fun a he =>?_
 replace hm:=hm.pl 4
 refine d_e he rfl rfl rfl (eff_callX he rfl Tryz.call128 (rfun_ok hE G (i:=(j+1)) rl hws (by omega) hm) (fun q45 y46 w hq47 hG48 hm=>⟨fun _=>hm.sn ((Fz.Le.refl _).trans (hG48.1)),fun a he =>?_⟩) (fun q45 w hq47 hm=>fun a he =>?_))
 obtain ⟨Ψ49,d50⟩:=y46
 obtain ⟨le51,hr52⟩:=hG48
 simp only at le51 hr52 hm he
 have hgo53:=fun_le hq47
 replace rl:=rl.up le51
 replace G:=G.mono le51
 replace hch0:=hch0.mono fun _ _ h=>RData.mono _ _ _ _ le51 h
 replace hch1:=hch1.mono fun _ _ h=>RParam.mono _ _ _ _ le51 h
 replace hch2:=hch2.mono fun _ _ h=>RFun.mono _ _ _ _ le51 h
 replace hm:=hm.nf
 obtain ⟨s54,b60,rfl,h55,h61⟩:=id hr52
 obtain ⟨p56,c57,rfl,hm58,hn59⟩:=h55.fm
 obtain ⟨p64,c65,p70,c71,rfl,hi74,h63,h69,hm66,hn67,hm72,hn73⟩:=REx.fm h61
 refine BldS he hm fun v75 w hm a he =>?_
 refine App_ 3 rt_24 he hm (fun v76 w hm a he =>?_) (hb:=by have h_:=hch2.length;rw [h_];simp only [List.length_cons,List.length_nil];omega)
 refine Sto 7 he hm fun w hm a he =>?_
 refine go he hm fun a he =>?_
 replace hm:=hm.ar [0] [7,7,7,3,7,7,7,7]
 refine hL4 _ _ _ (by subst hmu;omega) ⟨(Ψ49),(q45.2),(f - 1),(u0),(u1),(v76),(u3),(d0),(d1),((d2++[.string q45.1.name,.slice p56 q45.1.params.length c57,.string q45.1.result,.int .i64 (q45.1.body.kind),.int .i64 (q45.1.body.num),.string q45.1.body.name,.slice p64 q45.1.body.args.length c65,.slice p70 q45.1.body.arms.length c71])),({ C with funs:=C.funs++[q45.1] }),rfl,⟨he.pk,by exact hm⟩,?_⟩
 refine ⟨(le3).trans le51,?_⟩
 exact ⟨hch0,hch1,(hch2.snoc (k:=8) (x:=q45.1) rfl hr52),⟨by show C.datas.length≤_;omega,by show C.inputs.length≤_;omega,by show (C.funs++[q45.1]).length≤_;simp only [List.length_append,List.length_cons,List.length_nil];omega,by show C.outputs.length≤_;omega⟩,by omega,by omega,hI_.trans (decls_fun h8 (by omega) (fun h_=>h19 ((z2s hx13).symm.trans h_)) (fun h_=>h38 ((z2s hx13).symm.trans h_)) ((z2s hx13).trans h44) hq47)⟩
 replace hm:=hm.dl [4,3,2,1,0]
 exact hP (hI_.trans (decls_funE h8 (by omega) (fun h_=>h19 ((z2s hx13).symm.trans h_)) (fun h_=>h38 ((z2s hx13).symm.trans h_)) ((z2s hx13).trans h44) hq47)) (le3) (he.pk) hm
 refine go he hm fun a he =>?_
 by_cases h78:x12=(⟨#[111,117,116,112,117,116]⟩:ByteArray)
 refine go he hm fun a he =>?_
 refine z9z (E0:=[(3,.pointer (some ⟨wd,0,none⟩)),(2,.pointer (some ⟨c0,0,none⟩))]) [1,2,2,0,0,0,1,0] (.q 0 (.q 1 (.q 2 (.e 3 (.e 4 (.e 5 (.q 6 (.e 7 (.done))))))))) [.gs (u2) 68 8 d2,.gs (u1) 72 2 d1,.gs (u0) 133 2 d0,.blk rp (ob [.pointer (some ⟨r,0,none⟩)] 206),.blk c0 (ob [u0,u1,u2,u3] 27),.blk wd (ob [.int .i64 ((0:Nat):Int)] 3)] (he.pk) hm mixed (by kernel_rfl) (by simp) (by kernel_rfl) fun w hm =>?_
 refine go he hm fun a he =>?_
 replace hm:=hm.pl 4
 refine d_e he rfl rfl rfl (eff_callE he rfl Tryz.call129 (z7y G (i:=(j+1)) rl hws (by omega) hm) (fun q79 w hq80 hm=>⟨fun _=>hm.sn (Fz.Le.refl _),fun a he =>?_⟩) (fun q79 w hq80 hm=>fun a he =>?_))
 have hleq79:=z2v hq80
 refine BldS he hm fun v81 w hm a he =>?_
 refine App_ 2 rt_25 he hm (fun v82 w hm a he =>?_) (hb:=by simp [z2h];omega)
 refine Sto 7 he hm fun w hm a he =>?_
 refine go he hm fun a he =>?_
 first | rw [z4x] at hm | rw [← z2g] at hm
 replace hm:=hm.ar [0] [7,7,7,3,7,7,7,7]
 refine hL4 _ _ _ (by subst hmu;omega) ⟨(Ψ2),(q79.2),(f - 1),(u0),(u1),(u2),(v82),(d0),(d1),(d2),({ C with outputs:=C.outputs++[q79.1] }),rfl,⟨he.pk,by exact hm⟩,?_⟩
 refine ⟨le3,?_⟩
 exact ⟨hch0,hch1,hch2,⟨by show C.datas.length≤_;omega,by show C.inputs.length≤_;omega,by show C.funs.length≤_;omega,by show (C.outputs++[q79.1]).length≤_;simp only [List.length_append,List.length_cons,List.length_nil];omega⟩,by omega,by omega,hI_.trans (decls_out h8 (by omega) (fun h_=>h19 ((z2s hx13).symm.trans h_)) (fun h_=>h38 ((z2s hx13).symm.trans h_)) (fun h_=>h44 ((z2s hx13).symm.trans h_)) ((z2s hx13).trans h78) hq80)⟩
 replace hm:=hm.dl [4,3,2,1,0]
 exact hP (hI_.trans (decls_outE h8 (by omega) (fun h_=>h19 ((z2s hx13).symm.trans h_)) (fun h_=>h38 ((z2s hx13).symm.trans h_)) (fun h_=>h44 ((z2s hx13).symm.trans h_)) ((z2s hx13).trans h78) hq80)) (le3) (he.pk) hm
 refine Qq he hm (fun a he =>?_) (o:=by exact fun _ _ _ he hs=>z9m ((j:Nat):Int) he rfl rfl (by rw [z1m (by omega)];omega))
 refine Sto 4 he hm fun w hm a he =>?_
 refine go he hm fun a he =>?_
 replace hm:=hm.pl 4
 refine stP he rfl rfl rfl (y0l he rfl Tryz.call130 (rfail_ok (i:=j) rl hws (by omega) hm) (fun w hm=>fun a he =>?_))
 replace hm:=hm.dl [4,3,2,1,0]
 exact hP (hI_.trans (decls_bad h8 (by omega) (fun h_=>h19 ((z2s hx13).symm.trans h_)) (fun h_=>h38 ((z2s hx13).symm.trans h_)) (fun h_=>h44 ((z2s hx13).symm.trans h_)) (fun h_=>h78 ((z2s hx13).symm.trans h_)))) (le3) (he.pk) hm
 refine go he hm fun a he =>?_
 have hm0_:=hm
 clear hm
 obtain ⟨Ψ85,le86,hm,hrow87⟩:=hm0_.freezeRow (i:=3) rfl
 clear hm0_
 replace G:=G.mono le86
 replace hch0:=hch0.mono fun _ _ h=>RData.mono _ _ _ _ le86 h
 replace hch1:=hch1.mono fun _ _ h=>RParam.mono _ _ _ _ le86 h
 replace hch2:=hch2.mono fun _ _ h=>RFun.mono _ _ _ _ le86 h
 replace hm:=hm.nf
 have hsl88:SliceOf RData Ψ85 2 _ (C.datas):=⟨_,hrow87,hch0⟩
 obtain ⟨p89,c90,hv_,hm91,hn92⟩:=hsl88.form (by decide)
 have hmk_:=hm
 clear hm
 subst hv_
 have hm:=hmk_
 clear hmk_
 have hm0_:=hm
 clear hm
 obtain ⟨Ψ93,le94,hm,hrow95⟩:=hm0_.freezeRow (i:=2) rfl
 clear hm0_
 replace G:=G.mono le94
 replace hch1:=hch1.mono fun _ _ h=>RParam.mono _ _ _ _ le94 h
 replace hch2:=hch2.mono fun _ _ h=>RFun.mono _ _ _ _ le94 h
 replace hsl88:=hsl88.up le94
 replace hm:=hm.nf
 have hsl96:SliceOf RParam Ψ93 2 _ (C.inputs):=⟨_,hrow95,hch1⟩
 obtain ⟨p97,c98,hv_,hm99,hn100⟩:=hsl96.form (by decide)
 have hmk_:=hm
 clear hm
 subst hv_
 have hm:=hmk_
 clear hmk_
 have hm0_:=hm
 clear hm
 obtain ⟨Ψ101,le102,hm,hrow103⟩:=hm0_.freezeRow (i:=1) rfl
 clear hm0_
 replace G:=G.mono le102
 replace hch2:=hch2.mono fun _ _ h=>RFun.mono _ _ _ _ le102 h
 replace hsl88:=hsl88.up le102
 replace hsl96:=hsl96.up le102
 replace hm:=hm.nf
 have hsl104:SliceOf RFun Ψ101 8 _ (C.funs):=⟨_,hrow103,hch2⟩
 obtain ⟨p105,c106,hv_,hm107,hn108⟩:=hsl104.form (by decide)
 have hmk_:=hm
 clear hm
 subst hv_
 have hm:=hmk_
 clear hmk_
 obtain ⟨p3,m3,q3,hu3_,_,_⟩:=hm.toSees.gsForm (i:=0) rfl
 have hmk_:=hm
 clear hm
 subst hu3_
 have hm:=hmk_
 clear hmk_
 refine Sto 3 he hm fun w hm a he =>?_
 refine Sto 4 he hm fun w hm a he =>?_
 refine go he hm fun a he =>?_
 replace hm:=hm.ar [2,1] [2,2]
 exact hR (hI_.trans (decls_end h8 (by omega))) ((((le3).trans le86).trans le94).trans le102) hsl88 hsl96 hsl104 (he.pk) hm
end Go.Sw

namespace Go.Sw
open Go.Proofs.Tryz
open Go.Proofs
abbrev wrongRE (n:Nat) (r:Bool):PanicEntry:={ v:=.iface 204 (.agg #[.int .i64 ((n:Nat):Int)]),recovered:=r }
theorem fo_204_0:z0l Tryz.prog 204 0 0:=z0d runUnderlying204 rfl sizeOf3 (by decide) rfl
set_option maxRecDepth 20000 in
set_option maxHeartbeats 4000000 in
theorem catchR_wrong {Φ:Fz} {K:List Res} {w:World} {bc bw n:Nat} {s t u v x:Value} (hm:Mem Φ (.blk bc (ob [s,t,u,v] 27)::.blk bw (ob [x] 3)::K) w) :
  CallsD Tryz.prog 124 #[.pointer (some ⟨bc,0,none⟩),.pointer (some ⟨bw,0,none⟩)] (.panicking (z9i n)) w fun e u' w' =>
   e=.returned (.tuple #[])∧u'=.panicking [wrongRE n true]∧Mem Φ (.blk bc (ob [.slice none 0 0,.slice none 0 0,.slice none 0 0,.slice none 0 0] 27)::.blk bw (ob [.int .i64 ((n:Nat):Int)] 3)::K) w':=by
 generalize hR:(fun (e:Ending) (u':FrameMode) (w':World)=>e=.returned (.tuple #[])∧u'=.panicking [wrongRE n true]∧Mem Φ (.blk bc (ob [.slice none 0 0,.slice none 0 0,.slice none 0 0,.slice none 0 0] 27)::.blk bw (ob [.int .i64 ((n:Nat):Int)] 3)::K) w')=R
 refine callsD_of_wpS func124 rfl fun c₀ cs hu =>?_
 apply wpS_seq
 apply wpS_region
 show wpOpsS Tryz.prog _ _ [0,1] _ _ _
 simp [wpOpsS,go_sem,recoverD,hu,ntmps124,Exit.thenS,z9i]
 refine wpS_of_wp ?_
 generalize hc:(_::cs:List Frame)=cs'
 have hQ:∀(a:Act) (w':World),a.defers=[]→Mem Φ (.blk bc (ob [.slice none 0 0,.slice none 0 0,.slice none 0 0,.slice none 0 0] 27)::.blk bw (ob [.int .i64 ((n:Nat):Int)] 3)::K) w'→bodyPostS Tryz.prog Tryz.f124 c₀ cs R .normal a cs' w':=fun a w' hd hm =>
  ⟨hd,.panicking [wrongRE n true],hc.symm,.tuple #[],results_none rfl _ _ _,by subst hR;exact ⟨rfl,rfl,hm⟩⟩
 generalize hact:(Act.mk _ [])=a
 have he:EnvR 19 [(2,.iface 204 (.agg (List.toArray [.int .i64 ((n:Nat):Int)]))),(1,.pointer (some ⟨bw,0,none⟩)),(0,.pointer (some ⟨bc,0,none⟩))] [] a:=by
  subst hact
  refine ⟨by simp,fun t v h =>?_,rfl⟩
  obtain ⟨rfl,rfl⟩ | ⟨_,h⟩:=z5k h
  ·simp
  ·obtain ⟨rfl,rfl⟩ | ⟨_,h⟩:=z5k h
   ·simp
   ·obtain ⟨rfl,rfl⟩ | ⟨_,h⟩:=z5k h
    ·simp
    ·cases h
 clear hact
 refine sq fun L1 hL1 =>?_
 refine wp_region_lit ?_
 refine z3p he (z4j he rfl) rfl fun a he =>?_
 refine z3p he (y1e (v:=.bool true) he rfl rfl rfl (by kernel_rfl)) rfl fun a he =>?_
 refine wpList_nil ?_
 refine hL1 _ _ ?_
 refine if_t he rfl ?_
 refine sq fun L2 hL2 =>?_
 refine wp_region_lit ?_
 refine z3p he (z4j he rfl) rfl fun a he =>?_
 refine z3p he (y_assert he rfl runUnderlying204 (by intro ms h;cases h)) rfl fun a he =>?_
 refine z3p he (z4j he rfl) rfl fun a he=>z3p he (z9j he rfl rfl) rfl fun a he=>z3p he (z9j he rfl rfl) rfl fun a he =>?_
 refine st he rfl rfl rfl (z4q (cs:=[.int .i64 ((0:Nat):Int)]) hm zeroValue204 rfl fun b3 w hm a he =>?_)
 refine st0 he rfl rfl (z2e 0 (cs:=[.int .i64 ((0:Nat):Int)]) (vs:=[.int .i64 ((n:Nat):Int)]) he hm rfl rfl rfl rfl sizeOf204 rfl rfl rfl fun w hm a he =>?_)
 refine z3p he (y0c he rfl) rfl fun a he =>?_
 refine wpList_nil ?_
 refine hL2 _ _ ?_
 replace hm:Mem Φ (.blk b3 (ob [.int .i64 ((n:Nat):Int)] 204)::.blk bc (ob [s,t,u,v] 27)::.blk bw (ob [x] 3)::K) w:=hm
 refine sq fun L3 hL3 =>?_
 refine sq fun L4 hL4 =>?_
 refine wp_region_lit ?_
 refine z3p he (z4j he rfl) rfl fun a he=>z3p he (y_not he rfl) rfl fun a he =>?_
 refine wpList_nil ?_
 refine hL4 _ _ ?_
 refine if_f he rfl ?_
 refine wp_skip ?_
 refine hL3 _ _ ?_
 refine z8u [1,1,2,0,0] (.q 0 (.q 1 (.q 2 (.e 3 (.e 4 (.done)))))) [.blk b3 (ob [.int .i64 ((n:Nat):Int)] 204)] he hm mixed (by kernel_rfl) (by simp) fun w hm =>?_
 refine d_q1 he rfl rfl (fun w=>y_build (vs:=[]) (cs:=[.slice none 0 0,.slice none 0 0,.slice none 0 0,.slice none 0 0]) he rfl (by kernel_rfl)) rfl fun a he =>?_
 refine d_q1 he rfl rfl (fun w=>z6o he rfl fo_204_0 rfl) rfl fun a he =>?_
 refine d_q he rfl rfl (fun w hs=>z5d 0 he hs rfl rfl rfl isAgg3) rfl fun a he =>?_
 refine d_e0 he rfl rfl (z2e 1 (cs:=[s,t,u,v]) (vs:=[.slice none 0 0,.slice none 0 0,.slice none 0 0,.slice none 0 0]) he hm rfl rfl rfl rfl sizeOf27 rfl rfl rfl fun w hm=>⟨fun _=>hm.seesIn (Fz.Le.refl _) (by simp [kset]),fun a he =>?_⟩)
 refine d_e0 he rfl rfl (z2e 2 (cs:=[x]) (vs:=[.int .i64 ((n:Nat):Int)]) he hm rfl rfl rfl rfl sizeOf3 rfl rfl rfl fun w hm=>⟨z9w (by kernel_rfl),fun a he =>?_⟩)
 refine d_done ?_
 replace hm:Mem Φ (.blk bc (ob [.slice none 0 0,.slice none 0 0,.slice none 0 0,.slice none 0 0] 27)::.blk bw (ob [.int .i64 ((n:Nat):Int)] 3)::K) w:=hm.del 0
 exact hQ _ _ he.defs hm
set_option maxRecDepth 20000 in
theorem catchR_none {w:World} {bc bw:Nat} :
  CallsD Tryz.prog 124 #[.pointer (some ⟨bc,0,none⟩),.pointer (some ⟨bw,0,none⟩)] .returning w fun e u' w'=>e=.returned (.tuple #[])∧u'=.returning∧w'=w:=by
 generalize hR:(fun (e:Ending) (u':FrameMode) (w':World)=>e=.returned (.tuple #[])∧u'=.returning∧w'=w)=R
 refine callsD_of_wpS func124 rfl fun c₀ cs hu =>?_
 apply wpS_seq
 apply wpS_region
 show wpOpsS Tryz.prog _ _ [0,1] _ _ _
 simp [wpOpsS,go_sem,recoverD,hu,ntmps124,Exit.thenS]
 refine wpS_of_wp ?_
 have hQ:∀(a:Act),a.defers=[]→bodyPostS Tryz.prog Tryz.f124 c₀ cs R .normal a (c₀::cs) w:=fun a hd =>
  ⟨hd,.returning,by cases c₀;simp only at hu;subst hu;rfl,.tuple #[],results_none rfl _ _ _,by subst hR;exact ⟨rfl,rfl,rfl⟩⟩
 generalize hact:(Act.mk _ [])=a
 have he:EnvR 19 [(2,.nilIface)] [] a:=by
  subst hact
  refine ⟨by simp,fun t v h =>?_,rfl⟩
  obtain ⟨rfl,rfl⟩ | ⟨_,h⟩:=z5k h
  ·simp
  ·cases h
 clear hact
 refine sq fun L1 hL1 =>?_
 refine wp_region_lit ?_
 refine z3p he (z4j he rfl) rfl fun a he =>?_
 refine z3p he (y1e (v:=.bool false) he rfl rfl rfl (by kernel_rfl)) rfl fun a he =>?_
 refine wpList_nil ?_
 refine hL1 _ _ ?_
 refine if_f he rfl ?_
 refine wp_skip ?_
 exact hQ _ he.defs
end Go.Sw

namespace Go.Sw
open Go.Proofs.Tryz
open Go.Proofs
abbrev readKY (K:List Res) (l Dk rr rp:Nat) (r:Loop) (pre:List Bs) (z:Value):List Res :=
 .blk l (.loop r)::.blk Dk (.deferred (some []))::.blk rr (ob [z,.int .i64 ((0:Nat):Int)] 208)::.gs z 9 1 (strs pre)::.blk rp (ob [.pointer (some ⟨rr,0,none⟩)] 206)::K
set_option maxRecDepth 20000 in
set_option maxHeartbeats 4000000 in
theorem read_round {Ψ:Fz} {K K0:List Res} {w:World} {l Dk rr rp n:Nat} {r:Loop} {pre:List Bs} {z:Value} {k:Bs} (hlen:pre.length < n) (hn:n≤800000)
  (hps:r.params=#[11]) (hst:r.state=.ready) (hpd:r.pending=none)
  (ha:∀(a:Act) (w:World),EnvR 96 [(11,.string k),(4,.pointer (some ⟨rp,0,none⟩))] [] a →
   r.assign.wpIn (FO (some l)) 2 Tryz.prog (Exit.then (fun a1 w1=>EnvR 96 [(5,.string k),(4,.pointer (some ⟨rp,0,none⟩))] [] a1∧w1=w) (fun _ _ _=>False)) a w)
  (hb:∀(a:Act) (w:World) (K:List Res) (o:Obj),EnvR 96 [(5,.string k),(4,.pointer (some ⟨rp,0,none⟩))] [] a→Mem Ψ (.blk l o::.blk rr (ob [z,.int .i64 ((0:Nat):Int)] 208)::.gs z 9 1 (strs pre)::.blk rp (ob [.pointer (some ⟨rr,0,none⟩)] 206)::K) w →
   r.body.wpIn (FO (some l)) 2 Tryz.prog (fun e _ w=>e=.normal∧∃v,Mem Ψ (.blk l o::.blk rr (ob [v,.int .i64 ((0:Nat):Int)] 208)::.gs v 9 1 (strs (pre++[k]))::.blk rp (ob [.pointer (some ⟨rr,0,none⟩)] 206)::K) w) a w)
  (he:EnvR 96 [(4,.pointer (some ⟨rp,0,none⟩))] [] ⟨r.tmps,[]⟩) (hm:Mem Ψ (K0++readKY K l Dk rr rp r pre z) w) :
  YieldAt Fence.wide 2 Tryz.prog l #[.string k] w (fun e w'=>e=.returned (.bool true)∧∃z',Mem Ψ (K0++readKY K l Dk rr rp r (pre++[k]) z') w'):=by
 have hm1:Mem Ψ (readKY K l Dk rr rp r pre z++K0) w:=hm.perm List.perm_append_comm
 replace hm1:Mem Ψ (.blk l (.loop r)::.blk rr (ob [z,.int .i64 ((0:Nat):Int)] 208)::.gs z 9 1 (strs pre)::.blk rp (ob [.pointer (some ⟨rr,0,none⟩)] 206)::.blk Dk (.deferred (some []))::(K++K0)) w :=
  ((((hm1.pull (i:=4) rfl).pull (i:=4) rfl).pull (i:=4) rfl).pull (i:=3) rfl)
 have hl:w.heap[l]? = some (.loop r):=hm1.own _ List.mem_cons_self
 refine ⟨r.fn,r.tmps.setIfInBounds 11 (.string k),r.assign,r.body,?_,?_⟩
 ·rw [run_yield hl (by rw [hps];rfl),hps,zip1];simp
 ·have he2:EnvR 96 [(11,.string k),(4,.pointer (some ⟨rp,0,none⟩))] [] ⟨r.tmps.setIfInBounds 11 (.string k),[]⟩:=he.put (d:=11) rfl
  have h:=round_of (P:=Tryz.prog) (E1:=fun (_:Unit)=>[(5,.string k),(4,.pointer (some ⟨rp,0,none⟩))]) (K1:=fun _=>.blk rr (ob [z,.int .i64 ((0:Nat):Int)] 208)::.gs z 9 1 (strs pre)::.blk rp (ob [.pointer (some ⟨rr,0,none⟩)] 206)::.blk Dk (.deferred (some []))::(K++K0))
   (KO:=fun v=>.blk rr (ob [v,.int .i64 ((0:Nat):Int)] 208)::.gs v 9 1 (strs (pre++[k]))::.blk rp (ob [.pointer (some ⟨rr,0,none⟩)] 206)::.blk Dk (.deferred (some []))::(K++K0)) hm1 hst hpd he2
   (fun a he=>Code.wpIn_mono (fun e a1 w1 h=>by
    cases e with
    | normal=>exact ⟨(),h.1,h.2▸hm1⟩
    | _=>exact h) (ha a w he)) (fun _ a w he hm=>hb a w _ _ he hm)
  refine h.mono fun e w' hh =>?_
  obtain ⟨h1,v,h2⟩:=hh
  refine ⟨h1,v,?_⟩
  have h3:Mem Ψ (readKY K l Dk rr rp r (pre++[k]) v++K0) w':=(((((h2.pull (i:=3) rfl).pull (i:=3) rfl).pull (i:=3) rfl).pull (i:=4) rfl).pull (i:=4) rfl)
  exact h3.perm List.perm_append_comm
theorem results2 {P:Program} {fn:Func} {n:Nat} {E:List (Nat×Value)} {D:List Deferred} {a:Act} {Φ:Fz} {K:List Res} {w:World} {t u T U k i j b c:Nat} {v:Value} {cs:List Value} {T0 T1:TypeId} (he:EnvR n E D a) (hm:Sees Φ K w) (hr:fn.results=#[.cell u U,.cell t T]) (hv:get E t=some (.pointer (some ⟨b,0,none⟩)))
  (hk:kget K i=some (.blk b (ob [v] T0))) (hT:Scalar P T) (hu:get E u=some (.pointer (some ⟨c,0,none⟩))) (hk2:kget K j=some (.blk c (ob cs T1))) (hT2:AggT P U) (hS:SizeT P U k) (hl:cs.length=k) :
  (results fn a.tmps).run P w=.ok (.tuple (List.toArray [.agg cs.toArray,v])) w:=by
 have h1:w.cell? ⟨b,0,none⟩=some v:=hm.cell hk 0
 have h2:=cellA (P:=P) he hm hu hk2 hT2 hS hl
 have h3:(loadVar T ⟨b,0,none⟩).run P w=.ok v w:=by simp [loadVar,Sem.run_bind,hT w,Result.andThen,load,Sem.run,h1]
 simp [results,hr,Array.getD_eq_getD_getElem?,he.env t _ hv,he.env u _ hu,asAddr,h2,h3,Sem.run_bind,Result.andThen]
set_option maxRecDepth 20000 in
set_option maxHeartbeats 4000000 in
theorem read_ok {Φ:Fz} {K:List Res} {w:World} {t:Bs} (G:Glob Φ) (h2:t.size≤800000) (hasc:AscB t) (hm:Mem Φ K w) :
  Calls Tryz.prog 74 (List.toArray [.string t]) w (fun ee w'=>Out (readP t)
   (fun C=>∃y:Fz×Value×Value×Value×Value,ee=.returned (.tuple (List.toArray [.agg (List.toArray [y.2.1,y.2.2.1,y.2.2.2.1,y.2.2.2.2]),.int .i64 ((0:Nat):Int)]))∧(Φ.Le y.1∧SliceOf RData y.1 2 y.2.1 C.datas∧SliceOf RParam y.1 2 y.2.2.1 C.inputs∧SliceOf RFun y.1 8 y.2.2.2.1 C.funs)∧Mem y.1 (.gs y.2.2.2.2 9 1 (strs C.outputs)::K) w')
   (fun n=>ee=.returned (.tuple (List.toArray [.agg (List.toArray [.slice none 0 0,.slice none 0 0,.slice none 0 0,.slice none 0 0]),.int .i64 ((n:Nat):Int)]))∧Mem Φ K w')):=by
 refine enterX func74 rfl ntmps74 rfl (fun Q hQ a he =>?_)
 refine sq fun L1 hL1 =>?_
 refine wp_region_lit ?_
 refine st he rfl rfl rfl (z4q (cs:=[.slice none 0 0,.slice none 0 0,.slice none 0 0,.slice none 0 0]) hm zeroValue27 rfl fun c0 w hm a he =>?_)
 refine st he rfl rfl rfl (z4q (cs:=[.int .i64 ((0:Nat):Int)]) hm zeroValue3 rfl fun wd w hm a he =>?_)
 refine wpList_nil ?_
 refine hL1 _ _ ?_
 refine sq fun L2 hL2 =>?_
 refine wp_region_lit ?_
 refine z3p he (y_makeFunc (vfs:=[]) (vcs:=[.pointer (some ⟨c0,0,none⟩),.pointer (some ⟨wd,0,none⟩)]) he rfl rfl) rfl fun a he =>?_
 refine st_defer_fn (fs:=[]) (cs:=[.pointer (some ⟨c0,0,none⟩),.pointer (some ⟨wd,0,none⟩)]) (vs:=[]) he rfl rfl fun a he =>?_
 refine wpList_nil ?_
 refine hL2 _ _ ?_
 refine sq fun L3 hL3 =>?_
 refine wp_region_lit ?_
 refine z3p he (y_build (vs:=[]) (cs:=[.slice none 0 0,.int .i64 ((0:Nat):Int)]) he rfl (by kernel_rfl)) rfl fun a he =>?_
 refine st he rfl rfl rfl (eff_box (cs:=[.slice none 0 0,.int .i64 ((0:Nat):Int)]) he hm rfl rfl fun rr w hm a he =>?_)
 refine st he rfl rfl rfl (z4q (cs:=[.pointer none]) hm zeroValue206 rfl fun rp w hm a he =>?_)
 refine st0 he rfl rfl (z2e 0 (cs:=[.pointer none]) (vs:=[.pointer (some ⟨rr,0,none⟩)]) he hm rfl rfl rfl rfl sizeOf206 rfl rfl rfl fun w hm a he =>?_)
 refine wpList_nil ?_
 refine hL3 _ _ ?_
 replace hm:Mem Φ (.blk rp (ob [.pointer (some ⟨rr,0,none⟩)] 206)::.blk rr (ob [.slice none 0 0,.int .i64 ((0:Nat):Int)] 208)::.blk wd (ob [.int .i64 ((0:Nat):Int)] 3)::.blk c0 (ob [.slice none 0 0,.slice none 0 0,.slice none 0 0,.slice none 0 0] 27)::K) w:=hm
 refine sq fun L4 hL4 =>?_
 refine sq fun L5 hL5 =>?_
 refine wp_region_lit ?_
 refine z3p he (z4j he rfl) rfl fun a he =>?_
 refine st he rfl rfl rfl (eff_callY he rfl call125 (words_ok hm) (fun bx w _ hm a he =>?_))
 refine wpList_nil ?_
 refine hL5 _ _ ?_
 refine wp_block ?_
 refine wp_range (P:=Tryz.prog) (β:=Value) (δ:=Unit) (gf:=174) (fs:=[]) (cs:=[.pointer (some ⟨bx,0,none⟩)]) (F1:=fun _=>Φ)
  (KO:=fun z=>.blk rr (ob [z,.int .i64 ((0:Nat):Int)] 208)::.gs z 9 1 (strs (wordsF t))::.blk rp (ob [.pointer (some ⟨rr,0,none⟩)] 206)::.blk wd (ob [.int .i64 ((0:Nat):Int)] 3)::.blk c0 (ob [.slice none 0 0,.slice none 0 0,.slice none 0 0,.slice none 0 0] 27)::K)
  (KE:=fun _=>K)
  (G:=fun _=>True) (B:=fun _ _=>False) he hm rfl call174 ?_ ?_ ?_
 ·intro Dk l r w hps has hbo hst hpd her hm
  have hm1:=hm.nilRow 9 1
  replace hm1:Mem Φ (.blk bx (ob [.string t] 9)::readKY (.blk wd (ob [.int .i64 ((0:Nat):Int)] 3)::.blk c0 (ob [.slice none 0 0,.slice none 0 0,.slice none 0 0,.slice none 0 0] 27)::K) l Dk rr rp r [] (.slice none 0 0)) w :=
   ((((((hm1.pull (i:=4) rfl).pull (i:=1) rfl).pull (i:=5) rfl).pull (i:=4) rfl).pull (i:=4) rfl).pull (i:=5) rfl)
  have h:=words1_ok (l:=l) (KY:=readKY (.blk wd (ob [.int .i64 ((0:Nat):Int)] 3)::.blk c0 (ob [.slice none 0 0,.slice none 0 0,.slice none 0 0,.slice none 0 0] 27)::K) l Dk rr rp r) (by omega) hasc (fun pre z K0 k w hlen hm =>?_) hm1
  ·refine h.mono fun e w' hh =>?_
   obtain ⟨z,rfl,hm2⟩:=hh
   exact .inl ⟨_,z,rfl,trivial,hm2⟩
  ·refine read_round (n:=t.size) hlen h2 hps hst hpd (fun a w he =>?_) (fun a w K o he hm =>?_) (her.of_sub ⟨rfl,trivial⟩) hm
   ·rw [has]
    refine wpIn_region_lit ?_
    refine y0e he (by intro c h;cases h) (y0c he rfl) rfl fun a he =>?_
    refine wpListIn_nil ?_
    exact ⟨he.of_sub ⟨rfl,rfl,trivial⟩,rfl⟩
   ·rw [hbo]
    refine wpIn_block ?_
    refine region_planIn [2,2,1,1,2,1,0,0,1,1,0] (.q 0 (.q 1 (.q 2 (.q 3 (.q 4 (.q 5 (.e 6 (.e 7 (.q 8 (.q 9 (.e 10 (.done)))))))))))) [.blk rr (ob [z,.int .i64 ((0:Nat):Int)] 208),.blk rp (ob [.pointer (some ⟨rr,0,none⟩)] 206)] he hm mixed (by kernel_rfl) (by simp) (by kernel_rfl) fun w hm =>?_
    refine d_q he rfl rfl (fun w hs=>z5d 1 he hs rfl rfl rfl isAgg206) rfl fun a he =>?_
    refine d_q he rfl rfl (fun w hs=>z5d 1 he hs rfl rfl rfl isAgg206) rfl fun a he =>?_
    refine d_q1 he rfl rfl (fun w=>y_nilCheck he rfl) rfl fun a he =>?_
    refine d_q1 he rfl rfl (fun w=>z6o he rfl fo_208_0 rfl) rfl fun a he =>?_
    refine d_q he rfl rfl (fun w hs=>z5d 0 he hs rfl rfl rfl isAgg25) rfl fun a he =>?_
    refine d_q1 he rfl rfl (fun w=>z4j he rfl) rfl fun a he =>?_
    refine d_e he rfl rfl rfl (eff_buildOwn (sz:=1) (cs:=[.string k]) he hm rfl (built_of runUnderlying25 sizeOf9 zeroValue9 rfl (by decide) rfl) rfl (by decide) fun v w hm _=>⟨fun _=>hm.seesIn (Fz.Le.refl _) (by simp),fun a he =>?_⟩)
    refine d_e he rfl rfl rfl (eff_append 3 (xs:=strs pre) (news:=[.string k]) rt_25 he hm rfl rfl rfl (hm.toSees.rowIn (i:=0) rfl) rfl (by simp [z2h];omega) fun v2 w hm=>⟨fun _=>hm.seesIn (Fz.Le.refl _) (by simp [kset]),fun a he =>?_⟩)
    replace hm:Mem Φ (.gs v 9 1 [.string k]::.blk l o::.blk rr (ob [z,.int .i64 ((0:Nat):Int)] 208)::.gs v2 9 1 (strs (pre++[k]))::.blk rp (ob [.pointer (some ⟨rr,0,none⟩)] 206)::K) w:=by rw [z2g];exact hm
    refine d_q1 he rfl rfl (fun w=>y_nilCheck he rfl) rfl fun a he =>?_
    refine d_q1 he rfl rfl (fun w=>z6o he rfl fo_208_0 rfl) rfl fun a he =>?_
    refine d_e0 he rfl rfl (z2e 2 (cs:=[z,.int .i64 ((0:Nat):Int)]) (vs:=[v2]) he hm rfl rfl rfl (hm.toSees.gsCells (i:=3) rfl) sizeOf25 rfl (hm.toSees.gsOne (i:=3) rfl) rfl fun w hm=>⟨z9w (by kernel_rfl),fun a he =>?_⟩)
    refine d_done ?_
    exact ⟨rfl,v2,hm.del 0⟩
 ·intro Dk z a w _ he hm
  refine hL4 _ _ ?_
  obtain ⟨Ψ,le,hm,hrow⟩:=hm.freezeRow (i:=2) rfl
  have rl:SliceOf RStr Ψ 1 z (wordsF t):=SliceOf.strs.2 hrow
  have hws:(wordsF t).length≤1000000:=Nat.le_trans (y2e t.size 0) (by omega)
  have hsz:∀j,(z0c (wordsF t) j).size≤1000000:=fun j=>peek_size (fun s hs=>Nat.le_trans (y2f t.size 0 s hs) (by omega)) j
  replace hm:Mem Ψ (.blk rr (ob [z,.int .i64 ((0:Nat):Int)] 208)::.blk rp (ob [.pointer (some ⟨rr,0,none⟩)] 206)::.blk c0 (ob [.slice none 0 0,.slice none 0 0,.slice none 0 0,.slice none 0 0] 27)::.blk wd (ob [.int .i64 ((0:Nat):Int)] 3)::.blk Dk (.deferred (some []))::K) w:=((((hm.pull (i:=3) rfl).pull (i:=4) rfl).pull (i:=4) rfl).pull (i:=4) rfl)
  refine read_rest (ws:=wordsF t) (c0:=c0) (wd:=wd) (rp:=rp) (r:=rr) (G.mono le) (rexpr_ok hws hsz 250 (by decide)) rl hws ?_ ?_ (he.of_sub ⟨rfl,rfl,rfl,trivial⟩) hm
  ·intro Ψ2 a w C u0 u1 u2 u3 hC le2 r0 r1 r2 he hm
   refine hQ _ _ _ ?_
   show y1i _ _ _ _ a.defers _ _
   rw [he.defs]
   replace hm:=hm.pull (i:=3) rfl
   have hD:w.heap[Dk]? = some (.deferred (some [])):=hm.own _ List.mem_cons_self
   have hm2:=hm.putObj (i:=0) (o':=.deferred none) rfl
   refine z9v (by simp) hD (leavesX_of ?_)
   refine leaves_cons (f:=124) (args:=#[.pointer (some ⟨c0,0,none⟩),.pointer (some ⟨wd,0,none⟩)]) (by simp) (call124 _ _) ?_
   refine catchR_none.mono ?_
   rintro e u' w'' ⟨rfl,rfl,rfl⟩
   refine ⟨_,results2 (i:=2) (j:=1) he hm2.toSees results74 rfl rfl isAgg3 rfl rfl isAgg27 sizeOf27 rfl,?_⟩
   show Out (readP t) _ _
   rw [show readP t=.ok C from hC]
   exact ⟨(Ψ2,u0,u1,u2,u3),rfl,⟨le.trans le2,r0,r1,r2⟩,((hm2.del 0).del 0).del 0⟩
  ·intro Ψ2 a w n u0 u1 u2 u3 x hC le2 he hm
   refine hQ _ _ _ ?_
   show y1i _ _ _ _ a.defers _ _
   rw [he.defs]
   replace hm:=hm.pull (i:=2) rfl
   have hD:w.heap[Dk]? = some (.deferred (some [])):=hm.own _ List.mem_cons_self
   have hm2:=(hm.putObj (i:=0) (o':=.deferred none) rfl)
   replace hm2:Mem Ψ2 (.blk c0 (ob [u0,u1,u2,u3] 27)::.blk wd (ob [x] 3)::.blk Dk (.deferred none)::K) (w.putObj Dk (.deferred none)):=(hm2.pull (i:=2) rfl).pull (i:=2) rfl
   refine z9v (by simp) hD (leavesX_of ?_)
   refine leaves_cons (f:=124) (args:=#[.pointer (some ⟨c0,0,none⟩),.pointer (some ⟨wd,0,none⟩)]) (by simp) (call124 _ _) ?_
   refine (catchR_wrong hm2).mono ?_
   rintro e' u' w'' ⟨rfl,rfl,hm3⟩
   refine ⟨_,results2 (i:=1) (j:=0) he hm3.toSees results74 rfl rfl isAgg3 rfl rfl isAgg27 sizeOf27 rfl,?_⟩
   show Out (readP t) _ _
   rw [show readP t=.error n from hC]
   exact ⟨rfl,(((hm3.del 0).del 0).del 0).le (le.trans le2)⟩
 ·intro Dk y c a w hB he hm
  exact hB.elim
end Go.Sw

namespace Go.Sw
open Go.Proofs
def Pos {α:Type} (f:Nat→Rd α):Prop:=∀i n,f i=.error n→0 < n
section
variable {ws:List Bs}
theorem Pos.bind {α β:Type} {f:Nat→Rd α} {g:α→Nat→Rd β} (hf:Pos f) (hg:∀x,Pos (g x)):Pos (fun i=>z1w (f i) g):=fun i n h=>by
 cases hr:f i with
 | error m =>
  simp only [z1w,hr] at h
  cases h;exact hf i _ hr
 | ok y =>
  simp only [z1w,hr] at h
  exact hg _ _ n h
theorem Pos.ok {α:Type} (f:Nat→α×Nat):Pos (fun i=>(.ok (f i):Rd α)):=fun i n h=>by cases h
theorem Pos.ite {α:Type} {p:Nat→Prop} [∀i,Decidable (p i)] {f g:Nat→Rd α} (hf:Pos f) (hg:Pos g):Pos (fun i=>if p i then f i else g i):=fun i n h=>by
 simp only at h
 split at h
 ·exact hf i n h
 ·exact hg i n h
theorem Pos.next {α:Type} {f:Nat→Rd α} (hf:Pos f):Pos (fun i=>f (i+1)):=fun i n h=>hf (i+1) n h
theorem Pos.err {α:Type}:Pos (fun i=>(.error (i+1):Rd α)):=fun i n h=>by cases h;exact Nat.succ_pos _
theorem z4m (p:Bs→Bool):Pos (z9p ws p):=fun i n h=>by
 unfold z9p at h
 split at h
 ·cases h;exact Nat.succ_pos _
 ·cases h
theorem z7x (w:Bs):Pos (z6u ws w):=(z4m _).bind fun _=>Pos.ok fun i=>((),i)
theorem list_pos {ex:Nat→Rd Ex} (he:Pos ex):∀f least,Pos (z6d ws ex f least)
 | 0,_=>Pos.err
 | f+1,least=>Pos.ite (p:=fun i=>0 < least∨z0c ws i≠sCls) (he.bind fun e=>(list_pos he f _).bind fun l=>Pos.ok fun i=>(e::l,i)) (Pos.ok fun i=>([],i))
theorem two_pos {ex:Nat→Rd Ex} (he:Pos ex):Pos (twoP ex):=he.bind fun a=>he.bind fun b=>Pos.ok fun i=>([a,b],i)
theorem vars_pos:∀f,Pos (y2c ws f)
 | 0=>Pos.err
 | f+1=>Pos.ite (p:=fun i=>z0c ws i≠y0a) ((z4m _).bind fun s=>(vars_pos f).bind fun l=>Pos.ok fun i=>(s::l,i)) (Pos.ok fun i=>([],i))
theorem arm_pos {ex:Nat→Rd Ex} (he:Pos ex):Pos (armP ws ex) :=
 (z7x _).bind fun _=>(z4m _).bind fun c=>(vars_pos _).bind fun vs=>(z7x _).bind fun _=>he.bind fun b=>(z7x _).bind fun _=>Pos.ok fun i=>(Arm.mk c vs b,i)
theorem arms_pos {ex:Nat→Rd Ex} (he:Pos ex):∀f b,Pos (armsP ws ex f b)
 | 0,_=>Pos.err
 | f+1,b=>Pos.ite (p:=fun i=>b=true∨z0c ws i=sOpn) ((arm_pos he).bind fun a=>(arms_pos he f false).bind fun l=>Pos.ok fun i=>(a::l,i)) (Pos.ok fun i=>([],i))
theorem form_pos {ex:Nat→Rd Ex} (he:Pos ex):Pos (z1r ws ex):=fun i n h=>by
 unfold z1r at h
 split at h
 ·exact (two_pos he).bind (fun l=>Pos.ok fun j=>(Ex.mk 8 0 (z0c ws i) l [],j)) (i+1) n h
 ·split at h
  ·exact (z4m _).bind (fun x=>(two_pos he).bind fun l=>Pos.ok fun j=>(Ex.mk 6 0 x l [],j)) (i+1) n h
  ·split at h
   ·exact he.bind (fun a=>(arms_pos he _ true).bind fun l=>Pos.ok fun j=>(Ex.mk 7 0 sNo [a] l,j)) (i+1) n h
   ·split at h
    ·exact (list_pos he _ 1).bind (fun l=>Pos.ok fun j=>(Ex.mk 4 0 (z0c ws i) l [],j)) (i+1) n h
    ·exact (z4m _).bind (fun x=>(list_pos he _ 0).bind fun l=>Pos.ok fun j=>(Ex.mk 5 0 x l [],j)) i n h
theorem expr_pos:∀d,Pos (z0o ws d)
 | 0=>Pos.err
 | d+1=>fun i n h=>by
  simp only [z0o] at h
  split at h
  ·cases h;exact Nat.succ_pos _
  ·split at h
   ·cases h
   ·split at h
    ·exact (form_pos (expr_pos d)).bind (fun e=>(z7x _).bind fun _=>Pos.ok fun j=>(e,j)) (i+1) n h
    ·split at h
     ·cases h
     ·split at h
      ·cases h
      ·exact (z4m _).bind (fun x=>Pos.ok fun j=>(Ex.mk 2 0 x [] [],j)) i n h
theorem fields_pos:∀f,Pos (z3t ws f)
 | 0=>Pos.err
 | f+1=>Pos.ite (p:=fun i=>z0u (z0c ws i)=true) ((z4m _).bind fun s=>(fields_pos f).bind fun l=>Pos.ok fun i=>(s::l,i)) (Pos.ok fun i=>([],i))
theorem cons_pos:∀f,Pos (consP ws f)
 | 0=>Pos.err
 | f+1=>(z4m _).bind fun n=>(fields_pos _).bind fun l=>Pos.ite (p:=fun i=>z0c ws i≠sBar) (Pos.ok fun i=>([(⟨n,l⟩:Con)],i)) ((cons_pos f).bind (fun cs=>Pos.ok fun i=>((⟨n,l⟩:Con)::cs,i))).next
theorem data_pos:Pos (y1o ws):=(z4m _).bind fun n=>(z7x _).bind fun _=>(cons_pos _).bind fun l=>Pos.ok fun i=>((⟨n,l⟩:Data),i)
theorem param_pos:Pos (z5p ws):=(z4m _).bind fun n=>(z7x _).bind fun _=>(z4m _).bind fun t=>Pos.ok fun i=>((⟨n,t⟩:Param),i)
theorem params_pos:∀f,Pos (z4e ws f)
 | 0=>Pos.err
 | f+1=>Pos.ite (p:=fun i=>z0c ws i=sOpn) ((param_pos).bind (fun p=>(z7x _).bind fun _=>(params_pos f).bind fun l=>Pos.ok fun i=>(p::l,i))).next (Pos.ok fun i=>([],i))
theorem fun_pos:Pos (funP ws):=(z4m _).bind fun n=>(params_pos _).bind fun ps=>(z7x _).bind fun _=>(z4m _).bind fun r=>(z7x _).bind fun _=>(expr_pos _).bind fun b=>Pos.ok fun i=>((⟨n,ps,r,b⟩:Fun),i)
theorem decls_pos:∀f c i n,z1x ws f c i=.error n→0 < n
 | 0,_,_,_,h=>by cases h;exact Nat.succ_pos _
 | f+1,c,i,n,h=>by
  simp only [z1x] at h
  split at h
  ·split at h
   ·split at h
    ·exact decls_pos f _ _ n h
    ·rename_i hd;cases h;exact data_pos _ _ hd
   ·split at h
    ·split at h
     ·exact decls_pos f _ _ n h
     ·rename_i hd;cases h;exact param_pos _ _ hd
    ·split at h
     ·split at h
      ·exact decls_pos f _ _ n h
      ·rename_i hd;cases h;exact fun_pos _ _ hd
     ·split at h
      ·split at h
       ·exact decls_pos f _ _ n h
       ·rename_i hd;cases h;exact z4m _ _ _ hd
      ·cases h;exact Nat.succ_pos _
  ·cases h
end
theorem read_pos {t:Bs} {n:Nat} (h:readP t=.error n):0 < n:=decls_pos _ _ _ _ h
def z9y (t:Bs):Except (Nat×Int) Core:=if 60000 < t.size then .error (0,2) else match readP t with
 | .error n=>.error (n,5)
 | .ok c=>if z2c c=0 then .ok c else .error (0,z2c c)
theorem parse_long {t:Bs} (h:60000 < t.size):z9y t=.error (0,2):=if_pos h
theorem parse_text {t:Bs} {n:Nat} (h:¬60000 < t.size) (h2:readP t=.error n):z9y t=.error (n,5):=by unfold z9y;rw [if_neg h,h2]
theorem parse_wrong {t:Bs} {c:Core} (h:¬60000 < t.size) (h2:readP t=.ok c) (h3:¬z2c c=0):z9y t=.error (0,z2c c):=by unfold z9y;rw [if_neg h,h2];exact if_neg h3
theorem parse_fine {t:Bs} {c:Core} (h:¬60000 < t.size) (h2:readP t=.ok c) (h3:z2c c=0):z9y t=.ok c:=by unfold z9y;rw [if_neg h,h2];exact if_pos h3
end Go.Sw

namespace Go.Sw
theorem z9d (a b:Bs):tx (a++b)=tx a++tx b:=by simp [tx,ByteArray.data_append]
theorem tx_cat:∀l:List Bs,tx (catB l)=(l.map tx).flatten
 | []=>rfl
 | x::l=>by rw [catB,z9d,tx_cat l];rfl
theorem tx_wB (e:Ex):tx (wB e)=z2y e:=tx_ofTx _
theorem wds_list:∀{vs:List Bs} (_:∀v∈vs,Word v) (l:Tx),z5e l→wds ((vs.map fun v=>32::tx v).flatten++l)=vs++wds l
 | [],_,l,_=>rfl
 | v::vs,h,l,hl=>by
  rw [List.map_cons,List.flatten_cons,List.append_assoc,List.cons_append,z4i,z1h (h v List.mem_cons_self) (vars_parted hl),wds_list (fun x hx=>h x (List.mem_cons_of_mem _ hx)) l hl];rfl
def barW:List Con→List Bs
 | []=>[]
 | c::cs=>sBar::c.name::(c.fields++barW cs)
def consW:List Con→List Bs
 | []=>[]
 | c::cs=>c.name::(c.fields++barW cs)
def dataW (d:Data):List Bs:=kData::d.name::sEq::consW d.cons
def z9u (p:Param):List Bs:=[z8l,p.name,z7g,p.type]
def z8s (p:Param):List Bs:=[sOpn,p.name,z7g,p.type,sCls]
def funW (f:Fun):List Bs:=kFun::f.name::((f.params.map z8s).flatten++(z7g::f.result::sEq::exW f.body))
def outW (o:Bs):List Bs:=[z8m,o]
def progW (c:Core):List Bs:=(c.datas.map dataW).flatten++((c.inputs.map z9u).flatten++((c.funs.map funW).flatten++(c.outputs.map outW).flatten))
def okCon (c:Con):Prop:=z0u c.name=true∧∀s∈c.fields,z0u s=true
def okData (d:Data):Prop:=z0u d.name=true∧d.cons≠[]∧∀c∈d.cons,okCon c
def y1x (p:Param):Prop:=z0q p.name=true∧z0u p.type=true
def okFun (f:Fun):Prop:=z0q f.name=true∧(∀p∈f.params,y1x p)∧z0u f.result=true∧okE f.body∧z7j 250 f.body=false
theorem wBar:Word sBar:=by refine ⟨by decide,?_⟩;unfold IsSep;decide
theorem wEq:Word sEq:=by refine ⟨by decide,?_⟩;unfold IsSep;decide
theorem wColon:Word z7g:=by refine ⟨by decide,?_⟩;unfold IsSep;decide
theorem wData:Word kData:=by refine ⟨by decide,?_⟩;unfold IsSep;decide
theorem wInput:Word z8l:=by refine ⟨by decide,?_⟩;unfold IsSep;decide
theorem wFun:Word kFun:=by refine ⟨by decide,?_⟩;unfold IsSep;decide
theorem wOutput:Word z8m:=by refine ⟨by decide,?_⟩;unfold IsSep;decide
theorem wds_con {c:Con} (h:okCon c) (l:Tx) (hl:z5e l):wds (tx (conT_ c)++l)=c.name::(c.fields++wds l):=by
 unfold conT_
 rw [join_sp,List.append_assoc,z1h (conW h.1) (vars_parted hl),wds_list (fun v hv=>conW (h.2 v hv)) l hl]
theorem join_bar:∀(x:Bs) (l:List Bs),tx (z7w ⟨#[32,124,32]⟩ (x::l))=tx x++(l.map fun v=>[32,124,32]++tx v).flatten
 | x,l=>by
  have:∀(l:List Bs) (a:Bs),tx (l.foldl (fun a s=>a++⟨#[32,124,32]⟩++s) a)=tx a++(l.map fun v=>[32,124,32]++tx v).flatten:=by
   intro l
   induction l with
   | nil=>intro a;simp
   | cons y l ih =>
    intro a
    rw [List.foldl_cons,ih]
    simp [tx,ByteArray.data_append,List.append_assoc]
  exact this l x
theorem bar_parted {cs:List Con} {l:Tx} (hl:z5e l):z5e (((cs.map conT_).map fun v=>[32,124,32]++tx v).flatten++l):=by
 cases cs with
 | nil=>exact hl
 | cons y vs=>exact z1i _
theorem wds_bars:∀{cs:List Con} (_:∀c∈cs,okCon c) (l:Tx),z5e l→wds (((cs.map conT_).map fun v=>[32,124,32]++tx v).flatten++l)=barW cs++wds l
 | [],_,l,_=>rfl
 | c::cs,h,l,hl=>by
  have e:∀r:Tx,([32,124,32]++tx (conT_ c))++r=32::(tx sBar++(32::(tx (conT_ c)++r))):=fun r=>by rw [List.append_assoc];rfl
  rw [List.map_cons,List.map_cons,List.flatten_cons,List.append_assoc,e,z4i,z1h wBar (z1i _),z4i,wds_con (h c List.mem_cons_self) _ (bar_parted hl),wds_bars (fun x hx=>h x (List.mem_cons_of_mem _ hx)) l hl]
  simp [barW]
theorem wds_data {d:Data} (h:okData d) (l:Tx):wds (tx (dataB d)++l)=dataW d++wds l:=by
 obtain ⟨c,cs,hc⟩:∃c cs,d.cons=c::cs:=by
  cases hc:d.cons with
  | nil=>exact absurd hc h.2.1
  | cons c cs=>exact ⟨c,cs,rfl⟩
 have h2:=h.2.2
 unfold dataB
 rw [hc] at h2 ⊢
 rw [List.map_cons]
 simp only [z9d,join_bar]
 have e1:tx (⟨#[100,97,116,97,32]⟩:Bs)=tx kData++[32]:=rfl
 have e2:tx (⟨#[32,61,32]⟩:Bs)=32::(tx sEq++[32]):=rfl
 have e3:tx (⟨#[10]⟩:Bs)=[10]:=rfl
 rw [e1,e2,e3]
 simp only [List.append_assoc,List.cons_append,List.nil_append]
 rw [z1h wData (z1i _),z4i,z1h (conW h.1) (z1i _),z4i,z1h wEq (z1i _),z4i,wds_con (h2 c List.mem_cons_self) _ ?_]
 ·have:=wds_bars (fun x hx=>h2 x (List.mem_cons_of_mem _ hx)) (10::l) (parted_nl l)
  simp only [List.cons_append,List.nil_append] at this
  rw [this,wds_nl]
  simp [dataW,hc,consW]
 ·have:=bar_parted (cs:=cs) (parted_nl l)
  simpa only [List.cons_append,List.nil_append] using this
theorem wds_input {p:Param} (h:y1x p) (l:Tx):wds (tx (inputB p)++l)=z9u p++wds l:=by
 unfold inputB
 simp only [z9d]
 have e1:tx (⟨#[105,110,112,117,116,32]⟩:Bs)=tx z8l++[32]:=rfl
 have e2:tx (⟨#[32,58,32]⟩:Bs)=32::(tx z7g++[32]):=rfl
 have e3:tx (⟨#[10]⟩:Bs)=[10]:=rfl
 rw [e1,e2,e3]
 simp only [List.append_assoc,List.cons_append,List.nil_append]
 rw [z1h wInput (z1i _),z4i,z1h (nameW h.1) (z1i _),z4i,z1h wColon (z1i _),z4i,z1h (conW h.2) (parted_nl _),wds_nl];rfl
theorem wds_out {o:Bs} (h:z0q o=true) (l:Tx):wds (tx (outB o)++l)=outW o++wds l:=by
 unfold outB
 simp only [z9d]
 have e1:tx (⟨#[111,117,116,112,117,116,32]⟩:Bs)=tx z8m++[32]:=rfl
 have e3:tx (⟨#[10]⟩:Bs)=[10]:=rfl
 rw [e1,e3]
 simp only [List.append_assoc,List.cons_append,List.nil_append]
 rw [z1h wOutput (z1i _),z4i,z1h (nameW h) (parted_nl _),wds_nl];rfl
theorem tx_param (p:Param):tx (y0u p)=32::40::(tx p.name++(32::(tx z7g++(32::(tx p.type++[41]))))):=by
 unfold y0u
 simp only [z9d]
 have e1:tx (⟨#[32,40]⟩:Bs)=[32,40]:=rfl
 have e2:tx (⟨#[32,58,32]⟩:Bs)=32::(tx z7g++[32]):=rfl
 have e3:tx (⟨#[41]⟩:Bs)=[41]:=rfl
 rw [e1,e2,e3]
 simp only [List.append_assoc,List.cons_append,List.nil_append]
theorem params_parted {ps:List Param} {l:Tx} (hl:z5e l):z5e (((ps.map y0u).map tx).flatten++l):=by
 cases ps with
 | nil=>exact hl
 | cons y vs =>
  rw [List.map_cons,List.map_cons,List.flatten_cons,tx_param]
  exact z1i _
theorem wds_params:∀{ps:List Param} (_:∀p∈ps,y1x p) (l:Tx),z5e l→wds (((ps.map y0u).map tx).flatten++l)=(ps.map z8s).flatten++wds l
 | [],_,l,_=>rfl
 | p::ps,h,l,hl=>by
  obtain ⟨h1,h2⟩:=h p List.mem_cons_self
  rw [List.map_cons,List.map_cons,List.flatten_cons,tx_param]
  simp only [List.append_assoc,List.cons_append,List.nil_append]
  rw [z4i,wds_opn,z1h (nameW h1) (z1i _),z4i,z1h wColon (z1i _),z4i,z1h (conW h2) (z3j _),wds_cls,wds_params (fun x hx=>h x (List.mem_cons_of_mem _ hx)) l hl]
  simp [z8s]
theorem wds_fun {f:Fun} (h:okFun f) (l:Tx):wds (tx (funB f)++l)=funW f++wds l:=by
 obtain ⟨h1,h2,h3,h4,_⟩:=h
 unfold funB
 simp only [z9d,tx_cat,tx_wB]
 have e1:tx (⟨#[102,117,110,32]⟩:Bs)=tx kFun++[32]:=rfl
 have e2:tx (⟨#[32,58,32]⟩:Bs)=32::(tx z7g++[32]):=rfl
 have e4:tx (⟨#[32,61,32]⟩:Bs)=32::(tx sEq++[32]):=rfl
 have e3:tx (⟨#[10]⟩:Bs)=[10]:=rfl
 rw [e1,e2,e3,e4]
 simp only [List.append_assoc,List.cons_append,List.nil_append]
 rw [z1h wFun (z1i _),z4i,z1h (nameW h1) (params_parted (z1i _)),wds_params h2 _ (z1i _),z4i,z1h wColon (z1i _),z4i,z1h (conW h3) (z1i _),z4i,
  z1h wEq (z1i _),z4i,y2g h4 _ (parted_nl _),wds_nl]
 simp [funW]
theorem wds_many {α:Type} {f:α→Bs} {g:α→List Bs}:∀{xs:List α} (_:∀x∈xs,∀l,wds (tx (f x)++l)=g x++wds l) (l:Tx),wds (tx (catB (xs.map f))++l)=(xs.map g).flatten++wds l
 | [],_,l=>rfl
 | x::xs,h,l=>by
  rw [List.map_cons,catB,z9d,List.append_assoc,h x List.mem_cons_self,wds_many (fun y hy=>h y (List.mem_cons_of_mem _ hy)) l]
  simp
structure OkCore (c:Core):Prop where
 datas:∀d∈c.datas,okData d
 inputs:∀p∈c.inputs,y1x p
 funs:∀f∈c.funs,okFun f
 outs:∀o∈c.outputs,z0q o=true
theorem words_print {c:Core} (h:OkCore c):wordsF (z4l c)=progW c:=by
 rw [wordsF_eq]
 show wds (tx (z4l c))=_
 have e:tx (z4l c)=tx (catB (c.datas.map dataB))++(tx (catB (c.inputs.map inputB))++(tx (catB (c.funs.map funB))++(tx (catB (c.outputs.map outB))++[]))):=by
  unfold z4l;simp only [z9d,List.append_nil]
 rw [e,wds_many (fun d hd=>wds_data (h.datas d hd)),wds_many (fun d hd=>wds_input (h.inputs d hd)),wds_many (fun d hd=>wds_fun (h.funs d hd)),wds_many (fun d hd=>wds_out (h.outs d hd)),wds_nil,List.append_nil]
 rfl
section
variable {ws:List Bs}
theorem fields_reads:∀{fs:List Bs} {f i:Nat} {l:List Bs},(∀s∈fs,z0u s=true)→fs.length < f→ws.drop i=fs++l→z0u (l.headD sNo)=false→z3t ws f i=.ok (fs,i+fs.length)
 | [],f,i,l,_,hf,h,hl=>by
  obtain ⟨f,rfl⟩:∃k,f=k+1:=⟨f - 1,by omega⟩
  rw [z3t,peek_head (show ws.drop i=l from h),hl,if_neg (by simp)];rfl
 | s::fs,f,i,l,hs,hf,h,hl=>by
  obtain ⟨f,rfl⟩:∃k,f=k+1:=⟨f - 1,by omega⟩
  simp only [List.length_cons] at hf
  have h1:=hs s List.mem_cons_self
  rw [z3t,z1p h,if_pos h1,z0b (z8i h h1)]
  simp only
  rw [z0b (fields_reads (fun x hx=>hs x (List.mem_cons_of_mem _ hx)) (by omega) (z0n h) hl)]
  simp only [List.length_cons,Except.ok.injEq,Prod.mk.injEq,true_and];omega
theorem cons_reads:∀{cs:List Con} {c:Con} {f i:Nat} {l:List Bs},(∀x∈c::cs,okCon x)→(c::cs).length < f→ws.drop i=c.name::(c.fields++(barW cs++l))→z0u (l.headD sNo)=false→l.headD sNo≠sBar →
  consP ws f i=.ok (c::cs,i+(1+c.fields.length+(barW cs).length))
 | [],c,f,i,l,hc,hf,h,hl,hb=>by
  obtain ⟨f,rfl⟩:∃k,f=k+1:=⟨f - 1,by omega⟩
  obtain ⟨h1,h2⟩:=hc c List.mem_cons_self
  have hn:=z0n h
  have hfl:c.fields.length < ws.length+1:=by have:=z9r hn;omega
  rw [consP,z0b (z8i h h1)]
  simp only
  rw [z0b (fields_reads h2 hfl hn hl)]
  simp only
  rw [if_pos]
  ·simp only [barW,List.length_nil,Except.ok.injEq,Prod.mk.injEq];exact ⟨by first | trivial | (cases c;rfl),by omega⟩
  ·rw [peek_head (z3h hn)];exact hb
 | d::cs,c,f,i,l,hc,hf,h,hl,hb=>by
  obtain ⟨f,rfl⟩:∃k,f=k+1:=⟨f - 1,by omega⟩
  obtain ⟨h1,h2⟩:=hc c List.mem_cons_self
  have hn:=z0n h
  have hfl:c.fields.length < ws.length+1:=by have:=z9r hn;omega
  simp only [List.length_cons] at hf
  have hp:=z3h hn
  have hp2:ws.drop (i+1+c.fields.length)=sBar::(d.name::(d.fields++(barW cs++l))):=by rw [hp];simp [barW]
  rw [consP,z0b (z8i h h1)]
  simp only
  rw [z0b (fields_reads h2 hfl hn (by show z0u ((barW (d::cs)++l).headD sNo)=false;exact (by decide:z0u sBar=false)))]
  simp only
  rw [if_neg (by rw [z1p hp2];simp),z0b (cons_reads (fun x hx=>hc x (List.mem_cons_of_mem _ hx)) (by simp only [List.length_cons];omega) (z0n hp2) hl hb)]
  simp only [barW,List.length_cons,List.length_append,Except.ok.injEq,Prod.mk.injEq];exact ⟨by first | trivial | (cases c;rfl),by omega⟩
theorem bars_len:∀{cs:List Con},cs.length≤(barW cs).length
 | []=>Nat.le_refl _
 | c::cs=>by have:=bars_len (cs:=cs);simp only [barW,List.length_cons,List.length_append];omega
theorem data_reads {d:Data} {i:Nat} {l:List Bs} (hd:okData d) (h:ws.drop i=d.name::sEq::(consW d.cons++l)) (hl:z0u (l.headD sNo)=false) (hb:l.headD sNo≠sBar) :
  y1o ws i=.ok (d,i+(2+(consW d.cons).length)):=by
 obtain ⟨c,cs,hc⟩:∃c cs,d.cons=c::cs:=by
  cases hc:d.cons with
  | nil=>exact absurd hc hd.2.1
  | cons c cs=>exact ⟨c,cs,rfl⟩
 have h2:=hd.2.2
 rw [hc] at h2
 have hn:=z0n h
 have hn2:=z0n hn
 rw [hc] at hn2
 have hn3:ws.drop (i+1+1)=c.name::(c.fields++(barW cs++l)):=by rw [hn2];simp [consW]
 have hfl:(c::cs).length < ws.length+1:=by
  have h3:=z9r (p:=c.name::(c.fields++barW cs)) (l:=l) (by rw [hn3];simp)
  have:=bars_len (cs:=cs)
  simp only [List.length_cons,List.length_append] at h3 ⊢;omega
 unfold y1o
 rw [z0b (z8i h hd.1)]
 simp only
 rw [z0b (z5b hn (by decide))]
 simp only
 rw [z0b (cons_reads h2 hfl hn3 hl hb)]
 rw [hc]
 simp only [consW,List.length_cons,List.length_append,Except.ok.injEq,Prod.mk.injEq]
 exact ⟨by cases d;simp only at hc;rw [hc],by omega⟩
theorem param_reads {p:Param} {i:Nat} {l:List Bs} (hp:y1x p) (h:ws.drop i=p.name::z7g::p.type::l):z5p ws i=.ok (p,i+3):=by
 have hn:=z0n h
 have hn2:=z0n hn
 unfold z5p
 rw [z0b (z6t h hp.1)]
 simp only
 rw [z0b (z5b hn (by decide))]
 simp only
 rw [z0b (z8i hn2 hp.2)]
theorem params_reads:∀{ps:List Param} {f i:Nat} {l:List Bs},(∀p∈ps,y1x p)→ps.length < f→ws.drop i=(ps.map z8s).flatten++l→l.headD sNo≠sOpn→z4e ws f i=.ok (ps,i+(ps.map z8s).flatten.length)
 | [],f,i,l,_,hf,h,hl=>by
  obtain ⟨f,rfl⟩:∃k,f=k+1:=⟨f - 1,by omega⟩
  rw [z4e,peek_head (show ws.drop i=l from h),if_neg hl];rfl
 | p::ps,f,i,l,hp,hf,h,hl=>by
  obtain ⟨f,rfl⟩:∃k,f=k+1:=⟨f - 1,by omega⟩
  simp only [List.length_cons] at hf
  have h1:ws.drop i=sOpn::(p.name::z7g::p.type::(sCls::((ps.map z8s).flatten++l))):=by rw [h];simp [z8s]
  have hn:=z0n h1
  have hn2:ws.drop (i+1+3)=sCls::((ps.map z8s).flatten++l):=z0n (z0n (z0n hn))
  rw [z4e,z1p h1,if_pos rfl,z0b (param_reads (hp p List.mem_cons_self) hn)]
  simp only
  rw [z0b (z5b hn2 (by decide))]
  simp only
  rw [z0b (params_reads (fun x hx=>hp x (List.mem_cons_of_mem _ hx)) (by omega) (z0n hn2) hl)]
  simp only [List.map_cons,List.flatten_cons,z8s,List.length_append,List.length_cons,List.length_nil,Except.ok.injEq,Prod.mk.injEq,true_and];omega
theorem params_len:∀{ps:List Param},ps.length≤(ps.map z8s).flatten.length
 | []=>Nat.le_refl _
 | p::ps=>by have:=params_len (ps:=ps);simp only [List.map_cons,List.flatten_cons,z8s,List.length_append,List.length_cons,List.length_nil];omega
theorem fun_reads {f:Fun} {i:Nat} {l:List Bs} (hf:okFun f) (h:ws.drop i=f.name::((f.params.map z8s).flatten++(z7g::f.result::sEq::(exW f.body++l)))) :
  funP ws i=.ok (f,i+(1+(f.params.map z8s).flatten.length+3+(exW f.body).length)):=by
 obtain ⟨h1,h2,h3,h4,h5⟩:=hf
 have hn:=z0n h
 have hfl:f.params.length < ws.length+1:=by have:=z9r hn;have:=params_len (ps:=f.params);omega
 have hn2:=z3h hn
 have hn3:=z0n hn2
 have hn4:=z0n hn3
 have hn5:=z0n hn4
 unfold funP
 rw [z0b (z6t h h1)]
 simp only
 rw [z0b (params_reads h2 hfl hn (by show z7g≠sOpn;decide))]
 simp only
 rw [z0b (z5b hn2 (by decide))]
 simp only
 rw [z0b (z8i hn3 h3)]
 simp only
 rw [z0b (z5b hn4 (by decide))]
 simp only
 rw [z0b (expr_reads ws 250 f.body h4 h5 _ _ hn5)]
 simp only [Except.ok.injEq,Prod.mk.injEq]
 exact ⟨by first | trivial | (cases f;rfl),by omega⟩
def Decl (l:List Bs):Prop:=l=[]∨∃k r,l=k::r∧(k=kData∨k=z8l∨k=kFun∨k=z8m)
theorem Decl.con {l:List Bs} (h:Decl l):z0u (l.headD sNo)=false:=by
 rcases h with rfl | ⟨k,r,rfl,h⟩
 ·decide
 ·show z0u k=false
  rcases h with rfl | rfl | rfl | rfl <;> decide
theorem Decl.bar {l:List Bs} (h:Decl l):l.headD sNo≠sBar:=by
 rcases h with rfl | ⟨k,r,rfl,h⟩
 ·decide
 ·show k≠sBar
  rcases h with rfl | rfl | rfl | rfl <;> decide
theorem decl_many {α:Type} {g:α→List Bs} {k:Bs} {t:α→List Bs} (hg:∀x,g x=k::t x) (hk:k=kData∨k=z8l∨k=kFun∨k=z8m) {xs:List α} {l:List Bs} (hl:Decl l):Decl ((xs.map g).flatten++l):=by
 cases xs with
 | nil=>exact hl
 | cons x xs=>rw [List.map_cons,List.flatten_cons,hg];exact .inr ⟨k,_,rfl,hk⟩
theorem drop_lt {i:Nat} {x:Bs} {l:List Bs} (h:ws.drop i=x::l):i < ws.length:=by
 have:=congrArg List.length h
 simp only [List.length_drop,List.length_cons] at this;omega
theorem decls_datas:∀{ds:List Data} {f i:Nat} {C:Core} {l:List Bs},(∀d∈ds,okData d)→ds.length≤f→ws.drop i=(ds.map dataW).flatten++l→Decl l →
  z1x ws f C i=z1x ws (f - ds.length) { C with datas:=C.datas++ds } (i+(ds.map dataW).flatten.length)
 | [],f,i,C,l,_,_,_,_=>by simp
 | d::ds,f,i,C,l,hd,hf,h,hl=>by
  simp only [List.length_cons] at hf
  obtain ⟨f,rfl⟩:∃k,f=k+1:=⟨f - 1,by omega⟩
  have h1:ws.drop i=kData::(d.name::sEq::(consW d.cons++((ds.map dataW).flatten++l))):=by rw [h];simp [dataW]
  have hdl:Decl ((ds.map dataW).flatten++l):=decl_many (g:=dataW) (k:=kData) (fun _=>rfl) (.inl rfl) hl
  have h2:ws.drop (i+1+(2+(consW d.cons).length))=(ds.map dataW).flatten++l:=by
   have:=z3h (p:=dataW d) (l:=(ds.map dataW).flatten++l) (i:=i) (ws:=ws) (by rw [h];simp)
   rw [← this];congr 1;simp only [dataW,List.length_cons];omega
  rw [z1x,if_pos (drop_lt h1),z1p h1,if_pos rfl,data_reads (hd d List.mem_cons_self) (z0n h1) hdl.con hdl.bar]
  simp only
  rw [decls_datas (fun x hx=>hd x (List.mem_cons_of_mem _ hx)) (by omega) h2 hl]
  simp only [List.length_cons,List.map_cons,List.flatten_cons,List.length_append,dataW,List.append_assoc,List.singleton_append]
  congr 1 <;> omega
theorem decls_inputs:∀{ds:List Param} {f i:Nat} {C:Core} {l:List Bs},(∀d∈ds,y1x d)→ds.length≤f→ws.drop i=(ds.map z9u).flatten++l →
  z1x ws f C i=z1x ws (f - ds.length) { C with inputs:=C.inputs++ds } (i+(ds.map z9u).flatten.length)
 | [],f,i,C,l,_,_,_=>by simp
 | d::ds,f,i,C,l,hd,hf,h=>by
  simp only [List.length_cons] at hf
  obtain ⟨f,rfl⟩:∃k,f=k+1:=⟨f - 1,by omega⟩
  have h1:ws.drop i=z8l::(d.name::z7g::d.type::((ds.map z9u).flatten++l)):=by rw [h];simp [z9u]
  have h2:ws.drop (i+1+3)=(ds.map z9u).flatten++l:=z0n (z0n (z0n (z0n h1)))
  rw [z1x,if_pos (drop_lt h1),z1p h1,if_neg (by decide),if_pos rfl,param_reads (hd d List.mem_cons_self) (z0n h1)]
  simp only
  rw [decls_inputs (fun x hx=>hd x (List.mem_cons_of_mem _ hx)) (by omega) h2]
  simp only [List.length_cons,List.map_cons,List.flatten_cons,List.length_append,z9u,List.append_assoc,List.singleton_append,List.length_nil]
  congr 1 <;> omega
theorem decls_funs:∀{ds:List Fun} {f i:Nat} {C:Core} {l:List Bs},(∀d∈ds,okFun d)→ds.length≤f→ws.drop i=(ds.map funW).flatten++l →
  z1x ws f C i=z1x ws (f - ds.length) { C with funs:=C.funs++ds } (i+(ds.map funW).flatten.length)
 | [],f,i,C,l,_,_,_=>by simp
 | d::ds,f,i,C,l,hd,hf,h=>by
  simp only [List.length_cons] at hf
  obtain ⟨f,rfl⟩:∃k,f=k+1:=⟨f - 1,by omega⟩
  have h1:ws.drop i=kFun::(d.name::((d.params.map z8s).flatten++(z7g::d.result::sEq::(exW d.body++((ds.map funW).flatten++l))))):=by rw [h];simp [funW]
  have h2:ws.drop (i+1+(1+(d.params.map z8s).flatten.length+3+(exW d.body).length))=(ds.map funW).flatten++l:=by
   have:=z3h (p:=funW d) (l:=(ds.map funW).flatten++l) (i:=i) (ws:=ws) (by rw [h];simp)
   rw [← this];congr 1;simp only [funW,List.length_cons,List.length_append];omega
  rw [z1x,if_pos (drop_lt h1),z1p h1,if_neg (by decide),if_neg (by decide),if_pos rfl,fun_reads (hd d List.mem_cons_self) (z0n h1)]
  simp only
  rw [decls_funs (fun x hx=>hd x (List.mem_cons_of_mem _ hx)) (by omega) h2]
  simp only [List.length_cons,List.map_cons,List.flatten_cons,List.length_append,funW,List.append_assoc,List.singleton_append]
  congr 1 <;> omega
theorem decls_outs:∀{ds:List Bs} {f i:Nat} {C:Core} {l:List Bs},(∀d∈ds,z0q d=true)→ds.length≤f→ws.drop i=(ds.map outW).flatten++l →
  z1x ws f C i=z1x ws (f - ds.length) { C with outputs:=C.outputs++ds } (i+(ds.map outW).flatten.length)
 | [],f,i,C,l,_,_,_=>by simp
 | d::ds,f,i,C,l,hd,hf,h=>by
  simp only [List.length_cons] at hf
  obtain ⟨f,rfl⟩:∃k,f=k+1:=⟨f - 1,by omega⟩
  have h1:ws.drop i=z8m::(d::((ds.map outW).flatten++l)):=by rw [h];simp [outW]
  have h2:ws.drop (i+1+1)=(ds.map outW).flatten++l:=z0n (z0n h1)
  rw [z1x,if_pos (drop_lt h1),z1p h1,if_neg (by decide),if_neg (by decide),if_neg (by decide),if_pos rfl,z6t (z0n h1) (hd d List.mem_cons_self)]
  simp only
  rw [decls_outs (fun x hx=>hd x (List.mem_cons_of_mem _ hx)) (by omega) h2]
  simp only [List.length_cons,List.map_cons,List.flatten_cons,List.length_append,outW,List.append_assoc,List.singleton_append,List.length_nil]
  congr 1 <;> omega
end
theorem many_len {α:Type} {g:α→List Bs} (hg:∀x,g x≠[]):∀{xs:List α},xs.length≤(xs.map g).flatten.length
 | []=>Nat.le_refl _
 | x::xs=>by
  have:=many_len hg (xs:=xs)
  have h1:=List.length_pos_iff.2 (hg x)
  simp only [List.map_cons,List.flatten_cons,List.length_append,List.length_cons];omega
theorem read_print {c:Core} (h:OkCore c):readP (z4l c)=.ok c:=by
 unfold readP
 rw [words_print h]
 have l1:=many_len (g:=dataW) (fun _=>by simp [dataW]) (xs:=c.datas)
 have l2:=many_len (g:=z9u) (fun _=>by simp [z9u]) (xs:=c.inputs)
 have l3:=many_len (g:=funW) (fun _=>by simp [funW]) (xs:=c.funs)
 have l4:=many_len (g:=outW) (fun _=>by simp [outW]) (xs:=c.outputs)
 have hl:(progW c).length=(c.datas.map dataW).flatten.length+((c.inputs.map z9u).flatten.length+((c.funs.map funW).flatten.length+(c.outputs.map outW).flatten.length)):=by simp only [progW,List.length_append]
 have h0:(progW c).drop 0=(c.datas.map dataW).flatten++((c.inputs.map z9u).flatten++((c.funs.map funW).flatten++((c.outputs.map outW).flatten++[]))):=by simp [progW]
 have d4:Decl ((c.outputs.map outW).flatten++[]):=decl_many (g:=outW) (k:=z8m) (fun _=>rfl) (.inr (.inr (.inr rfl))) (.inl rfl)
 have d3:Decl ((c.funs.map funW).flatten++((c.outputs.map outW).flatten++[])):=decl_many (g:=funW) (k:=kFun) (fun _=>rfl) (.inr (.inr (.inl rfl))) d4
 have d2:Decl ((c.inputs.map z9u).flatten++((c.funs.map funW).flatten++((c.outputs.map outW).flatten++[]))):=decl_many (g:=z9u) (k:=z8l) (fun _=>rfl) (.inr (.inl rfl)) d3
 rw [decls_datas h.datas (by omega) h0 d2]
 have h1:=z3h h0
 rw [decls_inputs h.inputs (by omega) h1]
 have h2:=z3h h1
 rw [decls_funs h.funs (by omega) h2]
 have h3:=z3h h2
 rw [decls_outs h.outs (by omega) h3]
 obtain ⟨f,hf⟩:∃f,(progW c).length+1 - c.datas.length - c.inputs.length - c.funs.length - c.outputs.length=f+1:=⟨(progW c).length - c.datas.length - c.inputs.length - c.funs.length - c.outputs.length,by omega⟩
 rw [hf,z1x,if_neg (by omega)]
 cases c;simp
theorem ok_core {c:Core} (h:z2c c=0) (hn:∀f∈c.funs,numsE f.body):OkCore c:=by
 have hR:=z6c h
 obtain ⟨hl,hr⟩:=z5a h
 have hd:∀f∈c.funs,z7j 250 f.body=false:=by
  intro f hf
  unfold z2c at h
  split at h
  ·cases h
  ·rename_i hx
   simp only [Bool.not_eq_true,List.any_eq_false] at hx
   simpa using hx f hf
 refine ⟨fun d hd =>?_,fun p hp=>⟨hR.iN p hp,inT_con hR (hR.inT p hp)⟩,fun f hf =>?_,outs_names hR hR.oOk⟩
 ·have h1:=hR.dN d (List.mem_cons_of_mem _ hd)
  have h2:=cons_pos2 hr d (List.mem_cons_of_mem _ hd)
  have h3:=hR.fields d hd
  simp only [z7u,List.all_eq_true] at h3
  exact ⟨h1.1,fun e=>by rw [e] at h2;simp at h2,fun x hx=>⟨h1.2.2.2 x hx,fun s hs=>type_con hR (h3 x hx s hs)⟩⟩
 ·have h1:=hR.fOk f hf
  simp only [z7k,Bool.and_eq_true,decide_eq_true_eq,List.all_eq_true] at h1
  obtain ⟨⟨⟨a1,a2⟩,a3⟩,_⟩:=h1
  obtain ⟨_,_,a4⟩:=z6a a3
  exact ⟨hR.fN f hf,fun p hp=>⟨a4 _ (List.mem_append.2 (.inl (List.mem_map_of_mem hp))),type_con hR (a1 p hp)⟩,type_con hR a2,ok_body hr hR hf (hn f hf),hd f hf⟩
theorem parse_print {c:Core} (h:z2c c=0) (hl:¬60000 < (z4l c).size) (hn:∀f∈c.funs,numsE f.body):z9y (z4l c)=.ok c :=
 parse_fine hl (read_print (ok_core h hn)) h
end Go.Sw

namespace Go.Sw
open Go.Proofs.Tryz
open Go.Proofs
set_option maxRecDepth 20000
set_option maxHeartbeats 4000000
theorem print_ok {Φ:Fz} {K:List Res} {w:World} {d0:List Value} {c:Core} (rpc:RCore Φ d0 c) (G:Glob Φ) (T_:Tabs Φ) (hm:Mem Φ K w) :
  Calls Tryz.prog 23 (List.toArray [.agg d0.toArray]) w (fun ee w'=>ee=.returned (.tuple (List.toArray [.string (z6q c).1,.int .i64 (z6q c).2]))∧Mem Φ K w'):=by
 obtain ⟨p3,c4,p9,c10,p15,c16,p21,c22,rfl,h2,h8,h14,h20,hm5,hn6,hm11,hn12,hm17,hn18,hm23,hn24⟩:=RCore.fm rpc
 refine z0m func23 ntmps23 fun Q hQ a he =>?_
 refine Bx he hm fun b26 w hm a he =>?_
 refine z0x call36 he hm (fun w hm a he =>?_) (c:=check_ok rpc G hm)
 refine go he hm fun a he =>?_
 by_cases h30:z2c c=0
 refine Alc he hm fun b32 w hm a he =>?_
 refine go he hm fun a he =>?_
 replace hm:=hm.nilRow 5 1
 replace hm:=hm.nf
 have hR_:=z6c h30
 have hL_:=(z5a h30).1
 have hps_:=print_size h30 (core_nums rpc)
 refine go he hm fun a he =>?_
 refine z1l (he.ks [1,5,25,26]) hm (fun R mm a w=>∃(i:Nat) (bp:Option Addr) (bv:Value) (acc:Bs),mm=c.datas.length - i∧R Φ [(27,.int .i64 ((i:Nat):Int))] [(0,.gs (bv) 5 1 (Lib.strCells acc)),(1,.blk b32 (ob [.pointer bp,bv] 130))] a w∧((bp=none∨bp=some ⟨b32,0,none⟩)∧acc++(catB ((c.datas.drop i).map dataB)++(catB (c.inputs.map inputB)++(catB (c.funs.map funB)++catB (c.outputs.map outB))))=z4l c)) (c.datas.length - 0) ⟨0,none,.slice none 0 0,⟨#[]⟩,rfl,⟨he.pk,hm⟩,⟨.inl rfl,empty_app _⟩⟩ ?_
 clear hm he
 rintro mm a w ⟨i,bp,bv,acc,hmu,⟨he,hm⟩,hI36⟩ L35 hL35
 replace hm:=hm.nf
 obtain ⟨hbp,hI36⟩:=hI36
 refine go he hm fun a he =>?_
 by_cases h38:i < c.datas.length
 refine go he hm fun a he =>?_
 obtain ⟨q42,rfl,x43,hx44,cs45,hl46,ha47,hr48⟩:=h2.el hn6 h38
 obtain ⟨s49,rfl,h50⟩:=id hr48
 obtain ⟨p51,c52,rfl,hm53,hn54⟩:=h50.fm
 refine Alc he hm fun b55 w hm a he =>?_
 refine Sto 0 he hm fun w hm a he =>?_
 refine go he hm fun a he =>?_
 replace hm:=hm.nilRow 9 1
 replace hm:=hm.nf
 refine go he hm fun a he =>?_
 refine z1l (he.ks [1,5,7,25,26,27,32,33]) hm (fun R mm a w=>∃(j:Nat) (u:Value) (ac:List Bs),mm=x43.cons.length - j∧R Φ [(8,u),(34,.int .i64 ((j:Nat):Int))] [(0,.gs (u) 9 1 (strs ac))] a w∧(ac=(x43.cons.map conT_).take j)) (x43.cons.length - 0) ⟨0,.slice none 0 0,[],rfl,⟨he.pk,hm⟩,rfl⟩ ?_
 clear hm he
 rintro mm a w ⟨j,u,ac,hmu,⟨he,hm⟩,hI60⟩ L59 hL59
 replace hm:=hm.nf
 refine go he hm fun a he =>?_
 by_cases h62:j < x43.cons.length
 refine go he hm fun a he =>?_
 obtain ⟨q66,rfl,x67,hx68,cs69,hl70,ha71,hr72⟩:=h50.el hn54 h62
 obtain ⟨s73,rfl,h74⟩:=id hr72
 obtain ⟨p75,c76,rfl,hm77,hn78⟩:=h74.fm
 refine Alc he hm fun b79 w hm a he =>?_
 refine Sto 0 he hm fun w hm a he =>?_
 refine BldS he hm fun v80 w hm a he =>?_
 refine App_ 0 rt_25 he hm (fun v81 w hm a he =>?_) (hr:=(SliceOf.strs.1 h74).rowIn hm.toSees) (h1:=strs_cells _) (hb:=by have h_:=con_lens hR_ hL_ (List.mem_of_getElem? hx44) (List.mem_of_getElem? hx68);have h2_:(⟨#[32]⟩:Bs).size=1:=rfl;rw [h2_] at h_;simp only [List.length_cons,List.length_nil,z2h] at h_ ⊢;omega)
 refine z0x call67 he hm (fun w hm a he =>?_) (c:=joinG_ok (l:=x67.name::x67.fields) (sep:=⟨#[32]⟩) (by have h_:=con_lens hR_ hL_ (List.mem_of_getElem? hx44) (List.mem_of_getElem? hx68);omega) hm)
 replace hm:=hm.nf
 refine BldS he hm fun v82 w hm a he =>?_
 refine App_ 2 rt_25 he hm (fun v83 w hm a he =>?_) (hb:=by have h_:=data_lens hR_ hL_ (List.mem_of_getElem? hx44);have h2_:(⟨#[32,124,32]⟩:Bs).size=3:=rfl;rw [h2_] at h_;have h3_:=congrArg List.length hI60;rw [List.length_take] at h3_;simp only [List.length_cons,List.length_nil,z2h] at h3_ ⊢;omega)
 first | rw [z4x] at hm | rw [← z2g] at hm
 refine go he hm fun a he =>?_
 replace hm:=hm.dl [1,0]
 refine hL59 _ _ _ (by subst hmu;omega) ⟨(j+1),(v83),(ac++[conT_ x67]),rfl,⟨he.pk,by exact hm⟩,?_⟩
 rw [hI60];exact (map_take_snoc hx68).symm
 refine Reg [1,2,1,1,1,0,1,1,0] [1,4] he hm fun w hm a he =>?_
 have hac_:ac=x43.cons.map conT_:=by rw [hI60];exact map_take_all h62
 have hp1_:=cat_part hx44 hI36
 simp only [dataB,z0e,← hac_] at hp1_
 refine Qq he hm (fun a he =>?_) (o:=by exact fun _ _ _ he hs=>z5h he rfl rfl (by (try simp only [z0e]);omega))
 refine Qq he hm (fun a he =>?_) (o:=by exact fun _ _ _ he hs=>z5h he rfl rfl (by (try simp only [z0e]);omega))
 refine z0x call67 he hm (fun w hm a he =>?_) (c:=joinG_ok (l:=ac) (sep:=⟨#[32,124,32]⟩) (by have h_:=data_lens hR_ hL_ (List.mem_of_getElem? hx44);rw [← hac_] at h_;omega) hm)
 replace hm:=hm.nf
 refine Qq he hm (fun a he =>?_) (o:=by exact fun _ _ _ he hs=>z5h he rfl rfl (by (try simp only [z0e]);omega))
 refine Qq he hm (fun a he =>?_) (o:=by exact fun _ _ _ he hs=>z5h he rfl rfl (by (try simp only [z0e]);omega))
 replace hm:=hm.ar [] [1,2]
 refine z2n call68 he hm (fun y85 w hG86 hm a he =>?_) (c:=z0t (t:=acc) (s:=(((((⟨#[100,97,116,97,32]⟩:ByteArray)++x43.name)++(⟨#[32,61,32]⟩:ByteArray))++(z7w (⟨#[32,124,32]⟩:Bs) ac))++(⟨#[10]⟩:ByteArray))) hbp (by (try simp only [z0e]);omega) hm)
 replace hm:=hm.nf
 refine go he hm fun a he =>?_
 replace hm:=hm.ar [2] [2,1,2]
 refine hL35 _ _ _ (by subst hmu;omega) ⟨(i+1),((some ⟨b32,0,none⟩)),(y85),((acc++(((((⟨#[100,97,116,97,32]⟩:ByteArray)++x43.name)++(⟨#[32,61,32]⟩:ByteArray))++(z7w (⟨#[32,124,32]⟩:Bs) ac))++(⟨#[10]⟩:ByteArray)))),rfl,⟨he.pk,by exact hm⟩,?_⟩
 rw [hac_];exact ⟨.inr rfl,cat_step hx44 hI36⟩
 refine go he hm fun a he =>?_
 refine z1l (he.ks [1,5,60,61]) hm (fun R mm a w=>∃(i:Nat) (bp:Option Addr) (bv:Value) (acc:Bs),mm=c.inputs.length - i∧R Φ [(62,.int .i64 ((i:Nat):Int))] [(0,.gs (bv) 5 1 (Lib.strCells acc)),(1,.blk b32 (ob [.pointer bp,bv] 130))] a w∧((bp=none∨bp=some ⟨b32,0,none⟩)∧acc++(catB ((c.inputs.drop i).map inputB)++(catB (c.funs.map funB)++catB (c.outputs.map outB)))=z4l c)) (c.inputs.length - 0) ⟨0,bp,bv,acc,rfl,⟨he.pk,hm⟩,⟨hbp,cat_done h38 hI36⟩⟩ ?_
 clear hm he
 rintro mm a w ⟨i,bp,bv,acc,hmu,⟨he,hm⟩,hI91⟩ L90 hL90
 replace hm:=hm.nf
 obtain ⟨hbp,hI91⟩:=hI91
 refine go he hm fun a he =>?_
 by_cases h93:i < c.inputs.length
 refine go he hm fun a he =>?_
 obtain ⟨q97,rfl,x98,hx99,cs100,hl101,ha102,hr103⟩:=h8.el hn12 h93
 obtain rfl:=id hr103
 refine Alc he hm fun b104 w hm a he =>?_
 refine Sto 0 he hm fun w hm a he =>?_
 refine go he hm fun a he =>?_
 have hp1_:=cat_part hx99 hI91
 simp only [inputB,z0e] at hp1_
 refine Qq he hm (fun a he =>?_) (o:=by exact fun _ _ _ he hs=>z5h he rfl rfl (by (try simp only [z0e]);omega))
 refine Qq he hm (fun a he =>?_) (o:=by exact fun _ _ _ he hs=>z5h he rfl rfl (by (try simp only [z0e]);omega))
 refine Qq he hm (fun a he =>?_) (o:=by exact fun _ _ _ he hs=>z5h he rfl rfl (by (try simp only [z0e]);omega))
 refine Qq he hm (fun a he =>?_) (o:=by exact fun _ _ _ he hs=>z5h he rfl rfl (by (try simp only [z0e]);omega))
 replace hm:=hm.ar [] [1,2]
 refine z2n call68 he hm (fun y105 w hG106 hm a he =>?_) (c:=z0t (t:=acc) (s:=(((((⟨#[105,110,112,117,116,32]⟩:ByteArray)++x98.name)++(⟨#[32,58,32]⟩:ByteArray))++x98.type)++(⟨#[10]⟩:ByteArray))) hbp (by (try simp only [z0e]);omega) hm)
 replace hm:=hm.nf
 refine go he hm fun a he =>?_
 replace hm:=hm.ar [2] [2,1,2]
 refine hL90 _ _ _ (by subst hmu;omega) ⟨(i+1),((some ⟨b32,0,none⟩)),(y105),((acc++(((((⟨#[105,110,112,117,116,32]⟩:ByteArray)++x98.name)++(⟨#[32,58,32]⟩:ByteArray))++x98.type)++(⟨#[10]⟩:ByteArray)))),rfl,⟨he.pk,by exact hm⟩,?_⟩
 exact ⟨.inr rfl,cat_step hx99 hI91⟩
 refine go he hm fun a he =>?_
 refine z1l (he.ks [1,5,77,78]) hm (fun R mm a w=>∃(i:Nat) (bp:Option Addr) (bv:Value) (acc:Bs),mm=c.funs.length - i∧R Φ [(79,.int .i64 ((i:Nat):Int))] [(0,.gs (bv) 5 1 (Lib.strCells acc)),(1,.blk b32 (ob [.pointer bp,bv] 130))] a w∧((bp=none∨bp=some ⟨b32,0,none⟩)∧acc++(catB ((c.funs.drop i).map funB)++catB (c.outputs.map outB))=z4l c)) (c.funs.length - 0) ⟨0,bp,bv,acc,rfl,⟨he.pk,hm⟩,⟨hbp,cat_done h93 hI91⟩⟩ ?_
 clear hm he
 rintro mm a w ⟨i,bp,bv,acc,hmu,⟨he,hm⟩,hI111⟩ L110 hL110
 replace hm:=hm.nf
 obtain ⟨hbp,hI111⟩:=hI111
 refine go he hm fun a he =>?_
 by_cases h113:i < c.funs.length
 refine go he hm fun a he =>?_
 obtain ⟨q117,rfl,x118,hx119,cs120,hl121,ha122,hr123⟩:=h14.el hn18 h113
 obtain ⟨s124,b130,rfl,h125,h131⟩:=id hr123
 obtain ⟨p126,c127,rfl,hm128,hn129⟩:=h125.fm
 obtain ⟨p134,c135,p140,c141,rfl,hi144,h133,h139,hm136,hn137,hm142,hn143⟩:=REx.fm h131
 refine Alc he hm fun b145 w hm a he =>?_
 refine Sto 0 he hm fun w hm a he =>?_
 refine go he hm fun a he =>?_
 have hq1_:=fun_start hx119 hI111
 have hp1_:=congrArg ByteArray.size hq1_
 simp only [z0e] at hp1_
 refine Qq he hm (fun a he =>?_) (o:=by exact fun _ _ _ he hs=>z5h he rfl rfl (by (try simp only [z0e]);omega))
 replace hm:=hm.ar [] [1,2]
 refine z2n call68 he hm (fun y147 w hG148 hm a he =>?_) (c:=z0t (t:=acc) (s:=((⟨#[102,117,110,32]⟩:ByteArray)++x118.name)) hbp (by (try simp only [z0e]);omega) hm)
 replace hm:=hm.nf
 refine go he hm fun a he =>?_
 refine z1l (he.ks [1,5,14,77,78,79,88,89]) hm (fun R mm a w=>∃(j:Nat) (bv2:Value) (acc2:Bs),mm=x118.params.length - j∧R Φ [(90,.int .i64 ((j:Nat):Int))] [(0,.blk b32 (ob [.pointer (some ⟨b32,0,none⟩),bv2] 130)),(1,.gs (bv2) 5 1 (Lib.strCells acc2))] a w∧(acc2++(catB ((x118.params.drop j).map y0u)++((((⟨#[32,58,32]⟩:Bs)++x118.result)++⟨#[32,61,32]⟩)++((wB x118.body++⟨#[10]⟩)++(catB ((c.funs.drop (i+1)).map funB)++catB (c.outputs.map outB)))))=z4l c)) (x118.params.length - 0) ⟨0,y147,(acc++((⟨#[102,117,110,32]⟩:ByteArray)++x118.name)),rfl,⟨he.pk,hm⟩,hq1_⟩ ?_
 clear hm he
 rintro mm a w ⟨j,bv2,acc2,hmu,⟨he,hm⟩,hI152⟩ L151 hL151
 replace hm:=hm.nf
 refine go he hm fun a he =>?_
 by_cases h154:j < x118.params.length
 refine go he hm fun a he =>?_
 obtain ⟨q158,rfl,x159,hx160,cs161,hl162,ha163,hr164⟩:=h125.el hn129 h154
 obtain rfl:=id hr164
 refine Alc he hm fun b165 w hm a he =>?_
 refine Sto 0 he hm fun w hm a he =>?_
 refine go he hm fun a he =>?_
 have hp1_:=cat_part hx160 hI152
 simp only [y0u,z0e] at hp1_
 refine Qq he hm (fun a he =>?_) (o:=by exact fun _ _ _ he hs=>z5h he rfl rfl (by (try simp only [z0e]);omega))
 refine Qq he hm (fun a he =>?_) (o:=by exact fun _ _ _ he hs=>z5h he rfl rfl (by (try simp only [z0e]);omega))
 refine Qq he hm (fun a he =>?_) (o:=by exact fun _ _ _ he hs=>z5h he rfl rfl (by (try simp only [z0e]);omega))
 refine Qq he hm (fun a he =>?_) (o:=by exact fun _ _ _ he hs=>z5h he rfl rfl (by (try simp only [z0e]);omega))
 replace hm:=hm.ar [] [2,2]
 refine z2n call68 he hm (fun y166 w hG167 hm a he =>?_) (c:=z0t (t:=acc2) (s:=(((((⟨#[32,40]⟩:ByteArray)++x159.name)++(⟨#[32,58,32]⟩:ByteArray))++x159.type)++(⟨#[41]⟩:ByteArray))) (.inr rfl) (by (try simp only [z0e]);omega) hm)
 replace hm:=hm.nf
 refine go he hm fun a he =>?_
 replace hm:=hm.dl [2]
 refine hL151 _ _ _ (by subst hmu;omega) ⟨(j+1),(y166),((acc2++(((((⟨#[32,40]⟩:ByteArray)++x159.name)++(⟨#[32,58,32]⟩:ByteArray))++x159.type)++(⟨#[41]⟩:ByteArray)))),rfl,⟨he.pk,by exact hm⟩,?_⟩
 exact cat_step hx160 hI152
 refine go he hm fun a he =>?_
 have hq2_:=cat_done h154 hI152
 have hp2_:=congrArg ByteArray.size hq2_
 simp only [z0e] at hp2_
 have hq3_:=z3b x118.body
 refine Qq he hm (fun a he =>?_) (o:=by exact fun _ _ _ he hs=>z5h he rfl rfl (by (try simp only [z0e]);omega))
 refine Qq he hm (fun a he =>?_) (o:=by exact fun _ _ _ he hs=>z5h he rfl rfl (by (try simp only [z0e]);omega))
 replace hm:=hm.ar [] [1,1]
 refine z2n call68 he hm (fun y170 w hG171 hm a he =>?_) (c:=z0t (t:=acc2) (s:=(((⟨#[32,58,32]⟩:ByteArray)++x118.result)++(⟨#[32,61,32]⟩:ByteArray))) (.inr rfl) (by (try simp only [z0e]);omega) hm)
 replace hm:=hm.nf
 replace hm:=hm.ar [] [1,1]
 refine z2n call69 he hm (fun y173 w hG174 hm a he =>?_) (c:=write_ok (t:=(acc2++(((⟨#[32,58,32]⟩:ByteArray)++x118.result)++(⟨#[32,61,32]⟩:ByteArray)))) (wf_body hR_ (List.mem_of_getElem? hx119) (core_nums rpc _ (List.mem_of_getElem? hx119))) h131 (.inr rfl) T_ (by (try simp only [z0e]);omega) hm)
 replace hm:=hm.nf
 replace hm:=hm.ar [] [1,1]
 refine z2n call70 he hm (fun y175 w hG176 hm a he =>?_) (c:=z7h (t:=((acc2++(((⟨#[32,58,32]⟩:ByteArray)++x118.result)++(⟨#[32,61,32]⟩:ByteArray)))++wB x118.body)) (c:=10) (.inr rfl) (by (try simp only [z0e]);omega) hm)
 replace hm:=hm.nf
 refine go he hm fun a he =>?_
 replace hm:=hm.ar [2] [2,1,2]
 refine hL110 _ _ _ (by subst hmu;omega) ⟨(i+1),((some ⟨b32,0,none⟩)),(y175),((((acc2++(((⟨#[32,58,32]⟩:ByteArray)++x118.result)++(⟨#[32,61,32]⟩:ByteArray)))++wB x118.body)++⟨#[10]⟩)),rfl,⟨he.pk,by exact hm⟩,?_⟩
 exact ⟨.inr rfl,fun_step hq2_⟩
 refine go he hm fun a he =>?_
 refine z1l (he.ks [5,115,116]) hm (fun R mm a w=>∃(i:Nat) (bp:Option Addr) (bv:Value) (acc:Bs),mm=c.outputs.length - i∧R Φ [(117,.int .i64 ((i:Nat):Int))] [(0,.gs (bv) 5 1 (Lib.strCells acc)),(1,.blk b32 (ob [.pointer bp,bv] 130))] a w∧((bp=none∨bp=some ⟨b32,0,none⟩)∧acc++(catB ((c.outputs.drop i).map outB)++⟨#[]⟩)=z4l c)) (c.outputs.length - 0) ⟨0,bp,bv,acc,rfl,⟨he.pk,hm⟩,⟨hbp,by have h_:=cat_done h113 hI111;rw [← h_,app_empty];rfl⟩⟩ ?_
 clear hm he
 rintro mm a w ⟨i,bp,bv,acc,hmu,⟨he,hm⟩,hI181⟩ L180 hL180
 replace hm:=hm.nf
 obtain ⟨hbp,hI181⟩:=hI181
 refine go he hm fun a he =>?_
 by_cases h183:i < c.outputs.length
 refine go he hm fun a he =>?_
 obtain ⟨q187,rfl,x188,hx189,cs190,hl191,ha192,hr193⟩:=h20.el hn24 h183
 obtain rfl:cs190=[.string x188]:=hr193
 refine go he hm fun a he =>?_
 have hp1_:=cat_part hx189 hI181
 simp only [outB,z0e] at hp1_
 refine Qq he hm (fun a he =>?_) (o:=by exact fun _ _ _ he hs=>z5h he rfl rfl (by (try simp only [z0e]);omega))
 refine Qq he hm (fun a he =>?_) (o:=by exact fun _ _ _ he hs=>z5h he rfl rfl (by (try simp only [z0e]);omega))
 replace hm:=hm.pl 1
 refine z2n call68 he hm (fun y194 w hG195 hm a he =>?_) (c:=z0t (t:=acc) (s:=(((⟨#[111,117,116,112,117,116,32]⟩:ByteArray)++x188)++(⟨#[10]⟩:ByteArray))) hbp (by (try simp only [z0e]);omega) hm)
 replace hm:=hm.nf
 refine go he hm fun a he =>?_
 replace hm:=hm.ar [] [2,1,2]
 refine hL180 _ _ _ (by subst hmu;omega) ⟨(i+1),((some ⟨b32,0,none⟩)),(y194),((acc++(((⟨#[111,117,116,112,117,116,32]⟩:ByteArray)++x188)++(⟨#[10]⟩:ByteArray)))),rfl,⟨he.pk,by exact hm⟩,?_⟩
 exact ⟨.inr rfl,cat_step hx189 hI181⟩
 refine go he hm fun a he =>?_
 have hend_:=cat_done h183 hI181
 rw [app_empty] at hend_
 replace hm:=hm.pl 1
 refine z0x call71 he hm (fun w hm a he =>?_) (c:=builderLen_ok (t:=acc) hm)
 by_cases h199:60000 < acc.size
 refine go he hm fun a he =>?_
 replace hm:=hm.dl [2,1,0]
 refine Ret2 hQ he hm ?_
 exact ⟨by rw [printP_long h30 (hend_▸h199)],hm⟩
 replace hm:=hm.ar [] [1,1]
 refine z0x call72 he hm (fun w hm a he =>?_) (c:=z7i (t:=acc) hm)
 replace hm:=hm.nf
 refine go he hm fun a he =>?_
 replace hm:=hm.dl [0]
 refine Ret2 hQ he hm ?_
 exact ⟨by rw [printP_ok h30 (hend_▸h199),hend_],hm⟩
 refine go he hm fun a he =>?_
 replace hm:=hm.dl [0]
 refine Ret2 hQ he hm ?_
 exact ⟨by rw [printP_look h30],hm⟩
end Go.Sw

namespace Go.Sw
open Go.Proofs.Tryz
open Go.Proofs
set_option maxRecDepth 20000
set_option maxHeartbeats 4000000
theorem parse_ok {Φ:Fz} {K:List Res} {w:World} {t:Bs} (G:Glob Φ) (hasc:AscB t) (hm:Mem Φ K w) :
  Calls Tryz.prog 25 (List.toArray [.string t]) w (fun ee w'=>Out (z9y t)
   (fun C=>∃y:Fz×Value×Value×Value×Value,ee=.returned (.tuple (List.toArray [.agg (List.toArray [y.2.1,y.2.2.1,y.2.2.2.1,y.2.2.2.2]),.int .i64 ((0:Nat):Int),.int .i64 ((0:Nat):Int)]))∧(Φ.Le y.1∧SliceOf RData y.1 2 y.2.1 C.datas∧SliceOf RParam y.1 2 y.2.2.1 C.inputs∧SliceOf RFun y.1 8 y.2.2.2.1 C.funs)∧Mem y.1 (.gs y.2.2.2.2 9 1 (strs C.outputs)::K) w')
   (fun c=>ee=.returned (.tuple (List.toArray [.agg (List.toArray [.slice none 0 0,.slice none 0 0,.slice none 0 0,.slice none 0 0]),.int .i64 ((c.1:Nat):Int),.int .i64 c.2]))∧Mem Φ K w')):=by
 refine z0m func25 ntmps25 fun Q hQ a he =>?_
 refine Alc he hm fun b2 w hm a he =>?_
 refine go he hm fun a he =>?_
 by_cases h5:60000 < t.size
 refine z1n he hm fun a he =>?_
 refine Sto 0 he hm fun w hm a he =>?_
 refine go he hm fun a he =>?_
 have hmr:=hm
 replace hm:=hm.dl [0]
 refine hQ _ _ _ (z8v (i:=0) (cs:=[.slice none 0 0,.slice none 0 0,.slice none 0 0,.slice none 0 0]) he hmr.toSees results25 rfl rfl isAgg27 sizeOf27 rfl rfl rfl ?_)
 show Out (z9y t) _ _
 rw [parse_long h5]
 exact ⟨rfl,hm⟩
 refine go he hm fun a he =>?_
 refine st he rfl rfl rfl (eff_callW he rfl call74 (read_ok G (by omega) hasc hm) (fun q8 y9 w hq10 hG11 hm a he =>?_) (fun q8 w hq10 hm a he =>?_))
 obtain ⟨Ψ1,u0,u1,u2,u3⟩:=y9
 obtain ⟨le1,r0,r1,r2⟩:=hG11
 simp only at le1 r0 r1 r2 hm he
 replace G:=G.mono le1
 replace hm:=hm.nf
 obtain ⟨p0,q0,rfl,_,_⟩:=r0.fm
 obtain ⟨p1,q1,rfl,_,_⟩:=r1.fm
 obtain ⟨p2,q2,rfl,_,_⟩:=r2.fm
 obtain ⟨p3,m3,q3,hu3_,_,_⟩:=hm.toSees.gsForm (i:=0) rfl
 subst hu3_
 replace hm:=hm.nf
 refine Alc he hm fun b12 w hm a he =>?_
 refine Sto 0 he hm fun w hm a he =>?_
 refine Qq he hm (fun a he =>?_) (o:=by exact fun _ _ _ he hs=>y_gtr false he rfl rfl rfl)
 refine go he hm fun a he =>?_
 have hm0_:=hm
 clear hm
 obtain ⟨Ψ2,le2,hm,hrow2,back2⟩:=hm0_.freezeRowT (i:=1) rfl
 clear hm0_
 replace G:=G.mono le2
 replace hm:=hm.nf
 have rpc_:RCore Ψ2 [.slice p0 (q8.datas).length q0,.slice p1 (q8.inputs).length q1,.slice p2 (q8.funs).length q2,.slice p3 m3 q3] q8:=⟨_,_,_,_,rfl,r0.mono RData.mono le2,r1.mono RParam.mono le2,r2.mono RFun.mono le2,SliceOf.strs.2 hrow2⟩
 refine z0x call36 he hm (fun w hm a he =>?_) (c:=check_ok rpc_ G hm)
 refine go he hm fun a he =>?_
 replace hm:=back2 _ _ hm
 replace hm:=hm.nf
 refine go he hm fun a he =>?_
 by_cases h18:z2c q8=0
 refine Sto 2 he hm fun w hm a he =>?_
 refine go he hm fun a he =>?_
 have hmr:=hm
 replace hm:=hm.dl [2,1]
 refine hQ _ _ _ (z8v (i:=2) (cs:=[.slice p0 (q8.datas).length q0,.slice p1 (q8.inputs).length q1,.slice p2 (q8.funs).length q2,.slice p3 m3 q3]) he hmr.toSees results25 rfl rfl isAgg27 sizeOf27 rfl rfl rfl ?_)
 show Out (z9y t) _ _
 rw [parse_fine h5 hq10 h18]
 exact ⟨(Ψ1,_,_,_,_),rfl,⟨le1,r0,r1,r2⟩,hm⟩
 refine z1n he hm fun a he =>?_
 refine Sto 2 he hm fun w hm a he =>?_
 refine go he hm fun a he =>?_
 have hmr:=hm
 replace hm:=hm.dl [2,1,0]
 refine hQ _ _ _ (z8v (i:=2) (cs:=[.slice none 0 0,.slice none 0 0,.slice none 0 0,.slice none 0 0]) he hmr.toSees results25 rfl rfl isAgg27 sizeOf27 rfl rfl rfl ?_)
 show Out (z9y t) _ _
 rw [parse_wrong h5 hq10 h18]
 exact ⟨rfl,hm.le (le1)⟩
 replace hm:=hm.nf
 have hpos_:=read_pos hq10
 refine Alc he hm fun b21 w hm a he =>?_
 refine Sto 0 he hm fun w hm a he =>?_
 refine z1n he hm fun a he =>?_
 refine Sto 1 he hm fun w hm a he =>?_
 refine go he hm fun a he =>?_
 have hmr:=hm
 replace hm:=hm.dl [1,0]
 refine hQ _ _ _ (z8v (i:=1) (cs:=[.slice none 0 0,.slice none 0 0,.slice none 0 0,.slice none 0 0]) he hmr.toSees results25 rfl rfl isAgg27 sizeOf27 rfl rfl rfl ?_)
 show Out (z9y t) _ _
 rw [parse_text h5 hq10]
 exact ⟨rfl,hm⟩
end Go.Sw

namespace Go.Sw
open Go.Proofs
set_option maxRecDepth 100000
set_option maxRecDepth 100000
def sameTs:List Bs→List Bs→Bool
 | [],_=>true
 | _::_,[]=>true
 | x::xs,y::ys=>decide (x=y)&&sameTs xs ys
def sameT (l m:List Bs):Bool:=decide (l.length=m.length)&&sameTs l m
def sameP1 (x y:Param):Bool:=decide (x.name=y.name)&&decide (x.type=y.type)
def samePs:List Param→List Param→Bool
 | [],_=>true
 | _::_,[]=>true
 | x::xs,y::ys=>sameP1 x y&&samePs xs ys
def sameP (l m:List Param):Bool:=decide (l.length=m.length)&&samePs l m
def sameKs:List Con→List Con→Bool
 | [],_=>true
 | _::_,[]=>true
 | x::xs,y::ys=>(decide (x.name=y.name)&&sameT x.fields y.fields)&&sameKs xs ys
def sameD (v u:Data):Bool:=(decide (v.name=u.name)&&decide (v.cons.length=u.cons.length))&&sameKs v.cons u.cons
mutual
def y2a:Ex→Ex→Bool
 | .mk k n s a r,e=>((((decide (k=e.kind)&&decide (n=e.num))&&decide (s=e.name))&&decide (a.length=e.args.length))&&decide (r.length=e.arms.length))&&(sameXs a e.args&&sameAs r e.arms)
def sameXs:List Ex→List Ex→Bool
 | [],_=>true
 | _::_,[]=>true
 | x::xs,y::ys=>y2a x y&&sameXs xs ys
def sameAs:List Arm→List Arm→Bool
 | [],_=>true
 | _::_,[]=>true
 | .mk c vs b::xs,y::ys=>((decide (c=y.con)&&sameT vs y.vars)&&y2a b y.body)&&sameAs xs ys
end
def sameDs:List Data→List Data→Bool
 | [],_=>true
 | _::_,[]=>true
 | x::xs,y::ys=>sameD x y&&sameDs xs ys
def sameF1 (x y:Fun):Bool:=((decide (x.name=y.name)&&decide (x.result=y.result))&&sameP x.params y.params)&&y2a x.body y.body
def sameFs:List Fun→List Fun→Bool
 | [],_=>true
 | _::_,[]=>true
 | x::xs,y::ys=>sameF1 x y&&sameFs xs ys
def sameC (v u:Core):Bool:=(((decide (v.datas.length=u.datas.length)&&sameP v.inputs u.inputs)&&decide (v.funs.length=u.funs.length))&&sameT v.outputs u.outputs)&&(sameDs v.datas u.datas&&sameFs v.funs u.funs)
theorem sameX_eq (v u:Ex):y2a v u=(((((decide (v.kind=u.kind)&&decide (v.num=u.num))&&decide (v.name=u.name))&&decide (v.args.length=u.args.length))&&decide (v.arms.length=u.arms.length))&&(sameXs v.args u.args&&sameAs v.arms u.arms)):=by
 cases v;cases u;rw [y2a];rfl
theorem sameTs_cons (x y:Bs) (xs ys:List Bs):sameTs (x::xs) (y::ys)=(decide (x=y)&&sameTs xs ys):=rfl
theorem sameTs_nil (ys:List Bs):sameTs [] ys=true:=rfl
theorem samePs_cons (x y:Param) (xs ys:List Param):samePs (x::xs) (y::ys)=(sameP1 x y&&samePs xs ys):=rfl
theorem samePs_nil (ys:List Param):samePs [] ys=true:=rfl
theorem sameKs_cons (x y:Con) (xs ys:List Con):sameKs (x::xs) (y::ys)=((decide (x.name=y.name)&&sameT x.fields y.fields)&&sameKs xs ys):=rfl
theorem sameKs_nil (ys:List Con):sameKs [] ys=true:=rfl
theorem sameXs_cons (x y:Ex) (xs ys:List Ex):sameXs (x::xs) (y::ys)=(y2a x y&&sameXs xs ys):=by simp only [sameXs]
theorem sameXs_nil (ys:List Ex):sameXs [] ys=true:=by simp only [sameXs]
theorem sameAs_cons (x y:Arm) (xs ys:List Arm):sameAs (x::xs) (y::ys)=(((decide (x.con=y.con)&&sameT x.vars y.vars)&&y2a x.body y.body)&&sameAs xs ys):=by cases x;rw [sameAs];rfl
theorem sameAs_nil (ys:List Arm):sameAs [] ys=true:=by simp only [sameAs]
theorem sameDs_cons (x y:Data) (xs ys:List Data):sameDs (x::xs) (y::ys)=(sameD x y&&sameDs xs ys):=rfl
theorem sameDs_nil (ys:List Data):sameDs [] ys=true:=rfl
theorem z8w (x y:Fun) (xs ys:List Fun):sameFs (x::xs) (y::ys)=(sameF1 x y&&sameFs xs ys):=rfl
theorem sameFs_nil (ys:List Fun):sameFs [] ys=true:=rfl
theorem sameTs_refl:∀l:List Bs,sameTs l l=true
 | []=>rfl
 | x::xs=>by rw [sameTs_cons,sameTs_refl xs];simp
theorem sameT_refl (l:List Bs):sameT l l=true:=by simp [sameT,sameTs_refl]
theorem samePs_refl:∀l:List Param,samePs l l=true
 | []=>rfl
 | x::xs=>by rw [samePs_cons,samePs_refl xs];simp [sameP1]
theorem sameP_refl (l:List Param):sameP l l=true:=by simp [sameP,samePs_refl]
theorem sameKs_refl:∀l:List Con,sameKs l l=true
 | []=>rfl
 | x::xs=>by rw [sameKs_cons,sameKs_refl xs,sameT_refl];simp
theorem sameD_refl (d:Data):sameD d d=true:=by simp [sameD,sameKs_refl]
mutual
theorem sameX_refl:∀v:Ex,y2a v v=true
 | .mk k n s a r=>by simp only [y2a,Ex.kind,Ex.num,Ex.name,Ex.args,Ex.arms,decide_true,Bool.true_and,sameXs_refl a,sameAs_refl r]
theorem sameXs_refl:∀l:List Ex,sameXs l l=true
 | []=>by simp only [sameXs]
 | x::xs=>by rw [sameXs_cons,sameX_refl x,sameXs_refl xs];rfl
theorem sameAs_refl:∀l:List Arm,sameAs l l=true
 | []=>by simp only [sameAs]
 | .mk c vs b::xs=>by simp only [sameAs,Arm.con,Arm.vars,Arm.body,decide_true,Bool.true_and,sameT_refl vs,sameX_refl b,sameAs_refl xs]
end
theorem sameDs_refl:∀l:List Data,sameDs l l=true
 | []=>rfl
 | x::xs=>by rw [sameDs_cons,sameD_refl,sameDs_refl xs];rfl
theorem sameFs_refl:∀l:List Fun,sameFs l l=true
 | []=>rfl
 | x::xs=>by rw [z8w,sameFs_refl xs];simp [sameF1,sameP_refl,sameX_refl]
theorem sameC_refl (c:Core):sameC c c=true:=by simp [sameC,sameP_refl,sameT_refl,sameDs_refl,sameFs_refl]
theorem y_parEq {n:Nat} {E:List (Nat×Value)} {D:List Deferred} {a:Act} {w:World} {ty t':TypeId} {x y:Operand} {s u s' u':Bs} (he:EnvR n E D a) (hx:ev E x=some (.agg (List.toArray [.string s,.string u]))) (hy:ev E y=some (.agg (List.toArray [.string s',.string u']))) :
  Ok Tryz.prog a (.binOp .eql 72 x y t') ty w (.bool (decide (s=s')&&decide (u=u'))):=by
 refine y1e he hx hy (run_eqGuard_agg _ _ _ _ _ _ _ (by kernel_rfl)) ?_
 have hf:Tryz.prog.underlying 72=some (.struct (Tryz.prog.fieldsOf 72)):=by kernel_rfl
 have h9:Tryz.prog.underlying 9=some .string:=by kernel_rfl
 obtain ⟨f0,f1,h0,h1,h2⟩:∃f0 f1,(Tryz.prog.fieldsOf 72).toList=[f0,f1]∧(f0.name ≠ "_" ∧ f0.type=9∧f0.offset=0)∧(f1.name ≠ "_" ∧ f1.type=9∧f1.offset=1) :=
  ⟨_,_,rfl,⟨by decide,rfl,rfl⟩,by decide,rfl,rfl⟩
 rw [run_eql_struct,run_equalIn_agg _ _ _ _ _ hf (by kernel_rfl),h0]
 have hp:∀(l:List Value) (i:Nat) (v:Value),l[i]? = some v→(part 9 (List.toArray l) i).run Tryz.prog w=.ok v w:=fun l i v h=>by
  simp [part,isAgg,run_underlying h9,h]
 simp only [Op.eqFields,h1.1,h2.1,h1.2.1,h1.2.2,h2.2.1,h2.2.2,ne_eq,not_false_eq_true,if_true,Sem.run_bind,hp [.string s,.string u] 0 _ rfl,hp [.string s',.string u'] 0 _ rfl,hp [.string s,.string u] 1 _ rfl,hp [.string s',.string u'] 1 _ rfl,Result.andThen_ok,run_equalIn_string _ _ _ _ _ h9,toList_beq]
 by_cases e1:s=s'
 ·have q1:=hp [.string s',.string u] 1 _ rfl
  have q2:=hp [.string s',.string u'] 1 _ rfl
  by_cases e2:u=u' <;> simp [e1,e2,Sem.run_ite,Sem.run_bind,q1,q2,run_equalIn_string _ _ _ _ _ h9,toList_beq,Result.andThen]
 ·simp [e1]
end Go.Sw

namespace Go.Sw
open Go.Proofs
mutual
def sameV:Val→Val→Bool
 | .mk c n l,v=>decide (c=v.con)&&decide (n=v.num)&&decide (l.length=v.args.length)&&sameVs l v.args
def sameVs:List Val→List Val→Bool
 | [],_=>true
 | _::_,[]=>true
 | x::xs,y::ys=>sameV x y&&sameVs xs ys
end
theorem sameVs_cons (x y:Val) (xs ys:List Val):sameVs (x::xs) (y::ys)=(sameV x y&&sameVs xs ys):=by simp only [sameVs]
def sameNs:List Named→List Named→Bool
 | [],_=>true
 | _::_,[]=>true
 | x::xs,y::ys=>(decide (x.name=y.name)&&sameV x.value y.value)&&sameNs xs ys
theorem sameNs_cons (x y:Named) (xs ys:List Named):sameNs (x::xs) (y::ys)=((decide (x.name=y.name)&&sameV x.value y.value)&&sameNs xs ys):=rfl
def y0t (fs:List Fun) (ds:List Bs):List Bs:=(fs.filter fun f=>has ds f.name).map Fun.name
theorem named_yes {f:Fun} {fs:List Fun} {ds:List Bs} (h:has ds f.name=true):y0t (f::fs) ds=f.name::y0t fs ds:=by simp [y0t,h]
theorem named_no {f:Fun} {fs:List Fun} {ds:List Bs} (h:has ds f.name=false):y0t (f::fs) ds=y0t fs ds:=by simp [y0t,h]
theorem named_nil {ds:List Bs}:y0t [] ds=[]:=rfl
end Go.Sw

namespace Go.Sw
open Go.Proofs
set_option maxRecDepth 20000
set_option maxHeartbeats 4000000
def textB:Bs:=⟨#[100,97,116,97,32,76,105,115,116,32,61,32,78,105,108,32,124,32,67,111,110,115,32,73,110,116,32,76,105,115,116,10,105,110,112,117,116,32,120,115,32,58,32,76,105,115,116,10,102,117,110,32,115,117,109,32,40,108,32,58,32,76,105,115,116,41,32,58,32,73,110,116,32,61,32,40,99,97,115,101,32,108,32,40,78,105,108,32,45,62,32,48,41,32,40,67,111,110,115,32,104,32,116,32,45,62,32,40,43,32,104,32,40,115,117,109,32,116,41,41,41,41,10,102,117,110,32,116,111,116,97,108,32,58,32,73,110,116,32,61,32,40,115,117,109,32,33,120,115,41,10,102,117,110,32,108,101,115,115,32,40,97,32,58,32,73,110,116,41,32,40,98,32,58,32,73,110,116,41,32,58,32,73,110,116,32,61,32,40,99,97,115,101,32,40,60,32,97,32,98,41,32,40,70,97,108,115,101,32,45,62,32,48,41,32,40,84,114,117,101,32,45,62,32,49,41,41,10,111,117,116,112,117,116,32,116,111,116,97,108,10]⟩
theorem text_ok {Φ:Fz} {K:List Res} {w:World} (hm:Mem Φ K w):Calls Tryz.prog 57 (List.toArray []) w (fun ee w'=>ee=.returned (.string textB)∧Mem Φ K w'):=by
 refine z0m Tryz.func57 Tryz.ntmps57 fun Q hQ a he =>?_
 refine Ret1 hQ he hm ?_
 exact ⟨rfl,hm⟩
theorem isInputType_ok {Φ:Fz} {K:List Res} {w:World} {u0 u1 u2 u3:Value} {ds:List Data} {name:Bs} (r0:SliceOf RData Φ 2 u0 ds) (hm:Mem Φ K w) :
  Calls Tryz.prog 58 (List.toArray [.agg (List.toArray [u0,u1,u2,u3]),.string name]) w (fun ee w'=>ee=.returned (.bool (z2i ds name))∧Mem Φ K w'):=by
 obtain ⟨p0,q0,rfl,hm0,hn0⟩:=r0.fm
 refine z0m Tryz.func58 Tryz.ntmps58 fun Q hQ a he =>?_
 refine Bx he hm fun b2 w hm a he =>?_
 refine z0x Tryz.call114 he hm (fun w hm a he =>?_) (c:=inputType_ok r0 hm)
 refine go he hm fun a he =>?_
 replace hm:=hm.dl [0]
 refine Ret1 hQ he hm ?_
 exact ⟨rfl,hm⟩
end Go.Sw

namespace Go.Sw
open Go.Proofs
set_option maxRecDepth 20000
set_option maxHeartbeats 4000000
end Go.Sw

namespace Go.Sw
open Go.Proofs
set_option maxRecDepth 20000
set_option maxHeartbeats 4000000
end Go.Sw

namespace Go.Sw
open Go.Proofs
set_option maxRecDepth 20000
set_option maxHeartbeats 4000000
theorem sameTexts_ok {Φ:Fz} {K:List Res} {w:World} {v0:Value} {v:List Bs} {v1:Value} {u:List Bs} (rpv:SliceOf RStr Φ 1 v0 v) (rpu:SliceOf RStr Φ 1 v1 u) (hm:Mem Φ K w) :
  Calls Tryz.prog 42 (List.toArray [v0,v1]) w (fun ee w'=>ee=.returned (.bool (sameT v u))∧Mem Φ K w'):=by
 obtain ⟨p0,c0,rfl,hm0,hn0⟩:=rpv.fm
 obtain ⟨p1,c1,rfl,hm1,hn1⟩:=rpu.fm
 refine z0m Tryz.func42 Tryz.ntmps42 fun Q hQ a he =>?_
 refine sq fun L1 hL1 =>?_
 refine go0 he hm fun a he =>?_
 refine hL1 _ _ ?_
 refine sq fun L2 hL2 =>?_
 have hJ3:∀a w,(∃(o:Bool),EnvR 31 [(0,.slice p0 v.length c0),(1,.slice p1 u.length c1),(5,.bool o)] [] a∧Mem Φ (K) w∧(o=decide (v.length=u.length)))→L2 a w:=by
  clear hm he
  rintro a w ⟨o,he,hm,hI4⟩
  refine hL2 _ _ ?_
  refine sq fun L5 hL5 =>?_
  refine sq fun L6 hL6 =>?_
  refine go0 he hm fun a he =>?_
  refine hL6 _ _ ?_
  refine go0 he hm fun a he =>?_
  refine z1l (he.ks [0,1]) hm (fun R mm a w=>∃(i:Nat) (o:Bool),mm=v.length - i∧R Φ [(5,.bool o),(6,.int .i64 ((i:Nat):Int))] [] a w∧(sameT v u=(o&&sameTs (v.drop i) (u.drop i))∧(o=true→v.length=u.length))) (v.length - 0) ⟨0,o,rfl,⟨he.pk,hm⟩,⟨by rw [hI4];rfl,fun h=>by rw [hI4] at h;simp only [decide_eq_true_eq] at h;exact h⟩⟩ ?_
  clear hm he
  rintro mm a w ⟨i,o,hmu,⟨he,hm⟩,hI8⟩ L7 hL7
  obtain ⟨hI_,hln_⟩:=hI8
  refine sq fun L9 hL9 =>?_
  refine sq fun L10 hL10 =>?_
  refine go0 he hm fun a he =>?_
  by_cases h11:i < v.length
  refine go0 he hm fun a he =>?_
  refine hL10 _ _ ?_
  cases o
  refine go0 he hm fun a he =>?_
  refine hL5 _ _ ?_
  refine sq fun L12 hL12 =>?_
  refine go0 he hm fun a he =>?_
  refine hL12 _ _ ?_
  refine go0 he hm fun a he =>?_
  refine Ret1 hQ he hm ?_
  exact z0w hm (by rw [hI_,Bool.false_and])
  refine go0 he hm fun a he =>?_
  refine hL9 _ _ ?_
  refine sq fun L13 hL13 =>?_
  refine go0 he hm fun a he =>?_
  refine Reg [1,1,1,2,1,1,1,2,1,1] [] he hm fun w hm a he =>?_
  have hlt14:i < u.length:=by rw [← hln_ rfl];exact h11
  refine go0 he hm fun a he =>?_
  obtain ⟨q15,rfl,x16,hx17,cs18,hl19,ha20,hr21⟩:=rpv.el hn0 h11
  obtain rfl:cs18=[.string x16]:=hr21
  refine go0 he hm fun a he =>?_
  obtain ⟨q22,rfl,x23,hx24,cs25,hl26,ha27,hr28⟩:=rpu.el hn1 hlt14
  obtain rfl:cs25=[.string x23]:=hr28
  refine go0 he hm fun a he =>?_
  by_cases h29:x16=x23
  refine go0 he hm fun a he =>?_
  refine hL13 _ _ ?_
  refine go0 he hm fun a he =>?_
  refine hL7 _ _ _ (by subst hmu;omega) ⟨(i+1),(true),rfl,⟨he.pk,hm⟩,?_⟩
  exact ⟨by rw [hI_,z0a hx17,z0a hx24,sameTs_cons,Bool.true_and];simp [h29],fun _=>hln_ rfl⟩
  refine go0 he hm fun a he =>?_
  refine hL13 _ _ ?_
  refine go0 he hm fun a he =>?_
  refine hL7 _ _ _ (by subst hmu;omega) ⟨(i+1),(false),rfl,⟨he.pk,hm⟩,?_⟩
  exact ⟨by rw [hI_,z0a hx17,z0a hx24,sameTs_cons,Bool.true_and];simp [h29],fun _=>hln_ rfl⟩
  refine go0 he hm fun a he =>?_
  refine hL10 _ _ ?_
  refine go0 he hm fun a he =>?_
  refine hL5 _ _ ?_
  refine sq fun L30 hL30 =>?_
  refine go0 he hm fun a he =>?_
  refine hL30 _ _ ?_
  refine go0 he hm fun a he =>?_
  refine Ret1 hQ he hm ?_
  exact z0w hm (by rw [hI_,z0g h11,sameTs_nil,Bool.and_true])
 refine go0 he hm fun a he =>?_
 by_cases h31:v.length=u.length
 refine go0 he hm fun a he =>?_
 exact hJ3 _ _ ⟨true,he.pk,hm,by simp [h31]⟩
 refine go0 he hm fun a he =>?_
 exact hJ3 _ _ ⟨false,he.pk,hm,by simp [h31]⟩
theorem sameParams_ok {Φ:Fz} {K:List Res} {w:World} {v0:Value} {v:List Param} {v1:Value} {u:List Param} (rpv:SliceOf RParam Φ 2 v0 v) (rpu:SliceOf RParam Φ 2 v1 u) (hm:Mem Φ K w) :
  Calls Tryz.prog 77 (List.toArray [v0,v1]) w (fun ee w'=>ee=.returned (.bool (sameP v u))∧Mem Φ K w'):=by
 obtain ⟨p0,c0,rfl,hm0,hn0⟩:=rpv.fm
 obtain ⟨p1,c1,rfl,hm1,hn1⟩:=rpu.fm
 refine z0m Tryz.func77 Tryz.ntmps77 fun Q hQ a he =>?_
 refine sq fun L1 hL1 =>?_
 refine go0 he hm fun a he =>?_
 refine hL1 _ _ ?_
 refine sq fun L2 hL2 =>?_
 have hJ3:∀a w,(∃(o:Bool),EnvR 31 [(0,.slice p0 v.length c0),(1,.slice p1 u.length c1),(5,.bool o)] [] a∧Mem Φ (K) w∧(o=decide (v.length=u.length)))→L2 a w:=by
  clear hm he
  rintro a w ⟨o,he,hm,hI4⟩
  refine hL2 _ _ ?_
  refine sq fun L5 hL5 =>?_
  refine sq fun L6 hL6 =>?_
  refine go0 he hm fun a he =>?_
  refine hL6 _ _ ?_
  refine go0 he hm fun a he =>?_
  refine z1l (he.ks [0,1]) hm (fun R mm a w=>∃(i:Nat) (o:Bool),mm=v.length - i∧R Φ [(5,.bool o),(6,.int .i64 ((i:Nat):Int))] [] a w∧(sameP v u=(o&&samePs (v.drop i) (u.drop i))∧(o=true→v.length=u.length))) (v.length - 0) ⟨0,o,rfl,⟨he.pk,hm⟩,⟨by rw [hI4];rfl,fun h=>by rw [hI4] at h;simp only [decide_eq_true_eq] at h;exact h⟩⟩ ?_
  clear hm he
  rintro mm a w ⟨i,o,hmu,⟨he,hm⟩,hI8⟩ L7 hL7
  obtain ⟨hI_,hln_⟩:=hI8
  refine sq fun L9 hL9 =>?_
  refine sq fun L10 hL10 =>?_
  refine go0 he hm fun a he =>?_
  by_cases h11:i < v.length
  refine go0 he hm fun a he =>?_
  refine hL10 _ _ ?_
  cases o
  refine go0 he hm fun a he =>?_
  refine hL5 _ _ ?_
  refine sq fun L12 hL12 =>?_
  refine go0 he hm fun a he =>?_
  refine hL12 _ _ ?_
  refine go0 he hm fun a he =>?_
  refine Ret1 hQ he hm ?_
  exact z0w hm (by rw [hI_,Bool.false_and])
  refine go0 he hm fun a he =>?_
  refine hL9 _ _ ?_
  refine sq fun L13 hL13 =>?_
  refine go0 he hm fun a he =>?_
  refine Reg [1,1,1,2,1,1,1,2,1,1] [] he hm fun w hm a he =>?_
  have hlt14:i < u.length:=by rw [← hln_ rfl];exact h11
  refine go0 he hm fun a he =>?_
  obtain ⟨q15,rfl,x16,hx17,cs18,hl19,ha20,hr21⟩:=rpv.el hn0 h11
  obtain rfl:=id hr21
  refine go0 he hm fun a he =>?_
  obtain ⟨q22,rfl,x23,hx24,cs25,hl26,ha27,hr28⟩:=rpu.el hn1 hlt14
  obtain rfl:=id hr28
  refine go0 he hm fun a he =>?_
  refine Qq he hm (fun a he =>?_) (o:=by exact fun _ _ _ he hs=>y_parEq he rfl rfl)
  refine go0 he hm fun a he =>?_
  refine hL13 _ _ ?_
  refine go0 he hm fun a he =>?_
  refine hL7 _ _ _ (by subst hmu;omega) ⟨(i+1),((decide (x16.name=x23.name)&&decide (x16.type=x23.type))),rfl,⟨he.pk,hm⟩,?_⟩
  exact ⟨by rw [hI_,z0a hx17,z0a hx24,samePs_cons,Bool.true_and];rfl,fun _=>hln_ rfl⟩
  refine go0 he hm fun a he =>?_
  refine hL10 _ _ ?_
  refine go0 he hm fun a he =>?_
  refine hL5 _ _ ?_
  refine sq fun L29 hL29 =>?_
  refine go0 he hm fun a he =>?_
  refine hL29 _ _ ?_
  refine go0 he hm fun a he =>?_
  refine Ret1 hQ he hm ?_
  exact z0w hm (by rw [hI_,z0g h11,samePs_nil,Bool.and_true])
 refine go0 he hm fun a he =>?_
 by_cases h30:v.length=u.length
 refine go0 he hm fun a he =>?_
 exact hJ3 _ _ ⟨true,he.pk,hm,by simp [h30]⟩
 refine go0 he hm fun a he =>?_
 exact hJ3 _ _ ⟨false,he.pk,hm,by simp [h30]⟩
end Go.Sw
