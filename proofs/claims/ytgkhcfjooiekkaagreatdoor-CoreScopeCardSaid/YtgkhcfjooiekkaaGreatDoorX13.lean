import Derived.Test.YtgkhcfjooiekkaaGreatDoorProg
import Derived.Test.YtgkhcfjooiekkaaGreatDoorX04
import Derived.Test.YtgkhcfjooiekkaaGreatDoorX06
import Derived.Test.YtgkhcfjooiekkaaGreatDoorX12
set_option linter.unusedVariables false
set_option linter.unusedSimpArgs false
namespace Go.Sw
open Go.Proofs.Tryz
open Go.Proofs
set_option maxRecDepth 20000
set_option maxHeartbeats 4000000
theorem rform_ok {Φ:Fz} {K:List Res} {w:World} {r i:Nat} {rs:Value} {ws:List Bs} {d:Nat} (hd:d≤1000) (hE:ExprOk ws d) (G:Glob Φ) (rl:SliceOf RStr Φ 1 rs ws) (hws:ws.length≤1000000) (hi:i≤ws.length) (hm:Mem Φ (.blk r (ob [rs,.int .i64 ((i:Nat):Int)] 208)::K) w) :
  Calls Tryz.prog 206 (List.toArray [.pointer (some ⟨r,0,none⟩),.int .i64 ((d+1:Nat):Int)]) w (fun ee w'=>Out (z1z ws (z0q ws d) i) (fun x=>∃y:Fz×List Value,ee=.returned (.agg y.2.toArray)∧(Φ.Le y.1∧REx y.1 y.2 x.1)∧Mem y.1 (.blk r (ob [rs,.int .i64 ((x.2:Nat):Int)] 208)::K) w') (fun c=>ee=.panicked (z8s c)∧Mem Φ K w')):=by
 obtain ⟨pw,cw,rfl,hmw,hnw⟩:=rl.fm
 refine z0l func206 ntmps206 fun Q hQ a he =>?_
 refine sq fun L1 hL1 =>?_
 refine go0 he hm fun a he =>?_
 refine Alc he hm fun b2 w hm a he =>?_
 refine go0 he hm fun a he =>?_
 refine hL1 _ _ ?_
 refine sq fun L3 hL3 =>?_
 refine go0 he hm fun a he =>?_
 replace hm:=hm.pl 1
 refine z0y call179 he hm (fun w hm a he =>?_) (c:=z6h (i:=i) rl hws (by omega) hm)
 refine go0 he hm fun a he =>?_
 refine hL3 _ _ ?_
 refine sq fun L4 hL4 =>?_
 refine sq fun L5 hL5 =>?_
 refine go0 he hm fun a he =>?_
 refine hL5 _ _ ?_
 refine go0 he hm fun a he =>?_
 refine sq fun L6 hL6 =>?_
 have hJ7:∀a w,(EnvR 125 [(0,.pointer (some ⟨r,0,none⟩)),(1,.int .i64 ((d+1:Nat):Int)),(4,.pointer (some ⟨b2,0,none⟩)),(5,.string (z0e ws i)),(12,.string (z0e ws i)),(13,.bool (isOpB (z0e ws i)))] [] a∧Mem Φ (.blk r (ob [.slice pw ws.length cw,.int .i64 ((i:Nat):Int)] 208)::.blk b2 (ob [.int .i64 ((0:Nat):Int),.int .i64 ((0:Nat):Int),.string ⟨#[]⟩,.slice none 0 0,.slice none 0 0] 66)::K) w∧(True))→L6 a w:=by
  clear hm he
  rintro a w ⟨he,hm,hI8⟩
  refine hL6 _ _ ?_
  generalize hb10:(isOpB (z0e ws i))=bb9 at he
  cases bb9
  refine go0 he hm fun a he =>?_
  refine sq fun L11 hL11 =>?_
  refine go0 he hm fun a he =>?_
  by_cases h12:(z0e ws i)=(⟨#[108,101,116]⟩:ByteArray)
  refine go0 he hm fun a he =>?_
  refine hL11 _ _ ?_
  refine go0 he hm fun a he =>?_
  refine sq fun L13 hL13 =>?_
  refine go0 he hm fun a he =>?_
  have hlt_:=peek_eq_lt h12 (by decide)
  refine go0 he hm fun a he =>?_
  refine Sto 0 he hm fun w hm a he =>?_
  refine go0 he hm fun a he =>?_
  refine hL13 _ _ ?_
  refine sq fun L14 hL14 =>?_
  refine go0 he hm fun a he =>?_
  refine z3b hQ call129 he hm (fun q15 w hq16 hm a he =>?_) (fun q15 w hq16 hm =>?_) (c:=z7p G (i:=(i+1)) rl hws (by omega) hm)
  have hleq15:=z2q hq16
  refine go0 he hm fun a he =>?_
  refine hL14 _ _ ?_
  refine sq fun L17 hL17 =>?_
  refine go0 he hm fun a he =>?_
  refine z4u hQ call218 he hm (fun q18 y19 w hq20 hG21 hm a he =>?_) (fun q18 w hq20 hm =>?_) (c:=rtwo_ok hd hE G (i:=q15.2) rl hws (by omega) hm)
  obtain ⟨Ψ22,d23⟩:=y19
  obtain ⟨le24,hr25⟩:=hG21
  simp only at le24 hr25 hm he
  have hgo26:=two_le hq20
  replace rl:=rl.up le24
  replace G:=G.mono le24
  replace hm:=hm.nf
  obtain ⟨p27,c28,rfl,hmx29,hn30⟩:=hr25.fm
  refine z1h he hm fun a he =>?_
  refine Sto 1 he hm fun w hm a he =>?_
  refine go0 he hm fun a he =>?_
  refine hL17 _ _ ?_
  refine go0 he hm fun a he =>?_
  have hmr:=hm
  replace hm:=hm.dl [1]
  refine RetA hQ he hmr ?_
  show Out (z1z ws (z0q ws d) i) _ _
  rw [show z1z ws (z0q ws d) i=.ok (.mk 6 0 q15.1 q18.1 [],q18.2) from (form_let hb10 h12).trans ((z0b hq16).trans ((z0b hq20).trans (rfl)))]
  exact ⟨(Ψ22,_),rfl,⟨le24,REx.node hr25⟩,hm⟩
  replace hm:=hm.dl [0]
  show Out (z1z ws (z0q ws d) i) _ _
  rw [show z1z ws (z0q ws d) i=.error _ from (form_let hb10 h12).trans ((z0b hq16).trans (z0j hq20))]
  exact ⟨rfl,hm.le (Fz.Le.refl _)⟩
  replace hm:=hm.dl [0]
  show Out (z1z ws (z0q ws d) i) _ _
  rw [show z1z ws (z0q ws d) i=.error _ from (form_let hb10 h12).trans (z0j hq16)]
  exact ⟨rfl,hm.le (Fz.Le.refl _)⟩
  refine go0 he hm fun a he =>?_
  refine hL11 _ _ ?_
  refine go0 he hm fun a he =>?_
  refine sq fun L31 hL31 =>?_
  refine go0 he hm fun a he =>?_
  by_cases h32:(z0e ws i)=(⟨#[99,97,115,101]⟩:ByteArray)
  refine go0 he hm fun a he =>?_
  refine hL31 _ _ ?_
  refine go0 he hm fun a he =>?_
  refine sq fun L33 hL33 =>?_
  refine go0 he hm fun a he =>?_
  have hlt_:=peek_eq_lt h32 (by decide)
  refine go0 he hm fun a he =>?_
  refine Sto 0 he hm fun w hm a he =>?_
  refine go0 he hm fun a he =>?_
  refine hL33 _ _ ?_
  refine sq fun L34 hL34 =>?_
  refine go0 he hm fun a he =>?_
  refine Qq he hm (fun a he =>?_) (o:=by exact fun _ _ _ he hs=>z7h ((d:Nat):Int) he rfl rfl (by rw [z1d (by omega)];omega))
  refine z4u hQ call180 he hm (fun q35 y36 w hq37 hG38 hm a he =>?_) (fun q35 w hq37 hm =>?_) (c:=hE G rl (i:=(i+1)) (by omega) hm)
  obtain ⟨Ψ39,d40⟩:=y36
  obtain ⟨le41,hr42⟩:=hG38
  simp only at le41 hr42 hm he
  have hgo43:=z3n d _ _ hq37
  replace rl:=rl.up le41
  replace G:=G.mono le41
  replace hm:=hm.nf
  obtain ⟨p46,c47,p52,c53,rfl,hi56,h45,h51,hm48,hn49,hm54,hn55⟩:=REx.fm hr42
  refine BldS he hm fun v57 w hm a he =>?_
  have hm0_:=hm
  clear hm
  obtain ⟨Ψ58,le59,hm,hrow60⟩:=hm0_.freezeRow (i:=0) rfl
  clear hm0_
  replace rl:=rl.up le59
  replace G:=G.mono le59
  replace hr42:=REx.mono _ _ _ _ le59 hr42
  replace hm:=hm.nf
  have hsl61:SliceOf REx Ψ58 5 _ ([q35.1]):=⟨_,hrow60,(Chunks.one rfl hr42)⟩
  obtain ⟨p62,c63,hv_,hm64,hn65⟩:=hsl61.form (by decide)
  have hmk_:=hm
  clear hm
  subst hv_
  have hm:=hmk_
  clear hmk_
  refine z1h he hm fun a he =>?_
  refine Alc he hm fun b66 w hm a he =>?_
  refine Sto 0 he hm fun w hm a he =>?_
  refine go0 he hm fun a he =>?_
  refine hL34 _ _ ?_
  refine sq fun L67 hL67 =>?_
  refine go0 he hm fun a he =>?_
  replace hm:=hm.nilRow 195 7
  replace hm:=hm.nf
  refine z1i (he.ks [0,1,4,7]) hm (fun R mm a w=>∃(Ψ68:Fz) (j:Nat) (u:Value) (cs:List Value) (xs:List Arm) (f:Nat),mm=ws.length - j∧R Ψ68 [] [(0,.gs (u) 195 7 cs),(1,.blk b66 (ob [.int .i64 ((7:Nat):Int),.int .i64 ((0:Nat):Int),.string ⟨#[]⟩,.slice p62 ([q35.1]).length c63,u] 66)),(2,.blk r (ob [.slice pw ws.length cw,.int .i64 ((j:Nat):Int)] 208))] a w∧(Ψ58.Le Ψ68∧(Chunks (RArm Ψ68) 7 cs xs∧xs.length≤j∧j≤ws.length∧xs.length+f=ws.length+1∧armsP ws (z0q ws d) (ws.length+1) true q35.2=pre1 xs (armsP ws (z0q ws d) f (decide (xs.length=0)) j)))) (ws.length - q35.2) ⟨Ψ58,q35.2,.slice none 0 0,[],[],ws.length+1,rfl,⟨he.pk,hm⟩,⟨Fz.Le.refl _,⟨rfl,Nat.zero_le _,by omega,Nat.zero_add _,y0u _⟩⟩⟩ ?_
  clear hm he
  rintro mm a w ⟨Ψ68,j,u,cs,xs,f,hmu,⟨he,hm⟩,hI71⟩ L70 hL70
  replace hm:=hm.nf
  obtain ⟨le69,hI71⟩:=hI71
  replace rl:=rl.up le69
  replace G:=G.mono le69
  replace hr42:=REx.mono _ _ _ _ le69 hr42
  replace hsl61:=hsl61.up le69
  obtain ⟨hch,hxl,hj,hf_,hI_⟩:=hI71
  refine sq fun L72 hL72 =>?_
  refine sq fun L73 hL73 =>?_
  refine go0 he hm fun a he =>?_
  refine Qq he hm (fun a he =>?_) (o:=by exact fun _ _ _ he hs=>y_len_gs 0 (xs.length) he hs rfl rfl (hch.length) (by decide) runUnderlying64)
  by_cases h74:xs.length=0
  refine go0 he hm fun a he =>?_
  refine hL73 _ _ ?_
  refine go0 he hm fun a he =>?_
  refine hL72 _ _ ?_
  refine go0 he hm fun a he =>?_
  refine sq fun L75 hL75 =>?_
  refine go0 he hm fun a he =>?_
  replace hm:=hm.pl 2
  refine z3b hQ call177 he hm (fun q76 w hq77 hm a he =>?_) (fun q76 w hq77 hm =>?_) (c:=z5r (x:=(⟨#[40]⟩:ByteArray)) (i:=j) rl hws (by omega) hm)
  have hleq76:=z5q hq77
  refine go0 he hm fun a he =>?_
  refine hL75 _ _ ?_
  refine sq fun L78 hL78 =>?_
  refine go0 he hm fun a he =>?_
  refine z3b hQ call176 he hm (fun q79 w hq80 hm a he =>?_) (fun q79 w hq80 hm =>?_) (c:=rcon_ok G (i:=q76.2) rl hws (by omega) hm)
  have hleq79:=z2q hq80
  refine z1h he hm fun a he =>?_
  refine Alc he hm fun b81 w hm a he =>?_
  refine Sto 0 he hm fun w hm a he =>?_
  refine go0 he hm fun a he =>?_
  refine hL78 _ _ ?_
  refine sq fun L82 hL82 =>?_
  refine go0 he hm fun a he =>?_
  replace hm:=hm.nilRow 9 1
  replace hm:=hm.nf
  refine z1i (he.ks [0,1,4,7,8]) hm (fun R mm a w=>∃(j2:Nat) (u2:Value) (vs:List Bs) (f2:Nat),mm=ws.length - j2∧R Ψ68 [] [(0,.gs (u2) 9 1 (strs vs)),(1,.blk b81 (ob [.string q79.1,u2,.int .i64 ((0:Nat):Int),.int .i64 ((0:Nat):Int),.string ⟨#[]⟩,.slice none 0 0,.slice none 0 0] 195)),(2,.blk r (ob [.slice pw ws.length cw,.int .i64 ((j2:Nat):Int)] 208))] a w∧(vs.length≤j2∧j < j2∧j2≤ws.length∧vs.length+f2=ws.length+1∧varsP ws (ws.length+1) q79.2=pre1 vs (varsP ws f2 j2))) (ws.length - q79.2) ⟨q79.2,.slice none 0 0,[],ws.length+1,rfl,⟨he.pk,hm⟩,⟨Nat.zero_le _,by omega,by omega,Nat.zero_add _,y0u _⟩⟩ ?_
  clear hm he
  rintro mm a w ⟨j2,u2,vs,f2,hmu,⟨he,hm⟩,hI84⟩ L83 hL83
  replace hm:=hm.nf
  obtain ⟨hvl,hj2,hj3,hf2_,hV_⟩:=hI84
  refine sq fun L85 hL85 =>?_
  refine sq fun L86 hL86 =>?_
  refine go0 he hm fun a he =>?_
  replace hm:=hm.pl 2
  refine z0y call179 he hm (fun w hm a he =>?_) (c:=z6h (i:=j2) rl hws (by omega) hm)
  by_cases h87:(z0e ws j2)=(⟨#[45,62]⟩:ByteArray)
  refine go0 he hm fun a he =>?_
  refine hL86 _ _ ?_
  refine go0 he hm fun a he =>?_
  refine hL82 _ _ ?_
  refine sq fun L88 hL88 =>?_
  refine go0 he hm fun a he =>?_
  have hm0_:=hm
  clear hm
  obtain ⟨Ψ89,le90,hm,hrow91⟩:=hm0_.freezeRow (i:=1) rfl
  clear hm0_
  replace rl:=rl.up le90
  replace G:=G.mono le90
  replace hr42:=REx.mono _ _ _ _ le90 hr42
  replace hsl61:=hsl61.up le90
  replace hch:=hch.mono fun _ _ h=>RArm.mono _ _ _ _ le90 h
  replace hm:=hm.nf
  have hsl92:SliceOf RStr Ψ89 1 _ (vs):=SliceOf.strs.2 hrow91
  obtain ⟨p93,c94,hv_,hm95,hn96⟩:=hsl92.form (by decide)
  have hmk_:=hm
  clear hm
  subst hv_
  have hm:=hmk_
  clear hmk_
  have hv97:=vars_fin hV_ (by omega) h87
  refine go0 he hm fun a he =>?_
  refine z3b hQ call177 he hm (fun q98 w hq99 hm a he =>?_) (fun q98 w hq99 hm =>?_) (c:=z5r (x:=(⟨#[45,62]⟩:ByteArray)) (i:=j2) rl hws (by omega) hm)
  have hleq98:=z5q hq99
  refine go0 he hm fun a he =>?_
  refine hL88 _ _ ?_
  refine sq fun L100 hL100 =>?_
  refine go0 he hm fun a he =>?_
  refine Qq he hm (fun a he =>?_) (o:=by exact fun _ _ _ he hs=>z7h ((d:Nat):Int) he rfl rfl (by rw [z1d (by omega)];omega))
  refine z4u hQ call180 he hm (fun q101 y102 w hq103 hG104 hm a he =>?_) (fun q101 w hq103 hm =>?_) (c:=hE G rl (i:=q98.2) (by omega) hm)
  obtain ⟨Ψ105,d106⟩:=y102
  obtain ⟨le107,hr108⟩:=hG104
  simp only at le107 hr108 hm he
  have hgo109:=z3n d _ _ hq103
  replace rl:=rl.up le107
  replace G:=G.mono le107
  replace hr42:=REx.mono _ _ _ _ le107 hr42
  replace hsl61:=hsl61.up le107
  replace hch:=hch.mono fun _ _ h=>RArm.mono _ _ _ _ le107 h
  replace hsl92:=hsl92.up le107
  replace hm:=hm.nf
  obtain ⟨p112,c113,p118,c119,rfl,hi122,h111,h117,hm114,hn115,hm120,hn121⟩:=REx.fm hr108
  refine go0 he hm fun a he =>?_
  refine Sto 1 he hm fun w hm a he =>?_
  refine go0 he hm fun a he =>?_
  refine hL100 _ _ ?_
  refine sq fun L123 hL123 =>?_
  refine go0 he hm fun a he =>?_
  refine z3b hQ call177 he hm (fun q124 w hq125 hm a he =>?_) (fun q124 w hq125 hm =>?_) (c:=z5r (x:=(⟨#[41]⟩:ByteArray)) (i:=q101.2) rl hws (by omega) hm)
  have hleq124:=z5q hq125
  refine go0 he hm fun a he =>?_
  refine hL123 _ _ ?_
  refine go0 he hm fun a he =>?_
  refine BldS he hm fun v126 w hm a he =>?_
  refine App_ 3 rt_64 he hm (fun v127 w hm a he =>?_)
  refine go0 he hm fun a he =>?_
  refine Sto 4 he hm fun w hm a he =>?_
  refine go0 he hm fun a he =>?_
  replace hm:=hm.ar [2,0] [3,1,3,3]
  refine hL70 _ _ _ (by subst hmu;omega) ⟨(Ψ105),(q124.2),(v127),((cs++[.string q79.1,.slice p93 (vs).length c94,.int .i64 (q101.1.kind),.int .i64 (q101.1.num),.string q101.1.name,.slice p112 q101.1.args.length c113,.slice p118 q101.1.arms.length c119])),(xs++[.mk q79.1 vs q101.1]),(f - 1),rfl,⟨he.pk,by exact hm⟩,?_⟩
  refine ⟨((le69).trans le90).trans le107,?_⟩
  exact ⟨hch.snoc (k:=7) rfl (RArm.of hsl92 hr108 (c:=q79.1)),by simp only [List.length_append,List.length_cons,List.length_nil];omega,by omega,by simp only [List.length_append,List.length_cons,List.length_nil];omega,arms_step (x:=(.mk q79.1 vs q101.1,q124.2)) hI_ (by omega) (.inl h74) ((z0b hq77).trans ((z0b hq80).trans ((z0b hv97).trans ((z0b hq99).trans ((z0b hq103).trans ((z0b hq125).trans (rfl)))))))⟩
  replace hm:=hm.dl [3,2,1,0]
  show Out (z1z ws (z0q ws d) i) _ _
  rw [show z1z ws (z0q ws d) i=.error _ from (z3e hb10 h12 h32).trans ((z0b hq37).trans (z0j (z4a hI_ (by omega) (.inl h74) ((z0b hq77).trans ((z0b hq80).trans ((z0b hv97).trans ((z0b hq99).trans ((z0b hq103).trans (z0j hq125)))))))))]
  exact ⟨rfl,hm.le (((((le41).trans le59).trans le69).trans le90).trans le107)⟩
  replace hm:=hm.dl [3,2,1,0]
  show Out (z1z ws (z0q ws d) i) _ _
  rw [show z1z ws (z0q ws d) i=.error _ from (z3e hb10 h12 h32).trans ((z0b hq37).trans (z0j (z4a hI_ (by omega) (.inl h74) ((z0b hq77).trans ((z0b hq80).trans ((z0b hv97).trans ((z0b hq99).trans (z0j hq103))))))))]
  exact ⟨rfl,hm.le ((((le41).trans le59).trans le69).trans le90)⟩
  replace hm:=hm.dl [3,2,1,0]
  show Out (z1z ws (z0q ws d) i) _ _
  rw [show z1z ws (z0q ws d) i=.error _ from (z3e hb10 h12 h32).trans ((z0b hq37).trans (z0j (z4a hI_ (by omega) (.inl h74) ((z0b hq77).trans ((z0b hq80).trans ((z0b hv97).trans (z0j hq99)))))))]
  exact ⟨rfl,hm.le ((((le41).trans le59).trans le69).trans le90)⟩
  refine go0 he hm fun a he =>?_
  refine hL86 _ _ ?_
  refine go0 he hm fun a he =>?_
  refine hL85 _ _ ?_
  refine go0 he hm fun a he =>?_
  refine Reg [1,2,1,0,0,0,1,0] [2,3,4,5] he hm fun w hm a he =>?_
  refine go0 he hm fun a he =>?_
  refine z3b hQ call129 he hm (fun q128 w hq129 hm a he =>?_) (fun q128 w hq129 hm =>?_) (c:=z7p G (i:=j2) rl hws (by omega) hm)
  have hleq128:=z2q hq129
  refine BldS he hm fun v130 w hm a he =>?_
  refine App_ 2 z9k he hm (fun v131 w hm a he =>?_) (hb:=by simp [z1m];omega)
  refine go0 he hm fun a he =>?_
  refine Sto 3 he hm fun w hm a he =>?_
  refine go0 he hm fun a he =>?_
  first | rw [z2u] at hm | rw [← z1l] at hm
  replace hm:=hm.ar [0] [5,5,5,3,5,5]
  refine hL83 _ _ _ (by subst hmu;omega) ⟨(q128.2),(v131),(vs++[q128.1]),(f2 - 1),rfl,⟨he.pk,by exact hm⟩,?_⟩
  exact ⟨by simp only [List.length_append,List.length_cons,List.length_nil];omega,by omega,by omega,by simp only [List.length_append,List.length_cons,List.length_nil];omega,vars_step hV_ (by omega) h87 hq129⟩
  replace hm:=hm.dl [4,3,2,1,0]
  show Out (z1z ws (z0q ws d) i) _ _
  rw [show z1z ws (z0q ws d) i=.error _ from (z3e hb10 h12 h32).trans ((z0b hq37).trans (z0j (z4a hI_ (by omega) (.inl h74) ((z0b hq77).trans ((z0b hq80).trans (z0j (vars_fail hV_ (by omega) h87 hq129)))))))]
  exact ⟨rfl,hm.le (((le41).trans le59).trans le69)⟩
  replace hm:=hm.dl [2,1,0]
  show Out (z1z ws (z0q ws d) i) _ _
  rw [show z1z ws (z0q ws d) i=.error _ from (z3e hb10 h12 h32).trans ((z0b hq37).trans (z0j (z4a hI_ (by omega) (.inl h74) ((z0b hq77).trans (z0j hq80)))))]
  exact ⟨rfl,hm.le (((le41).trans le59).trans le69)⟩
  replace hm:=hm.dl [2,1,0]
  show Out (z1z ws (z0q ws d) i) _ _
  rw [show z1z ws (z0q ws d) i=.error _ from (z3e hb10 h12 h32).trans ((z0b hq37).trans (z0j (z4a hI_ (by omega) (.inl h74) (z0j hq77))))]
  exact ⟨rfl,hm.le (((le41).trans le59).trans le69)⟩
  refine go0 he hm fun a he =>?_
  replace hm:=hm.pl 2
  refine z0y call179 he hm (fun w hm a he =>?_) (c:=z6h (i:=j) rl hws (by omega) hm)
  by_cases h132:(z0e ws j)=(⟨#[40]⟩:ByteArray)
  refine go0 he hm fun a he =>?_
  refine hL73 _ _ ?_
  refine go0 he hm fun a he =>?_
  refine hL72 _ _ ?_
  refine go0 he hm fun a he =>?_
  refine sq fun L133 hL133 =>?_
  refine go0 he hm fun a he =>?_
  refine z3b hQ call177 he hm (fun q134 w hq135 hm a he =>?_) (fun q134 w hq135 hm =>?_) (c:=z5r (x:=(⟨#[40]⟩:ByteArray)) (i:=j) rl hws (by omega) hm)
  have hleq134:=z5q hq135
  refine go0 he hm fun a he =>?_
  refine hL133 _ _ ?_
  refine sq fun L136 hL136 =>?_
  refine go0 he hm fun a he =>?_
  refine z3b hQ call176 he hm (fun q137 w hq138 hm a he =>?_) (fun q137 w hq138 hm =>?_) (c:=rcon_ok G (i:=q134.2) rl hws (by omega) hm)
  have hleq137:=z2q hq138
  refine z1h he hm fun a he =>?_
  refine Alc he hm fun b139 w hm a he =>?_
  refine Sto 0 he hm fun w hm a he =>?_
  refine go0 he hm fun a he =>?_
  refine hL136 _ _ ?_
  refine sq fun L140 hL140 =>?_
  refine go0 he hm fun a he =>?_
  replace hm:=hm.nilRow 9 1
  replace hm:=hm.nf
  refine z1i (he.ks [0,1,4,7,8]) hm (fun R mm a w=>∃(j2:Nat) (u2:Value) (vs:List Bs) (f2:Nat),mm=ws.length - j2∧R Ψ68 [] [(0,.gs (u2) 9 1 (strs vs)),(1,.blk b139 (ob [.string q137.1,u2,.int .i64 ((0:Nat):Int),.int .i64 ((0:Nat):Int),.string ⟨#[]⟩,.slice none 0 0,.slice none 0 0] 195)),(2,.blk r (ob [.slice pw ws.length cw,.int .i64 ((j2:Nat):Int)] 208))] a w∧(vs.length≤j2∧j < j2∧j2≤ws.length∧vs.length+f2=ws.length+1∧varsP ws (ws.length+1) q137.2=pre1 vs (varsP ws f2 j2))) (ws.length - q137.2) ⟨q137.2,.slice none 0 0,[],ws.length+1,rfl,⟨he.pk,hm⟩,⟨Nat.zero_le _,by omega,by omega,Nat.zero_add _,y0u _⟩⟩ ?_
  clear hm he
  rintro mm a w ⟨j2,u2,vs,f2,hmu,⟨he,hm⟩,hI142⟩ L141 hL141
  replace hm:=hm.nf
  obtain ⟨hvl,hj2,hj3,hf2_,hV_⟩:=hI142
  refine sq fun L143 hL143 =>?_
  refine sq fun L144 hL144 =>?_
  refine go0 he hm fun a he =>?_
  replace hm:=hm.pl 2
  refine z0y call179 he hm (fun w hm a he =>?_) (c:=z6h (i:=j2) rl hws (by omega) hm)
  by_cases h145:(z0e ws j2)=(⟨#[45,62]⟩:ByteArray)
  refine go0 he hm fun a he =>?_
  refine hL144 _ _ ?_
  refine go0 he hm fun a he =>?_
  refine hL140 _ _ ?_
  refine sq fun L146 hL146 =>?_
  refine go0 he hm fun a he =>?_
  have hm0_:=hm
  clear hm
  obtain ⟨Ψ147,le148,hm,hrow149⟩:=hm0_.freezeRow (i:=1) rfl
  clear hm0_
  replace rl:=rl.up le148
  replace G:=G.mono le148
  replace hr42:=REx.mono _ _ _ _ le148 hr42
  replace hsl61:=hsl61.up le148
  replace hch:=hch.mono fun _ _ h=>RArm.mono _ _ _ _ le148 h
  replace hm:=hm.nf
  have hsl150:SliceOf RStr Ψ147 1 _ (vs):=SliceOf.strs.2 hrow149
  obtain ⟨p151,c152,hv_,hm153,hn154⟩:=hsl150.form (by decide)
  have hmk_:=hm
  clear hm
  subst hv_
  have hm:=hmk_
  clear hmk_
  have hv155:=vars_fin hV_ (by omega) h145
  refine go0 he hm fun a he =>?_
  refine z3b hQ call177 he hm (fun q156 w hq157 hm a he =>?_) (fun q156 w hq157 hm =>?_) (c:=z5r (x:=(⟨#[45,62]⟩:ByteArray)) (i:=j2) rl hws (by omega) hm)
  have hleq156:=z5q hq157
  refine go0 he hm fun a he =>?_
  refine hL146 _ _ ?_
  refine sq fun L158 hL158 =>?_
  refine go0 he hm fun a he =>?_
  refine Qq he hm (fun a he =>?_) (o:=by exact fun _ _ _ he hs=>z7h ((d:Nat):Int) he rfl rfl (by rw [z1d (by omega)];omega))
  refine z4u hQ call180 he hm (fun q159 y160 w hq161 hG162 hm a he =>?_) (fun q159 w hq161 hm =>?_) (c:=hE G rl (i:=q156.2) (by omega) hm)
  obtain ⟨Ψ163,d164⟩:=y160
  obtain ⟨le165,hr166⟩:=hG162
  simp only at le165 hr166 hm he
  have hgo167:=z3n d _ _ hq161
  replace rl:=rl.up le165
  replace G:=G.mono le165
  replace hr42:=REx.mono _ _ _ _ le165 hr42
  replace hsl61:=hsl61.up le165
  replace hch:=hch.mono fun _ _ h=>RArm.mono _ _ _ _ le165 h
  replace hsl150:=hsl150.up le165
  replace hm:=hm.nf
  obtain ⟨p170,c171,p176,c177,rfl,hi180,h169,h175,hm172,hn173,hm178,hn179⟩:=REx.fm hr166
  refine go0 he hm fun a he =>?_
  refine Sto 1 he hm fun w hm a he =>?_
  refine go0 he hm fun a he =>?_
  refine hL158 _ _ ?_
  refine sq fun L181 hL181 =>?_
  refine go0 he hm fun a he =>?_
  refine z3b hQ call177 he hm (fun q182 w hq183 hm a he =>?_) (fun q182 w hq183 hm =>?_) (c:=z5r (x:=(⟨#[41]⟩:ByteArray)) (i:=q159.2) rl hws (by omega) hm)
  have hleq182:=z5q hq183
  refine go0 he hm fun a he =>?_
  refine hL181 _ _ ?_
  refine go0 he hm fun a he =>?_
  refine BldS he hm fun v184 w hm a he =>?_
  refine App_ 3 rt_64 he hm (fun v185 w hm a he =>?_)
  refine go0 he hm fun a he =>?_
  refine Sto 4 he hm fun w hm a he =>?_
  refine go0 he hm fun a he =>?_
  replace hm:=hm.ar [2,0] [3,1,3,3]
  refine hL70 _ _ _ (by subst hmu;omega) ⟨(Ψ163),(q182.2),(v185),((cs++[.string q137.1,.slice p151 (vs).length c152,.int .i64 (q159.1.kind),.int .i64 (q159.1.num),.string q159.1.name,.slice p170 q159.1.args.length c171,.slice p176 q159.1.arms.length c177])),(xs++[.mk q137.1 vs q159.1]),(f - 1),rfl,⟨he.pk,by exact hm⟩,?_⟩
  refine ⟨((le69).trans le148).trans le165,?_⟩
  exact ⟨hch.snoc (k:=7) rfl (RArm.of hsl150 hr166 (c:=q137.1)),by simp only [List.length_append,List.length_cons,List.length_nil];omega,by omega,by simp only [List.length_append,List.length_cons,List.length_nil];omega,arms_step (x:=(.mk q137.1 vs q159.1,q182.2)) hI_ (by omega) (.inr h132) ((z0b hq135).trans ((z0b hq138).trans ((z0b hv155).trans ((z0b hq157).trans ((z0b hq161).trans ((z0b hq183).trans (rfl)))))))⟩
  replace hm:=hm.dl [3,2,1,0]
  show Out (z1z ws (z0q ws d) i) _ _
  rw [show z1z ws (z0q ws d) i=.error _ from (z3e hb10 h12 h32).trans ((z0b hq37).trans (z0j (z4a hI_ (by omega) (.inr h132) ((z0b hq135).trans ((z0b hq138).trans ((z0b hv155).trans ((z0b hq157).trans ((z0b hq161).trans (z0j hq183)))))))))]
  exact ⟨rfl,hm.le (((((le41).trans le59).trans le69).trans le148).trans le165)⟩
  replace hm:=hm.dl [3,2,1,0]
  show Out (z1z ws (z0q ws d) i) _ _
  rw [show z1z ws (z0q ws d) i=.error _ from (z3e hb10 h12 h32).trans ((z0b hq37).trans (z0j (z4a hI_ (by omega) (.inr h132) ((z0b hq135).trans ((z0b hq138).trans ((z0b hv155).trans ((z0b hq157).trans (z0j hq161))))))))]
  exact ⟨rfl,hm.le ((((le41).trans le59).trans le69).trans le148)⟩
  replace hm:=hm.dl [3,2,1,0]
  show Out (z1z ws (z0q ws d) i) _ _
  rw [show z1z ws (z0q ws d) i=.error _ from (z3e hb10 h12 h32).trans ((z0b hq37).trans (z0j (z4a hI_ (by omega) (.inr h132) ((z0b hq135).trans ((z0b hq138).trans ((z0b hv155).trans (z0j hq157)))))))]
  exact ⟨rfl,hm.le ((((le41).trans le59).trans le69).trans le148)⟩
  refine go0 he hm fun a he =>?_
  refine hL144 _ _ ?_
  refine go0 he hm fun a he =>?_
  refine hL143 _ _ ?_
  refine go0 he hm fun a he =>?_
  refine Reg [1,2,1,0,0,0,1,0] [2,3,4,5] he hm fun w hm a he =>?_
  refine go0 he hm fun a he =>?_
  refine z3b hQ call129 he hm (fun q186 w hq187 hm a he =>?_) (fun q186 w hq187 hm =>?_) (c:=z7p G (i:=j2) rl hws (by omega) hm)
  have hleq186:=z2q hq187
  refine BldS he hm fun v188 w hm a he =>?_
  refine App_ 2 z9k he hm (fun v189 w hm a he =>?_) (hb:=by simp [z1m];omega)
  refine go0 he hm fun a he =>?_
  refine Sto 3 he hm fun w hm a he =>?_
  refine go0 he hm fun a he =>?_
  first | rw [z2u] at hm | rw [← z1l] at hm
  replace hm:=hm.ar [0] [5,5,5,3,5,5]
  refine hL141 _ _ _ (by subst hmu;omega) ⟨(q186.2),(v189),(vs++[q186.1]),(f2 - 1),rfl,⟨he.pk,by exact hm⟩,?_⟩
  exact ⟨by simp only [List.length_append,List.length_cons,List.length_nil];omega,by omega,by omega,by simp only [List.length_append,List.length_cons,List.length_nil];omega,vars_step hV_ (by omega) h145 hq187⟩
  replace hm:=hm.dl [4,3,2,1,0]
  show Out (z1z ws (z0q ws d) i) _ _
  rw [show z1z ws (z0q ws d) i=.error _ from (z3e hb10 h12 h32).trans ((z0b hq37).trans (z0j (z4a hI_ (by omega) (.inr h132) ((z0b hq135).trans ((z0b hq138).trans (z0j (vars_fail hV_ (by omega) h145 hq187)))))))]
  exact ⟨rfl,hm.le (((le41).trans le59).trans le69)⟩
  replace hm:=hm.dl [2,1,0]
  show Out (z1z ws (z0q ws d) i) _ _
  rw [show z1z ws (z0q ws d) i=.error _ from (z3e hb10 h12 h32).trans ((z0b hq37).trans (z0j (z4a hI_ (by omega) (.inr h132) ((z0b hq135).trans (z0j hq138)))))]
  exact ⟨rfl,hm.le (((le41).trans le59).trans le69)⟩
  replace hm:=hm.dl [2,1,0]
  show Out (z1z ws (z0q ws d) i) _ _
  rw [show z1z ws (z0q ws d) i=.error _ from (z3e hb10 h12 h32).trans ((z0b hq37).trans (z0j (z4a hI_ (by omega) (.inr h132) (z0j hq135))))]
  exact ⟨rfl,hm.le (((le41).trans le59).trans le69)⟩
  refine go0 he hm fun a he =>?_
  refine hL73 _ _ ?_
  refine go0 he hm fun a he =>?_
  refine hL67 _ _ ?_
  refine sq fun L190 hL190 =>?_
  refine go0 he hm fun a he =>?_
  have hm0_:=hm
  clear hm
  obtain ⟨Ψ191,le192,hm,hrow193⟩:=hm0_.freezeRow (i:=1) rfl
  clear hm0_
  replace rl:=rl.up le192
  replace G:=G.mono le192
  replace hr42:=REx.mono _ _ _ _ le192 hr42
  replace hsl61:=hsl61.up le192
  replace hch:=hch.mono fun _ _ h=>RArm.mono _ _ _ _ le192 h
  replace hm:=hm.nf
  have hsl194:SliceOf RArm Ψ191 7 _ (xs):=⟨_,hrow193,hch⟩
  obtain ⟨p195,c196,hv_,hm197,hn198⟩:=hsl194.form (by decide)
  have hmk_:=hm
  clear hm
  subst hv_
  have hm:=hmk_
  clear hmk_
  have hA_:=arms_fin hI_ (by omega) h74 h132
  refine go0 he hm fun a he =>?_
  refine Sto 2 he hm fun w hm a he =>?_
  refine go0 he hm fun a he =>?_
  refine hL190 _ _ ?_
  refine go0 he hm fun a he =>?_
  have hmr:=hm
  replace hm:=hm.dl [2,1]
  refine RetA hQ he hmr ?_
  show Out (z1z ws (z0q ws d) i) _ _
  rw [show z1z ws (z0q ws d) i=.ok (.mk 7 0 ⟨#[]⟩ [q35.1] xs,j) from (z3e hb10 h12 h32).trans ((z0b hq37).trans ((z0b hA_).trans rfl))]
  exact ⟨(Ψ191,_),rfl,⟨(((le41).trans le59).trans le69).trans le192,REx.full hsl61 hsl194⟩,hm⟩
  replace hm:=hm.dl [0]
  show Out (z1z ws (z0q ws d) i) _ _
  rw [show z1z ws (z0q ws d) i=.error _ from (z3e hb10 h12 h32).trans (z0j hq37)]
  exact ⟨rfl,hm.le (Fz.Le.refl _)⟩
  refine go0 he hm fun a he =>?_
  refine hL31 _ _ ?_
  refine go0 he hm fun a he =>?_
  refine hL4 _ _ ?_
  refine sq fun L199 hL199 =>?_
  refine sq fun L200 hL200 =>?_
  refine go0 he hm fun a he =>?_
  refine z1n call178 he hm (fun hB201 w hm a he =>?_) (fun hB201 w hm a he =>?_) (c:=z6d G hm)
  refine go0 he hm fun a he =>?_
  refine hL200 _ _ ?_
  refine go0 he hm fun a he =>?_
  refine sq fun L202 hL202 =>?_
  refine go0 he hm fun a he =>?_
  have hlt_:=isCon_lt hB201
  refine go0 he hm fun a he =>?_
  refine Sto 0 he hm fun w hm a he =>?_
  refine go0 he hm fun a he =>?_
  refine hL202 _ _ ?_
  refine sq fun L203 hL203 =>?_
  refine go0 he hm fun a he =>?_
  refine z4u hQ call219 he hm (fun q204 y205 w hq206 hG207 hm a he =>?_) (fun q204 w hq206 hm =>?_) (c:=rlist_ok (m:=1) hd hE G (i:=(i+1)) rl hws (by omega) hm)
  obtain ⟨Ψ208,d209⟩:=y205
  obtain ⟨le210,hr211⟩:=hG207
  simp only at le210 hr211 hm he
  have hgo212:=list_le (by omega) hq206
  replace rl:=rl.up le210
  replace G:=G.mono le210
  replace hm:=hm.nf
  obtain ⟨p213,c214,rfl,hmx215,hn216⟩:=hr211.fm
  refine z1h he hm fun a he =>?_
  refine Sto 1 he hm fun w hm a he =>?_
  refine go0 he hm fun a he =>?_
  refine hL203 _ _ ?_
  refine go0 he hm fun a he =>?_
  have hmr:=hm
  replace hm:=hm.dl [1]
  refine RetA hQ he hmr ?_
  show Out (z1z ws (z0q ws d) i) _ _
  rw [show z1z ws (z0q ws d) i=.ok (.mk 4 0 (z0e ws i) q204.1 [],q204.2) from (form_con hb10 h12 h32 hB201).trans ((z0b hq206).trans (rfl))]
  exact ⟨(Ψ208,_),rfl,⟨le210,REx.node hr211⟩,hm⟩
  replace hm:=hm.dl [0]
  show Out (z1z ws (z0q ws d) i) _ _
  rw [show z1z ws (z0q ws d) i=.error _ from (form_con hb10 h12 h32 hB201).trans (z0j hq206)]
  exact ⟨rfl,hm.le (Fz.Le.refl _)⟩
  refine go0 he hm fun a he =>?_
  refine hL200 _ _ ?_
  refine go0 he hm fun a he =>?_
  refine hL199 _ _ ?_
  refine sq fun L217 hL217 =>?_
  refine go0 he hm fun a he =>?_
  refine z3b hQ call129 he hm (fun q218 w hq219 hm a he =>?_) (fun q218 w hq219 hm =>?_) (c:=z7p G (i:=i) rl hws (by omega) hm)
  have hleq218:=z2q hq219
  refine go0 he hm fun a he =>?_
  refine hL217 _ _ ?_
  refine sq fun L220 hL220 =>?_
  refine go0 he hm fun a he =>?_
  refine z4u hQ call219 he hm (fun q221 y222 w hq223 hG224 hm a he =>?_) (fun q221 w hq223 hm =>?_) (c:=rlist_ok (m:=0) hd hE G (i:=q218.2) rl hws (by omega) hm)
  obtain ⟨Ψ225,d226⟩:=y222
  obtain ⟨le227,hr228⟩:=hG224
  simp only at le227 hr228 hm he
  have hgo229:=list_le (by omega) hq223
  replace rl:=rl.up le227
  replace G:=G.mono le227
  replace hm:=hm.nf
  obtain ⟨p230,c231,rfl,hmx232,hn233⟩:=hr228.fm
  refine z1h he hm fun a he =>?_
  refine Sto 1 he hm fun w hm a he =>?_
  refine go0 he hm fun a he =>?_
  refine hL220 _ _ ?_
  refine go0 he hm fun a he =>?_
  have hmr:=hm
  replace hm:=hm.dl [1]
  refine RetA hQ he hmr ?_
  show Out (z1z ws (z0q ws d) i) _ _
  rw [show z1z ws (z0q ws d) i=.ok (.mk 5 0 q218.1 q221.1 [],q221.2) from (form_call hb10 h12 h32 hB201).trans ((z0b hq219).trans ((z0b hq223).trans (rfl)))]
  exact ⟨(Ψ225,_),rfl,⟨le227,REx.node hr228⟩,hm⟩
  replace hm:=hm.dl [0]
  show Out (z1z ws (z0q ws d) i) _ _
  rw [show z1z ws (z0q ws d) i=.error _ from (form_call hb10 h12 h32 hB201).trans ((z0b hq219).trans (z0j hq223))]
  exact ⟨rfl,hm.le (Fz.Le.refl _)⟩
  replace hm:=hm.dl [0]
  show Out (z1z ws (z0q ws d) i) _ _
  rw [show z1z ws (z0q ws d) i=.error _ from (form_call hb10 h12 h32 hB201).trans (z0j hq219)]
  exact ⟨rfl,hm.le (Fz.Le.refl _)⟩
  refine go0 he hm fun a he =>?_
  refine sq fun L234 hL234 =>?_
  refine go0 he hm fun a he =>?_
  have hlt_:=isOp_lt hb10
  refine go0 he hm fun a he =>?_
  refine Sto 0 he hm fun w hm a he =>?_
  refine go0 he hm fun a he =>?_
  refine hL234 _ _ ?_
  refine sq fun L235 hL235 =>?_
  refine go0 he hm fun a he =>?_
  refine z4u hQ call218 he hm (fun q236 y237 w hq238 hG239 hm a he =>?_) (fun q236 w hq238 hm =>?_) (c:=rtwo_ok hd hE G (i:=(i+1)) rl hws (by omega) hm)
  obtain ⟨Ψ240,d241⟩:=y237
  obtain ⟨le242,hr243⟩:=hG239
  simp only at le242 hr243 hm he
  have hgo244:=two_le hq238
  replace G:=G.mono le242
  replace hm:=hm.nf
  obtain ⟨p245,c246,rfl,hmx247,hn248⟩:=hr243.fm
  refine z1h he hm fun a he =>?_
  refine Sto 1 he hm fun w hm a he =>?_
  refine go0 he hm fun a he =>?_
  refine hL235 _ _ ?_
  refine go0 he hm fun a he =>?_
  have hmr:=hm
  replace hm:=hm.dl [1]
  refine RetA hQ he hmr ?_
  show Out (z1z ws (z0q ws d) i) _ _
  rw [show z1z ws (z0q ws d) i=.ok (.mk 8 0 (z0e ws i) q236.1 [],q236.2) from (form_op hb10).trans ((z0b hq238).trans (rfl))]
  exact ⟨(Ψ240,_),rfl,⟨le242,REx.node hr243⟩,hm⟩
  replace hm:=hm.dl [0]
  show Out (z1z ws (z0q ws d) i) _ _
  rw [show z1z ws (z0q ws d) i=.error _ from (form_op hb10).trans (z0j hq238)]
  exact ⟨rfl,hm.le (Fz.Le.refl _)⟩
 refine sq fun L249 hL249 =>?_
 refine go0 he hm fun a he =>?_
 by_cases h250:(z0e ws i)=(⟨#[43]⟩:ByteArray)
 refine go0 he hm fun a he =>?_
 refine hL249 _ _ ?_
 refine go0 he hm fun a he =>?_
 exact hJ7 _ _ (by rw [y0o (.inl h250)];exact ⟨he.pk,hm,trivial⟩)
 refine go0 he hm fun a he =>?_
 refine hL249 _ _ ?_
 refine go0 he hm fun a he =>?_
 refine sq fun L251 hL251 =>?_
 refine go0 he hm fun a he =>?_
 by_cases h252:(z0e ws i)=(⟨#[45]⟩:ByteArray)
 refine go0 he hm fun a he =>?_
 refine hL251 _ _ ?_
 refine go0 he hm fun a he =>?_
 exact hJ7 _ _ (by rw [y0o (.inr (.inl h252))];exact ⟨he.pk,hm,trivial⟩)
 refine go0 he hm fun a he =>?_
 refine hL251 _ _ ?_
 refine go0 he hm fun a he =>?_
 refine sq fun L253 hL253 =>?_
 refine go0 he hm fun a he =>?_
 by_cases h254:(z0e ws i)=(⟨#[42]⟩:ByteArray)
 refine go0 he hm fun a he =>?_
 refine hL253 _ _ ?_
 refine go0 he hm fun a he =>?_
 exact hJ7 _ _ (by rw [y0o (.inr (.inr (.inl h254)))];exact ⟨he.pk,hm,trivial⟩)
 refine go0 he hm fun a he =>?_
 refine hL253 _ _ ?_
 refine go0 he hm fun a he =>?_
 refine sq fun L255 hL255 =>?_
 refine go0 he hm fun a he =>?_
 by_cases h256:(z0e ws i)=(⟨#[47]⟩:ByteArray)
 refine go0 he hm fun a he =>?_
 refine hL255 _ _ ?_
 refine go0 he hm fun a he =>?_
 exact hJ7 _ _ (by rw [y0o (.inr (.inr (.inr (.inl h256))))];exact ⟨he.pk,hm,trivial⟩)
 refine go0 he hm fun a he =>?_
 refine hL255 _ _ ?_
 refine go0 he hm fun a he =>?_
 refine sq fun L257 hL257 =>?_
 refine go0 he hm fun a he =>?_
 by_cases h258:(z0e ws i)=(⟨#[37]⟩:ByteArray)
 refine go0 he hm fun a he =>?_
 refine hL257 _ _ ?_
 refine go0 he hm fun a he =>?_
 exact hJ7 _ _ (by rw [y0o (.inr (.inr (.inr (.inr (.inl h258)))))];exact ⟨he.pk,hm,trivial⟩)
 refine go0 he hm fun a he =>?_
 refine hL257 _ _ ?_
 refine go0 he hm fun a he =>?_
 refine sq fun L259 hL259 =>?_
 refine go0 he hm fun a he =>?_
 by_cases h260:(z0e ws i)=(⟨#[60]⟩:ByteArray)
 refine go0 he hm fun a he =>?_
 refine hL259 _ _ ?_
 refine go0 he hm fun a he =>?_
 exact hJ7 _ _ (by rw [y0o (.inr (.inr (.inr (.inr (.inr (.inl h260))))))];exact ⟨he.pk,hm,trivial⟩)
 refine go0 he hm fun a he =>?_
 refine hL259 _ _ ?_
 refine go0 he hm fun a he =>?_
 by_cases h261:(z0e ws i)=(⟨#[61]⟩:ByteArray)
 refine go0 he hm fun a he =>?_
 exact hJ7 _ _ (by rw [y0o (.inr (.inr (.inr (.inr (.inr (.inr h261))))))];exact ⟨he.pk,hm,trivial⟩)
 refine go0 he hm fun a he =>?_
 exact hJ7 _ _ (by rw [isOp_no h250 h252 h254 h256 h258 h260 h261];exact ⟨he.pk,hm,trivial⟩)
end Go.Sw

namespace Go.Sw
open Go.Proofs.Tryz
open Go.Proofs
set_option maxRecDepth 20000
set_option maxHeartbeats 4000000
theorem rexpr_zero {ws:List Bs} (hws:ws.length≤1000000):ExprOk ws 0:=by
 intro Φ K w r i rs G rl hi hm
 obtain ⟨pw,cw,rfl,hmw,hnw⟩:=rl.fm
 refine z0l func180 ntmps180 fun Q hQ a he =>?_
 refine Alc he hm fun b2 w hm a he =>?_
 replace hm:=hm.pl 1
 refine z0y call179 he hm (fun w hm a he =>?_) (c:=z6h (i:=i) rl hws (by omega) hm)
 refine go he hm fun a he =>?_
 by_cases h6:(z0e ws i)=(⟨#[]⟩:ByteArray)
 refine go he hm fun a he =>?_
 refine st he rfl rfl rfl (z9r he rfl call130 (rfail_ok (i:=i) rl hws (by omega) hm) (fun w hm=>fun a hd=>hQ _ _ _ (z0z hd ?_)))
 replace hm:=hm.dl [0]
 show Out (z0q ws 0 i) _ _
 rw [expr_zero];exact ⟨rfl,hm⟩
 refine Qq he hm (fun a he =>?_) (o:=by exact fun _ _ _ he hs=>z4t true he rfl rfl rfl)
 refine go he hm fun a he =>?_
 refine st he rfl rfl rfl (z9r he rfl call130 (rfail_ok (i:=i) rl hws (by omega) hm) (fun w hm=>fun a hd=>hQ _ _ _ (z0z hd ?_)))
 replace hm:=hm.dl [0]
 show Out (z0q ws 0 i) _ _
 rw [expr_zero];exact ⟨rfl,hm⟩
theorem rexpr_step {ws:List Bs} {d:Nat} (hd:d≤1000) (hws:ws.length≤1000000) (hsz:∀j,(z0e ws j).size≤1000000) (hE:ExprOk ws d):ExprOk ws (d+1):=by
 intro Φ K w r i rs G rl hi hm
 obtain ⟨pw,cw,rfl,hmw,hnw⟩:=rl.fm
 have hd0_:¬d+1=0:=by omega
 refine z0l func180 ntmps180 fun Q hQ a he =>?_
 refine Alc he hm fun b2 w hm a he =>?_
 replace hm:=hm.pl 1
 refine z0y call179 he hm (fun w hm a he =>?_) (c:=z6h (i:=i) rl hws (by omega) hm)
 refine go he hm fun a he =>?_
 by_cases h6:(z0e ws i)=(⟨#[]⟩:ByteArray)
 refine go he hm fun a he =>?_
 refine st he rfl rfl rfl (z9r he rfl call130 (rfail_ok (i:=i) rl hws (by omega) hm) (fun w hm=>fun a hd=>hQ _ _ _ (z0z hd ?_)))
 replace hm:=hm.dl [0]
 show Out (z0q ws (d+1) i) _ _
 rw [show z0q ws (d+1) i=.error _ from expr_no h6]
 exact ⟨rfl,hm⟩
 refine z2i call205 he hm (fun y9 w hG10 hm a he =>?_) (c:=integer_ok (hsz _) G hm)
 replace hm:=hm.nf
 rcases hn12:intP (z0e ws i) with _ | n11
 rw [hn12] at he
 refine go he hm fun a he =>?_
 by_cases h16:(z0e ws i)=(⟨#[40]⟩:ByteArray)
 refine go he hm fun a he =>?_
 have hlt_:=z6g h6
 refine Sto 0 he hm fun w hm a he =>?_
 refine z4u hQ call206 he hm (fun q19 y20 w hq21 hG22 hm a he =>?_) (fun q19 w hq21 hm =>?_) (c:=rform_ok hd hE G (i:=(i+1)) rl hws (by omega) hm)
 obtain ⟨Ψ23,d24⟩:=y20
 obtain ⟨le25,hr26⟩:=hG22
 simp only at le25 hr26 hm he
 have hgo27:=form_le hq21
 replace rl:=rl.up le25
 replace G:=G.mono le25
 replace hm:=hm.nf
 obtain ⟨p30,c31,p36,c37,rfl,hi40,h29,h35,hm32,hn33,hm38,hn39⟩:=REx.fm hr26
 refine Alc he hm fun b41 w hm a he =>?_
 refine Sto 0 he hm fun w hm a he =>?_
 replace hm:=hm.pl 1
 refine z3b hQ call177 he hm (fun q43 w hq44 hm a he =>?_) (fun q43 w hq44 hm =>?_) (c:=z5r (x:=(⟨#[41]⟩:ByteArray)) (i:=q19.2) rl hws (by omega) hm)
 have hleq43:=z5q hq44
 refine Sto 2 he hm fun w hm a he =>?_
 refine go he hm fun a he =>?_
 have hmr:=hm
 replace hm:=hm.dl [2,1]
 refine RetA hQ he hmr ?_
 show Out (z0q ws (d+1) i) _ _
 rw [show z0q ws (d+1) i=.ok (q19.1,q43.2) from expr_form h6 hn12 h16 hq21 hq44]
 exact ⟨(Ψ23,_),rfl,⟨le25,hr26⟩,hm⟩
 replace hm:=hm.dl [1,0]
 show Out (z0q ws (d+1) i) _ _
 rw [show z0q ws (d+1) i=.error _ from expr_fc h6 hn12 h16 hq21 hq44]
 exact ⟨rfl,hm.le (le25)⟩
 replace hm:=hm.dl [0]
 show Out (z0q ws (d+1) i) _ _
 rw [show z0q ws (d+1) i=.error _ from expr_fe h6 hn12 h16 hq21]
 exact ⟨rfl,hm⟩
 refine z1n call178 he hm (fun hB47 w hm a he =>?_) (fun hB47 w hm a he =>?_) (c:=z6d G hm)
 refine z3b hQ call176 he hm (fun q49 w hq50 hm a he =>?_) (fun q49 w hq50 hm =>?_) (c:=rcon_ok G (i:=i) rl hws (by omega) hm)
 have hleq49:=z2q hq50
 refine z1h he hm fun a he =>?_
 refine Sto 1 he hm fun w hm a he =>?_
 refine go he hm fun a he =>?_
 have hmr:=hm
 replace hm:=hm.dl [1]
 refine RetA hQ he hmr ?_
 show Out (z0q ws (d+1) i) _ _
 rw [show z0q ws (d+1) i=.ok (.mk 4 0 q49.1 [] [],q49.2) from expr_con h6 hn12 h16 hB47 hq50]
 exact ⟨(Φ,_),rfl,⟨Fz.Le.refl _,REx.leaf i64_0⟩,hm⟩
 replace hm:=hm.dl [0]
 exact expr_conE h6 hB47 hq50
 refine go he hm fun a he =>?_
 have hsz_:=size_pos h6
 refine go he hm fun a he =>?_
 have hb52:0 < (z0e ws i).size:=by omega
 obtain ⟨c53,hc54⟩:=byte_of_lt hb52
 refine Qq he hm (fun a he =>?_) (o:=by exact fun _ _ _ he hs=>y1a 0 c53 he rfl rfl runUnderlying9 hc54)
 by_cases h55:c53.toNat=33
 refine Qq he hm (fun a he =>?_) (o:=by exact fun _ _ _ he hs=>z3j 1 ((z0e ws i).size) he rfl runUnderlying9 ⟨_,rfl⟩ rfl (by omega) (by exact Nat.le_refl _))
 refine z1n call138 he hm (fun hB56 w hm a he =>?_) (fun hB56 w hm a he =>?_) (c:=isName_ok G hm)
 refine go he hm fun a he =>?_
 have hlt_:=z6g h6
 refine Sto 0 he hm fun w hm a he =>?_
 refine Qq he hm (fun a he =>?_) (o:=by exact fun _ _ _ he hs=>z3j 1 ((z0e ws i).size) he rfl runUnderlying9 ⟨_,rfl⟩ rfl (by omega) (by exact Nat.le_refl _))
 refine z1h he hm fun a he =>?_
 refine Sto 1 he hm fun w hm a he =>?_
 refine go he hm fun a he =>?_
 have hmr:=hm
 replace hm:=hm.dl [1]
 refine RetA hQ he hmr ?_
 show Out (z0q ws (d+1) i) _ _
 rw [show z0q ws (d+1) i=.ok (.mk 3 0 ((z0e ws i).extract 1 (z0e ws i).size) [] [],i+1) from expr_input h6 hn12 h16 hB47 ((z2r hc54).trans h55) hB56]
 exact ⟨(Φ,_),rfl,⟨Fz.Le.refl _,REx.leaf i64_0⟩,hm⟩
 refine z3b hQ call129 he hm (fun q60 w hq61 hm a he =>?_) (fun q60 w hq61 hm =>?_) (c:=z7p G (i:=i) rl hws (by omega) hm)
 have hleq60:=z2q hq61
 refine z1h he hm fun a he =>?_
 refine Sto 1 he hm fun w hm a he =>?_
 refine go he hm fun a he =>?_
 have hmr:=hm
 replace hm:=hm.dl [1]
 refine RetA hQ he hmr ?_
 show Out (z0q ws (d+1) i) _ _
 rw [show z0q ws (d+1) i=.ok (.mk 2 0 q60.1 [] [],q60.2) from (expr_var0 h6 hn12 h16 hB47 (fun h=>absurd (h.2.symm.trans hB56) (by decide))).trans ((z0b hq61).trans rfl)]
 exact ⟨(Φ,_),rfl,⟨Fz.Le.refl _,REx.leaf i64_0⟩,hm⟩
 replace hm:=hm.dl [0]
 show Out (z0q ws (d+1) i) _ _
 rw [show z0q ws (d+1) i=.error _ from (expr_var0 h6 hn12 h16 hB47 (fun h=>absurd (h.2.symm.trans hB56) (by decide))).trans (z0j hq61)]
 exact ⟨rfl,hm⟩
 refine z3b hQ call129 he hm (fun q63 w hq64 hm a he =>?_) (fun q63 w hq64 hm =>?_) (c:=z7p G (i:=i) rl hws (by omega) hm)
 have hleq63:=z2q hq64
 refine z1h he hm fun a he =>?_
 refine Sto 1 he hm fun w hm a he =>?_
 refine go he hm fun a he =>?_
 have hmr:=hm
 replace hm:=hm.dl [1]
 refine RetA hQ he hmr ?_
 show Out (z0q ws (d+1) i) _ _
 rw [show z0q ws (d+1) i=.ok (.mk 2 0 q63.1 [] [],q63.2) from (expr_var0 h6 hn12 h16 hB47 (fun h=>h55 ((z2r hc54).symm.trans h.1))).trans ((z0b hq64).trans rfl)]
 exact ⟨(Φ,_),rfl,⟨Fz.Le.refl _,REx.leaf i64_0⟩,hm⟩
 replace hm:=hm.dl [0]
 show Out (z0q ws (d+1) i) _ _
 rw [show z0q ws (d+1) i=.error _ from (expr_var0 h6 hn12 h16 hB47 (fun h=>h55 ((z2r hc54).symm.trans h.1))).trans (z0j hq64)]
 exact ⟨rfl,hm⟩
 rw [hn12] at he
 refine go he hm fun a he =>?_
 have hlt_:=z6g h6
 refine Sto 0 he hm fun w hm a he =>?_
 refine z1h he hm fun a he =>?_
 refine Sto 1 he hm fun w hm a he =>?_
 refine go he hm fun a he =>?_
 have hmr:=hm
 replace hm:=hm.dl [1]
 refine RetA hQ he hmr ?_
 show Out (z0q ws (d+1) i) _ _
 rw [show z0q ws (d+1) i=.ok (.mk 1 y9 ⟨#[]⟩ [] [],i+1) from expr_num h6 (hn12.trans (congrArg some (hG10 _ hn12).symm))]
 exact ⟨(Φ,_),rfl,⟨Fz.Le.refl _,REx.leaf (intP_i64 (hn12.trans (congrArg some (hG10 _ hn12).symm)))⟩,hm⟩
theorem rexpr_ok {ws:List Bs} (hws:ws.length≤1000000) (hsz:∀j,(z0e ws j).size≤1000000):∀d,d≤1000→ExprOk ws d
 | 0,_=>rexpr_zero hws
 | d+1,h=>rexpr_step (by omega) hws hsz (rexpr_ok hws hsz d (by omega))
end Go.Sw

namespace Go.Sw
open Go.Proofs.Tryz
open Go.Proofs
set_option maxRecDepth 20000
set_option maxHeartbeats 4000000
theorem rparam_ok {Φ:Fz} {K:List Res} {w:World} {r i:Nat} {rs:Value} {ws:List Bs} (G:Glob Φ) (rl:SliceOf RStr Φ 1 rs ws) (hws:ws.length≤1000000) (hi:i≤ws.length) (hm:Mem Φ (.blk r (ob [rs,.int .i64 ((i:Nat):Int)] 208)::K) w) :
  Calls Tryz.prog 127 (List.toArray [.pointer (some ⟨r,0,none⟩)]) w (fun ee w'=>Out (z6f ws i) (fun x=>ee=.returned (.agg (List.toArray [.string x.1.name,.string x.1.type]))∧Mem Φ (.blk r (ob [rs,.int .i64 ((x.2:Nat):Int)] 208)::K) w') (fun c=>ee=.panicked (z8s c)∧Mem Φ K w')):=by
 obtain ⟨pw,cw,rfl,hmw,hnw⟩:=rl.fm
 refine z0l func127 ntmps127 fun Q hQ a he =>?_
 refine Alc he hm fun b2 w hm a he =>?_
 replace hm:=hm.pl 1
 refine z3b hQ call129 he hm (fun q4 w hq5 hm a he =>?_) (fun q4 w hq5 hm =>?_) (c:=z7p G (i:=i) rl hws (by omega) hm)
 have hleq4:=z2q hq5
 refine z3b hQ call177 he hm (fun q7 w hq8 hm a he =>?_) (fun q7 w hq8 hm =>?_) (c:=z5r (x:=(⟨#[58]⟩:ByteArray)) (i:=q4.2) rl hws (by omega) hm)
 have hleq7:=z5q hq8
 refine z3b hQ call176 he hm (fun q10 w hq11 hm a he =>?_) (fun q10 w hq11 hm =>?_) (c:=rcon_ok G (i:=q7.2) rl hws (by omega) hm)
 have hleq10:=z2q hq11
 refine z1h he hm fun a he =>?_
 refine Sto 1 he hm fun w hm a he =>?_
 refine go he hm fun a he =>?_
 have hmr:=hm
 replace hm:=hm.dl [1]
 refine RetA hQ he hmr ?_
 show Out (z6f ws i) _ _
 rw [show z6f ws i=.ok ((⟨q4.1,q10.1⟩:Param),q10.2) from (z0b hq5).trans ((z0b hq8).trans ((z0b hq11).trans (rfl)))]
 exact ⟨rfl,hm⟩
 replace hm:=hm.dl [0]
 show Out (z6f ws i) _ _
 rw [show z6f ws i=.error _ from (z0b hq5).trans ((z0b hq8).trans (z0j hq11))]
 exact ⟨rfl,hm⟩
 replace hm:=hm.dl [0]
 show Out (z6f ws i) _ _
 rw [show z6f ws i=.error _ from (z0b hq5).trans (z0j hq8)]
 exact ⟨rfl,hm⟩
 replace hm:=hm.dl [0]
 show Out (z6f ws i) _ _
 rw [show z6f ws i=.error _ from z0j hq5]
 exact ⟨rfl,hm⟩
theorem rdata_ok {Φ:Fz} {K:List Res} {w:World} {r i:Nat} {rs:Value} {ws:List Bs} (G:Glob Φ) (rl:SliceOf RStr Φ 1 rs ws) (hws:ws.length≤1000000) (hi:i≤ws.length) (hm:Mem Φ (.blk r (ob [rs,.int .i64 ((i:Nat):Int)] 208)::K) w) :
  Calls Tryz.prog 126 (List.toArray [.pointer (some ⟨r,0,none⟩)]) w (fun ee w'=>Out (dataP ws i) (fun x=>∃y:Fz×List Value,ee=.returned (.agg y.2.toArray)∧(Φ.Le y.1∧RData y.1 y.2 x.1)∧Mem y.1 (.blk r (ob [rs,.int .i64 ((x.2:Nat):Int)] 208)::K) w') (fun c=>ee=.panicked (z8s c)∧Mem Φ K w')):=by
 obtain ⟨pw,cw,rfl,hmw,hnw⟩:=rl.fm
 refine z0l func126 ntmps126 fun Q hQ a he =>?_
 refine Alc he hm fun b2 w hm a he =>?_
 replace hm:=hm.pl 1
 refine z3b hQ call176 he hm (fun q4 w hq5 hm a he =>?_) (fun q4 w hq5 hm =>?_) (c:=rcon_ok G (i:=i) rl hws (by omega) hm)
 have hleq4:=z2q hq5
 refine z1h he hm fun a he =>?_
 refine Alc he hm fun b6 w hm a he =>?_
 refine Sto 0 he hm fun w hm a he =>?_
 replace hm:=hm.pl 1
 refine z3b hQ call177 he hm (fun q8 w hq9 hm a he =>?_) (fun q8 w hq9 hm =>?_) (c:=z5r (x:=(⟨#[61]⟩:ByteArray)) (i:=q4.2) rl hws (by omega) hm)
 have hleq8:=z5q hq9
 refine go he hm fun a he =>?_
 replace hm:=hm.nilRow 135 2
 replace hm:=hm.nf
 refine z1i (he.ks [0,2,3]) hm (fun R mm a w=>∃(Ψ10:Fz) (j:Nat) (u:Value) (cs:List Value) (xs:List Con) (f:Nat),mm=ws.length - j∧R Ψ10 [] [(0,.gs (u) 135 2 cs),(1,.blk r (ob [.slice pw ws.length cw,.int .i64 ((j:Nat):Int)] 208)),(2,.blk b6 (ob [.string q4.1,u] 133))] a w∧(Φ.Le Ψ10∧(Chunks (RCon Ψ10) 2 cs xs∧xs.length≤j∧j≤ws.length∧xs.length+f=ws.length+1∧consP ws (ws.length+1) q8.2=pre1 xs (consP ws f j)))) (ws.length - q8.2) ⟨Φ,q8.2,.slice none 0 0,[],[],ws.length+1,rfl,⟨he.pk,hm⟩,⟨Fz.Le.refl _,⟨rfl,Nat.zero_le _,by omega,Nat.zero_add _,y0u _⟩⟩⟩ ?_
 clear hm he
 rintro mm a w ⟨Ψ10,j,u,cs,xs,f,hmu,⟨he,hm⟩,hI13⟩ L12 hL12
 replace hm:=hm.nf
 obtain ⟨le11,hI13⟩:=hI13
 replace rl:=rl.up le11
 replace G:=G.mono le11
 obtain ⟨hch,hxl,hj,hf_,hI_⟩:=hI13
 replace hm:=hm.pl 1
 refine z3b hQ call176 he hm (fun q15 w hq16 hm a he =>?_) (fun q15 w hq16 hm =>?_) (c:=rcon_ok G (i:=j) rl hws (by omega) hm)
 have hleq15:=z2q hq16
 refine z1h he hm fun a he =>?_
 refine Alc he hm fun b17 w hm a he =>?_
 refine Sto 0 he hm fun w hm a he =>?_
 refine go he hm fun a he =>?_
 replace hm:=hm.nilRow 9 1
 replace hm:=hm.nf
 refine z1i (he.ks [0,2,3,4]) hm (fun R mm a w=>∃(j2:Nat) (u2:Value) (vs:List Bs) (f2:Nat),mm=ws.length - j2∧R Ψ10 [] [(0,.gs (u2) 9 1 (strs vs)),(1,.blk b17 (ob [.string q15.1,u2] 135)),(2,.blk r (ob [.slice pw ws.length cw,.int .i64 ((j2:Nat):Int)] 208))] a w∧(vs.length≤j2∧j < j2∧j2≤ws.length∧vs.length+f2=ws.length+1∧z4l ws (ws.length+1) q15.2=pre1 vs (z4l ws f2 j2))) (ws.length - q15.2) ⟨q15.2,.slice none 0 0,[],ws.length+1,rfl,⟨he.pk,hm⟩,⟨Nat.zero_le _,by omega,by omega,Nat.zero_add _,y0u _⟩⟩ ?_
 clear hm he
 rintro mm a w ⟨j2,u2,vs,f2,hmu,⟨he,hm⟩,hI20⟩ L19 hL19
 replace hm:=hm.nf
 obtain ⟨hvl,hj2,hj3,hf2_,hV_⟩:=hI20
 replace hm:=hm.pl 2
 refine z0y call179 he hm (fun w hm a he =>?_) (c:=z6h (i:=j2) rl hws (by omega) hm)
 refine z1n call178 he hm (fun hB23 w hm a he =>?_) (fun hB23 w hm a he =>?_) (c:=z6d G hm)
 refine Reg [1,2,1,0,0,0,1,0] [2,3,4,5] he hm fun w hm a he =>?_
 refine z3b hQ call176 he hm (fun q24 w hq25 hm a he =>?_) (fun q24 w hq25 hm =>?_) (c:=rcon_ok G (i:=j2) rl hws (by omega) hm)
 have hleq24:=z2q hq25
 refine BldS he hm fun v26 w hm a he =>?_
 refine App_ 2 z9k he hm (fun v27 w hm a he =>?_) (hb:=by simp [z1m];omega)
 refine Sto 3 he hm fun w hm a he =>?_
 refine go he hm fun a he =>?_
 first | rw [z2u] at hm | rw [← z1l] at hm
 replace hm:=hm.ar [0] [5,5,5,3,5,5]
 refine hL19 _ _ _ (by subst hmu;omega) ⟨(q24.2),(v27),(vs++[q24.1]),(f2 - 1),rfl,⟨he.pk,by exact hm⟩,?_⟩
 exact ⟨by simp only [List.length_append,List.length_cons,List.length_nil];omega,by omega,by omega,by simp only [List.length_append,List.length_cons,List.length_nil];omega,fields_step hV_ (by omega) hB23 hq25⟩
 replace hm:=hm.dl [4,3,2,1,0]
 show Out (dataP ws i) _ _
 rw [show dataP ws i=.error _ from (z0b hq5).trans ((z0b hq9).trans (z0j (cons_fail2 hI_ (by omega) hq16 (fields_fail hV_ (by omega) hB23 hq25))))]
 exact ⟨rfl,hm.le (le11)⟩
 refine go he hm fun a he =>?_
 have hm0_:=hm
 clear hm
 obtain ⟨Ψ29,le30,hm,hrow31⟩:=hm0_.freezeRow (i:=1) rfl
 clear hm0_
 replace rl:=rl.up le30
 replace G:=G.mono le30
 replace hch:=hch.mono fun _ _ h=>RCon.mono _ _ _ _ le30 h
 replace hm:=hm.nf
 have hsl32:SliceOf RStr Ψ29 1 _ (vs):=SliceOf.strs.2 hrow31
 obtain ⟨p33,c34,hv_,hm35,hn36⟩:=hsl32.form (by decide)
 have hmk_:=hm
 clear hm
 subst hv_
 have hm:=hmk_
 clear hmk_
 have hv37:=fields_fin hV_ (by omega) hB23
 refine BldS he hm fun v38 w hm a he =>?_
 refine App_ 3 rt_131 he hm (fun v39 w hm a he =>?_)
 refine Sto 4 he hm fun w hm a he =>?_
 replace hm:=hm.pl 1
 refine z0y call179 he hm (fun w hm a he =>?_) (c:=z6h (i:=j2) rl hws (by omega) hm)
 by_cases h42:(z0e ws j2)=(⟨#[124]⟩:ByteArray)
 refine go he hm fun a he =>?_
 have hlt_:=peek_eq_lt h42 (by decide)
 refine Sto 0 he hm fun w hm a he =>?_
 refine go he hm fun a he =>?_
 replace hm:=hm.ar [2,1] [3,3,2,3]
 refine hL12 _ _ _ (by subst hmu;omega) ⟨(Ψ29),(j2+1),(v39),((cs++[.string q15.1,.slice p33 (vs).length c34])),(xs++[(⟨q15.1,vs⟩:Con)]),(f - 1),rfl,⟨he.pk,by exact hm⟩,?_⟩
 refine ⟨(le11).trans le30,?_⟩
 exact ⟨(hch.snoc (k:=2) (x:=(⟨q15.1,vs⟩:Con)) rfl ⟨_,rfl,hsl32⟩),by simp only [List.length_append,List.length_cons,List.length_nil];omega,by omega,by simp only [List.length_append,List.length_cons,List.length_nil];omega,cons_step hI_ (by omega) hq16 hv37 h42⟩
 refine go he hm fun a he =>?_
 have hm0_:=hm
 clear hm
 obtain ⟨Ψ44,le45,hm,hrow46⟩:=hm0_.freezeRow (i:=3) rfl
 clear hm0_
 replace G:=G.mono le45
 replace hch:=hch.mono fun _ _ h=>RCon.mono _ _ _ _ le45 h
 replace hsl32:=hsl32.up le45
 replace hm:=hm.nf
 have hsl47:SliceOf RCon Ψ44 2 _ (xs++[(⟨q15.1,vs⟩:Con)]):=⟨_,hrow46,(hch.snoc (k:=2) (x:=(⟨q15.1,vs⟩:Con)) rfl ⟨_,rfl,hsl32⟩)⟩
 obtain ⟨p48,c49,hv_,hm50,hn51⟩:=hsl47.form (by decide)
 have hmk_:=hm
 clear hm
 subst hv_
 have hm:=hmk_
 clear hmk_
 refine Sto 4 he hm fun w hm a he =>?_
 refine go he hm fun a he =>?_
 have hmr:=hm
 replace hm:=hm.dl [4,3,2,1]
 refine RetA hQ he hmr ?_
 show Out (dataP ws i) _ _
 rw [show dataP ws i=.ok ((⟨q4.1,xs++[(⟨q15.1,vs⟩:Con)]⟩:Data),j2) from (z0b hq5).trans ((z0b hq9).trans ((z0b (cons_fin hI_ (by omega) hq16 hv37 h42)).trans rfl))]
 exact ⟨(Ψ44,_),rfl,⟨((le11).trans le30).trans le45,⟨_,rfl,hsl47⟩⟩,hm⟩
 replace hm:=hm.dl [2,1,0]
 show Out (dataP ws i) _ _
 rw [show dataP ws i=.error _ from (z0b hq5).trans ((z0b hq9).trans (z0j (cons_fail1 hI_ (by omega) hq16)))]
 exact ⟨rfl,hm.le (le11)⟩
 replace hm:=hm.dl [1,0]
 show Out (dataP ws i) _ _
 rw [show dataP ws i=.error _ from (z0b hq5).trans (z0j hq9)]
 exact ⟨rfl,hm⟩
 replace hm:=hm.dl [0]
 show Out (dataP ws i) _ _
 rw [show dataP ws i=.error _ from z0j hq5]
 exact ⟨rfl,hm⟩
end Go.Sw

namespace Go.Sw
open Go.Proofs.Tryz
open Go.Proofs
set_option maxRecDepth 20000
set_option maxHeartbeats 4000000
theorem rfun_ok {Φ:Fz} {K:List Res} {w:World} {r i:Nat} {rs:Value} {ws:List Bs} (hE:ExprOk ws 250) (G:Glob Φ) (rl:SliceOf RStr Φ 1 rs ws) (hws:ws.length≤1000000) (hi:i≤ws.length) (hm:Mem Φ (.blk r (ob [rs,.int .i64 ((i:Nat):Int)] 208)::K) w) :
  Calls Tryz.prog 128 (List.toArray [.pointer (some ⟨r,0,none⟩)]) w (fun ee w'=>Out (funP ws i) (fun x=>∃y:Fz×List Value,ee=.returned (.agg y.2.toArray)∧(Φ.Le y.1∧RFun y.1 y.2 x.1)∧Mem y.1 (.blk r (ob [rs,.int .i64 ((x.2:Nat):Int)] 208)::K) w') (fun c=>ee=.panicked (z8s c)∧Mem Φ K w')):=by
 obtain ⟨pw,cw,rfl,hmw,hnw⟩:=rl.fm
 refine z0l func128 ntmps128 fun Q hQ a he =>?_
 refine Alc he hm fun b2 w hm a he =>?_
 replace hm:=hm.pl 1
 refine z3b hQ call129 he hm (fun q4 w hq5 hm a he =>?_) (fun q4 w hq5 hm =>?_) (c:=z7p G (i:=i) rl hws (by omega) hm)
 have hleq4:=z2q hq5
 refine z1h he hm fun a he =>?_
 refine Alc he hm fun b6 w hm a he =>?_
 refine Sto 0 he hm fun w hm a he =>?_
 refine go he hm fun a he =>?_
 replace hm:=hm.nilRow 72 2
 replace hm:=hm.nf
 refine z1i (he.ks [0,2,3]) hm (fun R mm a w=>∃(j:Nat) (u:Value) (cs:List Value) (xs:List Param) (f:Nat),mm=ws.length - j∧R Φ [] [(0,.gs (u) 72 2 cs),(1,.blk b6 (ob [.string q4.1,u,.string ⟨#[]⟩,.int .i64 ((0:Nat):Int),.int .i64 ((0:Nat):Int),.string ⟨#[]⟩,.slice none 0 0,.slice none 0 0] 68)),(2,.blk r (ob [.slice pw ws.length cw,.int .i64 ((j:Nat):Int)] 208))] a w∧(Chunks (RParam Φ) 2 cs xs∧xs.length≤j∧j≤ws.length∧xs.length+f=ws.length+1∧z5g ws (ws.length+1) q4.2=pre1 xs (z5g ws f j))) (ws.length - q4.2) ⟨q4.2,.slice none 0 0,[],[],ws.length+1,rfl,⟨he.pk,hm⟩,⟨rfl,Nat.zero_le _,by omega,Nat.zero_add _,y0u _⟩⟩ ?_
 clear hm he
 rintro mm a w ⟨j,u,cs,xs,f,hmu,⟨he,hm⟩,hI9⟩ L8 hL8
 replace hm:=hm.nf
 obtain ⟨hch,hxl,hj,hf_,hI_⟩:=hI9
 replace hm:=hm.pl 2
 refine z0y call179 he hm (fun w hm a he =>?_) (c:=z6h (i:=j) rl hws (by omega) hm)
 by_cases h12:(z0e ws j)=(⟨#[40]⟩:ByteArray)
 refine go he hm fun a he =>?_
 have hlt_:=peek_eq_lt h12 (by decide)
 refine Sto 0 he hm fun w hm a he =>?_
 refine Reg [1,2,1,0,0,0,1,0] [2,3] he hm fun w hm a he =>?_
 refine z3b hQ call127 he hm (fun q15 w hq16 hm a he =>?_) (fun q15 w hq16 hm =>?_) (c:=rparam_ok G (i:=(j+1)) rl hws (by omega) hm)
 have hleq15:=param_le hq16
 refine BldS he hm fun v17 w hm a he =>?_
 refine App_ 2 rt_23 he hm (fun v18 w hm a he =>?_)
 refine Sto 3 he hm fun w hm a he =>?_
 replace hm:=hm.pl 1
 refine z3b hQ call177 he hm (fun q19 w hq20 hm a he =>?_) (fun q19 w hq20 hm =>?_) (c:=z5r (x:=(⟨#[41]⟩:ByteArray)) (i:=q15.2) rl hws (by omega) hm)
 have hleq19:=z5q hq20
 refine go he hm fun a he =>?_
 replace hm:=hm.ar [1] [3,1,3,3]
 refine hL8 _ _ _ (by subst hmu;omega) ⟨(q19.2),(v18),((cs++[.string q15.1.name,.string q15.1.type])),(xs++[q15.1]),(f - 1),rfl,⟨he.pk,by exact hm⟩,?_⟩
 exact ⟨(hch.snoc (k:=2) (x:=q15.1) rfl rfl),by simp only [List.length_append,List.length_cons,List.length_nil];omega,by omega,by simp only [List.length_append,List.length_cons,List.length_nil];omega,params_step hI_ (by omega) h12 hq16 hq20⟩
 replace hm:=hm.dl [3,2,1,0]
 show Out (funP ws i) _ _
 rw [show funP ws i=.error _ from (z0b hq5).trans (z0j (params_fail2 hI_ (by omega) h12 hq16 hq20))]
 exact ⟨rfl,hm⟩
 replace hm:=hm.dl [2,1,0]
 show Out (funP ws i) _ _
 rw [show funP ws i=.error _ from (z0b hq5).trans (z0j (params_fail1 hI_ (by omega) h12 hq16))]
 exact ⟨rfl,hm⟩
 refine go he hm fun a he =>?_
 have hm0_:=hm
 clear hm
 obtain ⟨Ψ22,le23,hm,hrow24⟩:=hm0_.freezeRow (i:=1) rfl
 clear hm0_
 replace rl:=rl.up le23
 replace G:=G.mono le23
 replace hch:=hch.mono fun _ _ h=>RParam.mono _ _ _ _ le23 h
 replace hm:=hm.nf
 have hsl25:SliceOf RParam Ψ22 2 _ (xs):=⟨_,hrow24,hch⟩
 obtain ⟨p26,c27,hv_,hm28,hn29⟩:=hsl25.form (by decide)
 have hmk_:=hm
 clear hm
 subst hv_
 have hm:=hmk_
 clear hmk_
 have hv30:=params_fin hI_ (by omega) h12
 refine z3b hQ call177 he hm (fun q31 w hq32 hm a he =>?_) (fun q31 w hq32 hm =>?_) (c:=z5r (x:=(⟨#[58]⟩:ByteArray)) (i:=j) rl hws (by omega) hm)
 have hleq31:=z5q hq32
 refine z3b hQ call176 he hm (fun q34 w hq35 hm a he =>?_) (fun q34 w hq35 hm =>?_) (c:=rcon_ok G (i:=q31.2) rl hws (by omega) hm)
 have hleq34:=z2q hq35
 refine Sto 1 he hm fun w hm a he =>?_
 refine z3b hQ call177 he hm (fun q37 w hq38 hm a he =>?_) (fun q37 w hq38 hm =>?_) (c:=z5r (x:=(⟨#[61]⟩:ByteArray)) (i:=q34.2) rl hws (by omega) hm)
 have hleq37:=z5q hq38
 refine z4u hQ call180 he hm (fun q40 y41 w hq42 hG43 hm a he =>?_) (fun q40 w hq42 hm =>?_) (c:=hE G rl (i:=q37.2) (by omega) hm)
 obtain ⟨Ψ44,d45⟩:=y41
 obtain ⟨le46,hr47⟩:=hG43
 simp only at le46 hr47 hm he
 have hgo48:=z3n 250 _ _ hq42
 replace G:=G.mono le46
 replace hsl25:=hsl25.up le46
 replace hm:=hm.nf
 obtain ⟨p51,c52,p57,c58,rfl,hi61,h50,h56,hm53,hn54,hm59,hn60⟩:=REx.fm hr47
 refine Sto 1 he hm fun w hm a he =>?_
 refine Sto 2 he hm fun w hm a he =>?_
 refine go he hm fun a he =>?_
 have hmr:=hm
 replace hm:=hm.dl [2,1]
 refine RetA hQ he hmr ?_
 show Out (funP ws i) _ _
 rw [show funP ws i=.ok ((⟨q4.1,xs,q34.1,q40.1⟩:Fun),q40.2) from (z0b hq5).trans ((z0b hv30).trans ((z0b hq32).trans ((z0b hq35).trans ((z0b hq38).trans ((z0b hq42).trans (rfl))))))]
 exact ⟨(Ψ44,_),rfl,⟨(le23).trans le46,⟨_,_,rfl,hsl25,hr47⟩⟩,hm⟩
 replace hm:=hm.dl [1,0]
 show Out (funP ws i) _ _
 rw [show funP ws i=.error _ from (z0b hq5).trans ((z0b hv30).trans ((z0b hq32).trans ((z0b hq35).trans ((z0b hq38).trans (z0j hq42)))))]
 exact ⟨rfl,hm.le (le23)⟩
 replace hm:=hm.dl [1,0]
 show Out (funP ws i) _ _
 rw [show funP ws i=.error _ from (z0b hq5).trans ((z0b hv30).trans ((z0b hq32).trans ((z0b hq35).trans (z0j hq38))))]
 exact ⟨rfl,hm.le (le23)⟩
 replace hm:=hm.dl [1,0]
 show Out (funP ws i) _ _
 rw [show funP ws i=.error _ from (z0b hq5).trans ((z0b hv30).trans ((z0b hq32).trans (z0j hq35)))]
 exact ⟨rfl,hm.le (le23)⟩
 replace hm:=hm.dl [1,0]
 show Out (funP ws i) _ _
 rw [show funP ws i=.error _ from (z0b hq5).trans ((z0b hv30).trans (z0j hq32))]
 exact ⟨rfl,hm.le (le23)⟩
 replace hm:=hm.dl [0]
 show Out (funP ws i) _ _
 rw [show funP ws i=.error _ from z0j hq5]
 exact ⟨rfl,hm⟩
end Go.Sw

namespace Go.Sw
open Go.Proofs.Tryz
open Go.Proofs
set_option maxRecDepth 20000
set_option maxHeartbeats 4000000
theorem words_ok {Φ:Fz} {K:List Res} {w:World} {t:Bs} (hm:Mem Φ K w) :
  Calls Tryz.prog 125 (List.toArray [.string t]) w (fun ee w'=>∃y:Nat,ee=.returned (.func (.func 174) (List.toArray []) (List.toArray [.pointer (some ⟨y,0,none⟩)]))∧True∧Mem Φ (.blk y (ob [.string t] 9)::K) w'):=by
 refine z0l func125 ntmps125 fun Q hQ a he =>?_
 refine Bx he hm fun b2 w hm a he =>?_
 refine Ret1 hQ he hm ?_
 exact ⟨_,rfl,trivial,hm⟩
theorem words1_ok {β:Type} {Φ:Fz} {w:World} {t:Bs} {bx l:Nat} {KY:List Bs→β→List Res} {z:β} (h2:t.size≤1000000) (hasc:AscB t)
  (hy:∀pre z K0 (k:Bs) w,pre.length < t.size→Mem Φ (K0++KY pre z) w→YieldAt Fence.wide 2 Tryz.prog l #[.string k] w (fun e w'=>e=.returned (.bool true)∧∃z',Mem Φ (K0++KY (pre++[k]) z') w'))
  (hm:Mem Φ (.blk bx (ob [.string t] 9)::KY [] z) w) :
  Calls Tryz.prog 174 (List.toArray [.func (.yield l) #[] #[],.pointer (some ⟨bx,0,none⟩)]) w (fun ee w'=>∃y:β,ee=.returned (.tuple #[])∧Mem Φ (KY (wordsF t) y) w'):=by
 refine z0l func174 ntmps174 fun Q hQ a he =>?_
 refine sq fun L1 hL1 =>?_
 refine go0 he hm fun a he =>?_
 refine hL1 _ _ ?_
 refine go0 he hm fun a he =>?_
 refine z8x (fun mm a w=>∃(i:Nat) (f:Nat) (pre:List Bs) (z0:β),mm=t.size - i∧EnvR 52 [(0,.func (.yield l) #[] #[]),(1,.pointer (some ⟨bx,0,none⟩)),(3,.int .i64 ((i:Nat):Int))] [] a∧Mem Φ (.blk bx (ob [.string t] 9)::KY pre z0) w∧(i≤t.size∧pre.length≤i∧t.size≤i+f∧wordsF t=pre++z5o t f i)) (t.size - 0) ⟨0,t.size,[],z,rfl,he.pk,hm,⟨Nat.zero_le _,Nat.zero_le _,by omega,rfl⟩⟩ ?_
 clear hm he
 rintro mm a w ⟨i,f,pre,z0,hmu,he,hm,hI3⟩ L2 hL2
 obtain ⟨hi0_,hi1_,hi2_,hI_⟩:=hI3
 refine sq fun L4 hL4 =>?_
 refine sq fun L5 hL5 =>?_
 refine go0 he hm fun a he =>?_
 by_cases h6:i < t.size
 refine go0 he hm fun a he =>?_
 refine hL5 _ _ ?_
 refine go0 he hm fun a he =>?_
 refine hL4 _ _ ?_
 refine go0 he hm fun a he =>?_
 refine sq fun L7 hL7 =>?_
 refine go0 he hm fun a he =>?_
 obtain ⟨c8,hc9⟩:=byte_of_lt h6
 refine Qq he hm (fun a he =>?_) (o:=by exact fun _ _ _ he hs=>y1a i c8 he rfl rfl runUnderlying9 hc9)
 refine go0 he hm fun a he =>?_
 refine hL7 _ _ ?_
 refine go0 he hm fun a he =>?_
 refine sq fun L10 hL10 =>?_
 have hJ11:∀a w,(EnvR 52 [(0,.func (.yield l) #[] #[]),(1,.pointer (some ⟨bx,0,none⟩)),(3,.int .i64 ((i:Nat):Int)),(11,.int .u8 ((c8.toNat:Nat):Int)),(34,.bool (decide (z0m t i=32∨z0m t i=10)))] [] a∧Mem Φ (.blk bx (ob [.string t] 9)::KY pre z0) w∧(True))→L10 a w:=by
  clear hm he
  rintro a w ⟨he,hm,hI12⟩
  refine hL10 _ _ ?_
  generalize hb14:(decide (z0m t i=32∨z0m t i=10))=bb13 at he
  cases bb13
  refine go0 he hm fun a he =>?_
  refine sq fun L15 hL15 =>?_
  have hJ16:∀a w,(EnvR 52 [(0,.func (.yield l) #[] #[]),(1,.pointer (some ⟨bx,0,none⟩)),(3,.int .i64 ((i:Nat):Int)),(39,.bool (decide (z0m t i=40∨z0m t i=41)))] [] a∧Mem Φ (.blk bx (ob [.string t] 9)::KY pre z0) w∧(True))→L15 a w:=by
   clear hm he
   rintro a w ⟨he,hm,hI17⟩
   refine hL15 _ _ ?_
   generalize hb19:(decide (z0m t i=40∨z0m t i=41))=bb18 at he
   cases bb18
   refine go0 he hm fun a he =>?_
   refine sq fun L20 hL20 =>?_
   refine go0 he hm fun a he =>?_
   have hwl_:=wordLen_le (t:=t) (i:=i) (by omega)
   have hwp_:=wordLen_pos h6 (of_decide_eq_false hb14) (of_decide_eq_false hb19)
   refine go0 he hm fun a he =>?_
   refine Qq he hm (fun a he =>?_) (o:=by exact fun _ _ _ he hs=>z3j i (t.size) he rfl runUnderlying9 ⟨_,rfl⟩ rfl (by omega) (by exact Nat.le_refl _))
   refine z0y call175 he hm (fun w hm a he =>?_) (c:=anyIx_ok (i:=i) hasc (by omega) (by omega) hm)
   refine go0 he hm fun a he =>?_
   refine hL20 _ _ ?_
   refine sq fun L21 hL21 =>?_
   have hJ22:∀a w,(EnvR 52 [(0,.func (.yield l) #[] #[]),(1,.pointer (some ⟨bx,0,none⟩)),(3,.int .i64 ((i:Nat):Int)),(4,.int .i64 ((z1x t i:Nat):Int))] [] a∧Mem Φ (.blk bx (ob [.string t] 9)::KY pre z0) w∧(True))→L21 a w:=by
    clear hm he
    rintro a w ⟨he,hm,hI23⟩
    refine hL21 _ _ ?_
    refine sq fun L24 hL24 =>?_
    refine sq fun L25 hL25 =>?_
    refine wp_region_in ?_
    refine z9j he (by intro c h;cases h) (z4g he rfl) rfl fun a he =>?_
    refine z9j he (by intro c h;cases h) (z5b 0 he hm.toSees rfl rfl rfl isAgg9) rfl fun a he =>?_
    refine z9j he (by intro c h;cases h) (z4g he rfl) rfl fun a he =>?_
    refine z9j he (by intro c h;cases h) (z4g he rfl) rfl fun a he =>?_
    refine z9j he (by intro c h;cases h) (z4g he rfl) rfl fun a he =>?_
    refine z9j he (by intro c h;cases h) (z7g (i:=i) (j:=z1x t i) he rfl rfl (by omega)) rfl fun a he =>?_
    refine z9j he (by intro c h;cases h) (z3j i (i+z1x t i) he rfl runUnderlying9 ⟨_,rfl⟩ ⟨_,rfl⟩ (by omega) (by omega)) rfl fun a he =>?_
    refine in_yield (v:=.string (t.extract i (i+z1x t i))) he rfl rfl rfl (hy pre z0 [.blk bx (ob [.string t] 9)] (t.extract i (i+z1x t i)) w (by omega) hm) fun w hJ_ a he =>?_
    obtain ⟨z26,hm⟩:=hJ_
    replace hm:=hm.nf
    refine z9j he (by intro c h;cases h) (y_not he rfl) rfl fun a he =>?_
    refine wpListIn_nil ?_
    refine hL25 _ _ ?_
    refine go0 he hm fun a he =>?_
    refine hL24 _ _ ?_
    refine go0 he hm fun a he =>?_
    refine Qq he hm (fun a he =>?_) (o:=by exact fun _ _ _ he hs=>z7g (i:=i) (j:=(z1x t i)) he rfl rfl (by omega))
    refine go0 he hm fun a he =>?_
    refine hL2 _ _ _ (by subst hmu;omega) ⟨((i+(z1x t i))),(f - 1),(pre++[(t.extract i (i+z1x t i))]),(z26),rfl,he.pk,hm,?_⟩
    exact ⟨by omega,by simp only [List.length_append,List.length_cons,List.length_nil];omega,by omega,by rw [hI_,words_word h6 (by omega) (of_decide_eq_false hb14) (of_decide_eq_false hb19),List.append_assoc];rfl⟩
   refine sq fun L27 hL27 =>?_
   refine go0 he hm fun a he =>?_
   by_cases h28:(if i+z1x t i < t.size then ((z1x t i:Nat):Int) else -1) < 0
   refine go0 he hm fun a he =>?_
   refine hL27 _ _ ?_
   refine go0 he hm fun a he =>?_
   have hwn_:=word_neg (by omega) h28
   refine go0 he hm fun a he =>?_
   refine Qq he hm (fun a he =>?_) (o:=by exact fun _ _ _ he hs=>z7h ((z1x t i:Nat):Int) he rfl rfl (by rw [z1d (by omega)];omega))
   refine go0 he hm fun a he =>?_
   exact hJ22 _ _ ⟨he.pk,hm,trivial⟩
   refine go0 he hm fun a he =>?_
   refine hL27 _ _ ?_
   refine go0 he hm fun a he =>?_
   rw [word_pos h28] at he
   exact hJ22 _ _ ⟨he.pk,hm,trivial⟩
   refine go0 he hm fun a he =>?_
   refine sq fun L29 hL29 =>?_
   refine sq fun L30 hL30 =>?_
   refine wp_region_in ?_
   refine z9j he (by intro c h;cases h) (z4g he rfl) rfl fun a he =>?_
   refine z9j he (by intro c h;cases h) (z5b 0 he hm.toSees rfl rfl rfl isAgg9) rfl fun a he =>?_
   refine z9j he (by intro c h;cases h) (z4g he rfl) rfl fun a he =>?_
   refine z9j he (by intro c h;cases h) (z4g he rfl) rfl fun a he =>?_
   refine z9j he (by intro c h;cases h) (z7g (i:=i) (j:=1) he rfl rfl (by omega)) rfl fun a he =>?_
   refine z9j he (by intro c h;cases h) (z3j i (i+1) he rfl runUnderlying9 ⟨_,rfl⟩ ⟨_,rfl⟩ (by omega) (by omega)) rfl fun a he =>?_
   refine in_yield (v:=.string (t.extract i (i+1))) he rfl rfl rfl (hy pre z0 [.blk bx (ob [.string t] 9)] (t.extract i (i+1)) w (by omega) hm) fun w hJ_ a he =>?_
   obtain ⟨z31,hm⟩:=hJ_
   replace hm:=hm.nf
   refine z9j he (by intro c h;cases h) (y_not he rfl) rfl fun a he =>?_
   refine wpListIn_nil ?_
   refine hL30 _ _ ?_
   refine go0 he hm fun a he =>?_
   refine hL29 _ _ ?_
   refine go0 he hm fun a he =>?_
   refine hL2 _ _ _ (by subst hmu;omega) ⟨((i+1)),(f - 1),(pre++[(t.extract i (i+1))]),(z31),rfl,he.pk,hm,?_⟩
   exact ⟨by omega,by simp only [List.length_append,List.length_cons,List.length_nil];omega,by omega,by rw [hI_,words_par h6 (by omega) (of_decide_eq_false hb14) (of_decide_eq_true hb19),List.append_assoc];rfl⟩
  refine sq fun L32 hL32 =>?_
  refine go0 he hm fun a he =>?_
  by_cases h33:c8.toNat=40
  refine go0 he hm fun a he =>?_
  refine hL32 _ _ ?_
  refine go0 he hm fun a he =>?_
  exact hJ16 _ _ (by rw [show decide (z0m t i=40∨z0m t i=41)=true from decide_eq_true (.inl ((z2r hc9).trans h33))];exact ⟨he.pk,hm,trivial⟩)
  refine go0 he hm fun a he =>?_
  refine hL32 _ _ ?_
  refine go0 he hm fun a he =>?_
  by_cases h34:c8.toNat=41
  refine go0 he hm fun a he =>?_
  exact hJ16 _ _ (by rw [show decide (z0m t i=40∨z0m t i=41)=true from decide_eq_true (.inr ((z2r hc9).trans h34))];exact ⟨he.pk,hm,trivial⟩)
  refine go0 he hm fun a he =>?_
  exact hJ16 _ _ (by rw [show decide (z0m t i=40∨z0m t i=41)=false from decide_eq_false (by rw [z2r hc9];exact fun hh=>hh.elim h33 h34)];exact ⟨he.pk,hm,trivial⟩)
  refine go0 he hm fun a he =>?_
  refine hL2 _ _ _ (by subst hmu;omega) ⟨(i+1),(f - 1),(pre),(z0),rfl,he.pk,hm,?_⟩
  exact ⟨by omega,by omega,by omega,by rw [hI_,words_sp h6 (by omega) (of_decide_eq_true hb14)]⟩
 refine sq fun L35 hL35 =>?_
 refine go0 he hm fun a he =>?_
 by_cases h36:c8.toNat=32
 refine go0 he hm fun a he =>?_
 refine hL35 _ _ ?_
 refine go0 he hm fun a he =>?_
 exact hJ11 _ _ (by rw [show decide (z0m t i=32∨z0m t i=10)=true from decide_eq_true (.inl ((z2r hc9).trans h36))];exact ⟨he.pk,hm,trivial⟩)
 refine go0 he hm fun a he =>?_
 refine hL35 _ _ ?_
 refine go0 he hm fun a he =>?_
 by_cases h37:c8.toNat=10
 refine go0 he hm fun a he =>?_
 exact hJ11 _ _ (by rw [show decide (z0m t i=32∨z0m t i=10)=true from decide_eq_true (.inr ((z2r hc9).trans h37))];exact ⟨he.pk,hm,trivial⟩)
 refine go0 he hm fun a he =>?_
 exact hJ11 _ _ (by rw [show decide (z0m t i=32∨z0m t i=10)=false from decide_eq_false (by rw [z2r hc9];exact fun hh=>hh.elim h36 h37)];exact ⟨he.pk,hm,trivial⟩)
 refine go0 he hm fun a he =>?_
 refine hL5 _ _ ?_
 refine go0 he hm fun a he =>?_
 replace hm:=hm.dl [0]
 refine hQ _ _ _ (ret0N he results174 ?_)
 rw [hI_,words_end h6,List.append_nil];exact ⟨z0,rfl,hm⟩
end Go.Sw

namespace Go.Sw
open Go.Proofs
set_option maxRecDepth 20000
set_option maxHeartbeats 4000000
theorem read_rest {Φ:Fz} {K:List Res} {w:World} {a:Act} {D:List Deferred} {Q:Exit→Act→World→Prop} {rs:Value} {ws:List Bs} {c0 wd rp r:Nat} (G:Glob Φ) (hE:ExprOk ws 250) (rl:SliceOf RStr Φ 1 rs ws) (hws:ws.length≤1000000)
  (hR:∀{Ψ:Fz} {a:Act} {w:World} {C:Core} {u0 u1 u2 u3:Value},z2n ws (ws.length+1) ⟨[],[],[],[]⟩ 0=.ok C→Φ.Le Ψ→SliceOf RData Ψ 2 u0 C.datas→SliceOf RParam Ψ 2 u1 C.inputs→SliceOf RFun Ψ 8 u2 C.funs→EnvR 96 [(3,.pointer (some ⟨wd,0,none⟩)),(2,.pointer (some ⟨c0,0,none⟩))] D a→Mem Ψ (.blk c0 (ob [u0,u1,u2,u3] 27)::.blk wd (ob [.int .i64 ((0:Nat):Int)] 3)::.gs u3 9 1 (strs C.outputs)::K) w→Q .ret a w)
  (hP:∀{Ψ:Fz} {a:Act} {w:World} {n:Nat} {u0 u1 u2 u3 x:Value},z2n ws (ws.length+1) ⟨[],[],[],[]⟩ 0=.error n→Φ.Le Ψ→EnvR 96 [(3,.pointer (some ⟨wd,0,none⟩)),(2,.pointer (some ⟨c0,0,none⟩))] D a→Mem Ψ (.blk c0 (ob [u0,u1,u2,u3] 27)::.blk wd (ob [x] 3)::K) w→Q (.panic (z8s n)) a w)
  (he:EnvR 96 [(2,.pointer (some ⟨c0,0,none⟩)),(3,.pointer (some ⟨wd,0,none⟩)),(4,.pointer (some ⟨rp,0,none⟩))] D a) (hm:Mem Φ (.blk r (ob [rs,.int .i64 ((0:Nat):Int)] 208)::.blk rp (ob [.pointer (some ⟨r,0,none⟩)] 206)::.blk c0 (ob [.slice none 0 0,.slice none 0 0,.slice none 0 0,.slice none 0 0] 27)::.blk wd (ob [.int .i64 ((0:Nat):Int)] 3)::K) w) :
  (seqR (seqR (seqR (seqR (Tryz.f74.body.getD .skip))))).wp Tryz.prog Q a w:=by
 obtain ⟨pw,cw,rfl,hmw,hnw⟩:=rl.fm
 change (Code.seq _ _).wp _ _ _ _
 refine go he hm fun a he =>?_
 replace hm:=hm.nilRow 133 2
 replace hm:=hm.nf
 replace hm:=hm.nilRow 72 2
 replace hm:=hm.nf
 replace hm:=hm.nilRow 68 8
 replace hm:=hm.nf
 replace hm:=hm.nilRow 9 1
 replace hm:=hm.nf
 refine z1i (he.ks [2,3,4]) hm (fun R mm a w=>∃(Ψ2:Fz) (j:Nat) (f:Nat) (u0:Value) (u1:Value) (u2:Value) (u3:Value) (d0:List Value) (d1:List Value) (d2:List Value) (C:Core),mm=ws.length - j∧R Ψ2 [] [(0,.gs (u3) 9 1 (strs C.outputs)),(1,.gs (u2) 68 8 d2),(2,.gs (u1) 72 2 d1),(3,.gs (u0) 133 2 d0),(4,.blk r (ob [.slice pw ws.length cw,.int .i64 ((j:Nat):Int)] 208)),(6,.blk c0 (ob [u0,u1,u2,u3] 27))] a w∧(Φ.Le Ψ2∧(Chunks (RData Ψ2) 2 d0 C.datas∧Chunks (RParam Ψ2) 2 d1 C.inputs∧Chunks (RFun Ψ2) 8 d2 C.funs∧(C.datas.length≤j∧C.inputs.length≤j∧C.funs.length≤j∧C.outputs.length≤j)∧j≤ws.length∧ws.length+1≤j+f∧z2n ws (ws.length+1) ⟨[],[],[],[]⟩ 0=z2n ws f C j))) (ws.length - 0) ⟨Φ,0,ws.length+1,.slice none 0 0,.slice none 0 0,.slice none 0 0,.slice none 0 0,[],[],[],⟨[],[],[],[]⟩,rfl,⟨he.pk,hm⟩,⟨Fz.Le.refl _,⟨rfl,rfl,rfl,⟨Nat.le_refl _,Nat.le_refl _,Nat.le_refl _,Nat.le_refl _⟩,Nat.zero_le _,by omega,rfl⟩⟩⟩ ?_
 clear hm he
 rintro mm a w ⟨Ψ2,j,f,u0,u1,u2,u3,d0,d1,d2,C,hmu,⟨he,hm⟩,hI5⟩ L4 hL4
 replace hm:=hm.nf
 obtain ⟨le3,hI5⟩:=hI5
 replace rl:=rl.up le3
 replace G:=G.mono le3
 obtain ⟨hch0,hch1,hch2,hln_,hj,hf_,hI_⟩:=hI5
 refine Reg [2,1,1,2,2,1,1,2,1,1] [0,1,2,3,4,5,6,7] he hm fun w hm a he =>?_
 refine go he hm fun a he =>?_
 by_cases h8:j < ws.length
 refine Sto 4 he hm fun w hm a he =>?_
 refine Reg [2,1,1,2,2,1,1,2,1,1,2] [0,1,2,3,4,5,6,7] he hm fun w hm a he =>?_
 refine Qq he hm (fun a he =>?_) (o:=by exact fun _ _ _ he hs=>z7h ((j:Nat):Int) he rfl rfl (by rw [z1d (by omega)];omega))
 obtain ⟨q11,rfl,x12,hx13,cs14,hl15,ha16,hr17⟩:=rl.el hnw h8
 obtain rfl:cs14=[.string x12]:=hr17
 refine go he hm fun a he =>?_
 by_cases h19:x12=(⟨#[100,97,116,97]⟩:ByteArray)
 refine go he hm fun a he =>?_
 refine z9f (E0:=[(3,.pointer (some ⟨wd,0,none⟩)),(2,.pointer (some ⟨c0,0,none⟩))]) [1,2,2,0,0,0,1,0] (.q 0 (.q 1 (.q 2 (.e 3 (.e 4 (.e 5 (.q 6 (.e 7 (.done))))))))) [.gs (u3) 9 1 (strs C.outputs),.gs (u2) 68 8 d2,.gs (u1) 72 2 d1,.blk rp (ob [.pointer (some ⟨r,0,none⟩)] 206),.blk c0 (ob [u0,u1,u2,u3] 27),.blk wd (ob [.int .i64 ((0:Nat):Int)] 3)] (he.pk) hm mixed (by kernel_rfl) (by simp) (by kernel_rfl) fun w hm =>?_
 refine go he hm fun a he =>?_
 replace hm:=hm.pl 4
 refine d_e he rfl rfl rfl (eff_callX he rfl Tryz.call126 (rdata_ok G (i:=(j+1)) rl hws (by omega) hm) (fun q20 y21 w hq22 hG23 hm=>⟨fun _=>hm.sn ((Fz.Le.refl _).trans (hG23.1)),fun a he =>?_⟩) (fun q20 w hq22 hm=>fun a he =>?_))
 obtain ⟨Ψ24,d25⟩:=y21
 obtain ⟨le26,hr27⟩:=hG23
 simp only at le26 hr27 hm he
 have hgo28:=data_le hq22
 replace rl:=rl.up le26
 replace G:=G.mono le26
 replace hch0:=hch0.mono fun _ _ h=>RData.mono _ _ _ _ le26 h
 replace hch1:=hch1.mono fun _ _ h=>RParam.mono _ _ _ _ le26 h
 replace hch2:=hch2.mono fun _ _ h=>RFun.mono _ _ _ _ le26 h
 replace ha16:=ha16.mono le26
 replace hm:=hm.nf
 obtain ⟨s29,rfl,h30⟩:=id hr27
 obtain ⟨p31,c32,rfl,hm33,hn34⟩:=h30.fm
 refine BldS he hm fun v35 w hm a he =>?_
 refine App_ 5 rt_22 he hm (fun v36 w hm a he =>?_) (hb:=by have h_:=hch0.length;rw [h_];simp only [List.length_cons,List.length_nil];omega)
 refine Sto 7 he hm fun w hm a he =>?_
 refine go he hm fun a he =>?_
 replace hm:=hm.ar [0] [7,7,7,3,7,7,7,7]
 refine hL4 _ _ _ (by subst hmu;omega) ⟨(Ψ24),(q20.2),(f - 1),(v36),(u1),(u2),(u3),((d0++[.string q20.1.name,.slice p31 q20.1.cons.length c32])),(d1),(d2),({ C with datas:=C.datas++[q20.1] }),rfl,⟨he.pk,by exact hm⟩,?_⟩
 refine ⟨(le3).trans le26,?_⟩
 exact ⟨(hch0.snoc (k:=2) (x:=q20.1) rfl hr27),hch1,hch2,⟨by show (C.datas++[q20.1]).length≤_;simp only [List.length_append,List.length_cons,List.length_nil];omega,by show C.inputs.length≤_;omega,by show C.funs.length≤_;omega,by show C.outputs.length≤_;omega⟩,by omega,by omega,hI_.trans (decls_data h8 (by omega) ((z2t hx13).trans h19) hq22)⟩
 replace hm:=hm.dl [4,3,2,1,0]
 exact hP (hI_.trans (decls_dataE h8 (by omega) ((z2t hx13).trans h19) hq22)) (le3) (he.pk) hm
 refine go he hm fun a he =>?_
 by_cases h38:x12=(⟨#[105,110,112,117,116]⟩:ByteArray)
 refine go he hm fun a he =>?_
 refine z9f (E0:=[(3,.pointer (some ⟨wd,0,none⟩)),(2,.pointer (some ⟨c0,0,none⟩))]) [1,2,2,0,0,0,1,0] (.q 0 (.q 1 (.q 2 (.e 3 (.e 4 (.e 5 (.q 6 (.e 7 (.done))))))))) [.gs (u3) 9 1 (strs C.outputs),.gs (u2) 68 8 d2,.gs (u0) 133 2 d0,.blk rp (ob [.pointer (some ⟨r,0,none⟩)] 206),.blk c0 (ob [u0,u1,u2,u3] 27),.blk wd (ob [.int .i64 ((0:Nat):Int)] 3)] (he.pk) hm mixed (by kernel_rfl) (by simp) (by kernel_rfl) fun w hm =>?_
 refine go he hm fun a he =>?_
 replace hm:=hm.pl 4
 refine d_e he rfl rfl rfl (eff_callE he rfl Tryz.call127 (rparam_ok G (i:=(j+1)) rl hws (by omega) hm) (fun q39 w hq40 hm=>⟨fun _=>hm.sn (Fz.Le.refl _),fun a he =>?_⟩) (fun q39 w hq40 hm=>fun a he =>?_))
 have hleq39:=param_le hq40
 refine BldS he hm fun v41 w hm a he =>?_
 refine App_ 4 rt_23 he hm (fun v42 w hm a he =>?_) (hb:=by have h_:=hch1.length;rw [h_];simp only [List.length_cons,List.length_nil];omega)
 refine Sto 7 he hm fun w hm a he =>?_
 refine go he hm fun a he =>?_
 replace hm:=hm.ar [0] [7,7,7,3,7,7,7,7]
 refine hL4 _ _ _ (by subst hmu;omega) ⟨(Ψ2),(q39.2),(f - 1),(u0),(v42),(u2),(u3),(d0),((d1++[.string q39.1.name,.string q39.1.type])),(d2),({ C with inputs:=C.inputs++[q39.1] }),rfl,⟨he.pk,by exact hm⟩,?_⟩
 refine ⟨le3,?_⟩
 exact ⟨hch0,(hch1.snoc (k:=2) (x:=q39.1) rfl rfl),hch2,⟨by show C.datas.length≤_;omega,by show (C.inputs++[q39.1]).length≤_;simp only [List.length_append,List.length_cons,List.length_nil];omega,by show C.funs.length≤_;omega,by show C.outputs.length≤_;omega⟩,by omega,by omega,hI_.trans (decls_input h8 (by omega) (fun h_=>h19 ((z2t hx13).symm.trans h_)) ((z2t hx13).trans h38) hq40)⟩
 replace hm:=hm.dl [4,3,2,1,0]
 exact hP (hI_.trans (decls_inputE h8 (by omega) (fun h_=>h19 ((z2t hx13).symm.trans h_)) ((z2t hx13).trans h38) hq40)) (le3) (he.pk) hm
 refine go he hm fun a he =>?_
 by_cases h44:x12=(⟨#[102,117,110]⟩:ByteArray)
 refine go he hm fun a he =>?_
 refine z9f (E0:=[(3,.pointer (some ⟨wd,0,none⟩)),(2,.pointer (some ⟨c0,0,none⟩))]) [1,2,2,0,0,0,1,0] (.q 0 (.q 1 (.q 2 (.e 3 (.e 4 (.e 5 (.q 6 (.e 7 (.done))))))))) [.gs (u3) 9 1 (strs C.outputs),.gs (u1) 72 2 d1,.gs (u0) 133 2 d0,.blk rp (ob [.pointer (some ⟨r,0,none⟩)] 206),.blk c0 (ob [u0,u1,u2,u3] 27),.blk wd (ob [.int .i64 ((0:Nat):Int)] 3)] (he.pk) hm mixed (by kernel_rfl) (by simp) (by kernel_rfl) fun w hm =>?_
 refine go he hm fun a he =>?_
 replace hm:=hm.pl 4
 refine d_e he rfl rfl rfl (eff_callX he rfl Tryz.call128 (rfun_ok hE G (i:=(j+1)) rl hws (by omega) hm) (fun q45 y46 w hq47 hG48 hm=>⟨fun _=>hm.sn ((Fz.Le.refl _).trans (hG48.1)),fun a he =>?_⟩) (fun q45 w hq47 hm=>fun a he =>?_))
 obtain ⟨Ψ49,d50⟩:=y46
 obtain ⟨le51,hr52⟩:=hG48
 simp only at le51 hr52 hm he
 have hgo53:=fun_le hq47
 replace rl:=rl.up le51
 replace G:=G.mono le51
 replace hch0:=hch0.mono fun _ _ h=>RData.mono _ _ _ _ le51 h
 replace hch1:=hch1.mono fun _ _ h=>RParam.mono _ _ _ _ le51 h
 replace hch2:=hch2.mono fun _ _ h=>RFun.mono _ _ _ _ le51 h
 replace ha16:=ha16.mono le51
 replace hm:=hm.nf
 obtain ⟨s54,b60,rfl,h55,h61⟩:=id hr52
 obtain ⟨p56,c57,rfl,hm58,hn59⟩:=h55.fm
 obtain ⟨p64,c65,p70,c71,rfl,hi74,h63,h69,hm66,hn67,hm72,hn73⟩:=REx.fm h61
 refine BldS he hm fun v75 w hm a he =>?_
 refine App_ 3 rt_24 he hm (fun v76 w hm a he =>?_) (hb:=by have h_:=hch2.length;rw [h_];simp only [List.length_cons,List.length_nil];omega)
 refine Sto 7 he hm fun w hm a he =>?_
 refine go he hm fun a he =>?_
 replace hm:=hm.ar [0] [7,7,7,3,7,7,7,7]
 refine hL4 _ _ _ (by subst hmu;omega) ⟨(Ψ49),(q45.2),(f - 1),(u0),(u1),(v76),(u3),(d0),(d1),((d2++[.string q45.1.name,.slice p56 q45.1.params.length c57,.string q45.1.result,.int .i64 (q45.1.body.kind),.int .i64 (q45.1.body.num),.string q45.1.body.name,.slice p64 q45.1.body.args.length c65,.slice p70 q45.1.body.arms.length c71])),({ C with funs:=C.funs++[q45.1] }),rfl,⟨he.pk,by exact hm⟩,?_⟩
 refine ⟨(le3).trans le51,?_⟩
 exact ⟨hch0,hch1,(hch2.snoc (k:=8) (x:=q45.1) rfl hr52),⟨by show C.datas.length≤_;omega,by show C.inputs.length≤_;omega,by show (C.funs++[q45.1]).length≤_;simp only [List.length_append,List.length_cons,List.length_nil];omega,by show C.outputs.length≤_;omega⟩,by omega,by omega,hI_.trans (decls_fun h8 (by omega) (fun h_=>h19 ((z2t hx13).symm.trans h_)) (fun h_=>h38 ((z2t hx13).symm.trans h_)) ((z2t hx13).trans h44) hq47)⟩
 replace hm:=hm.dl [4,3,2,1,0]
 exact hP (hI_.trans (decls_funE h8 (by omega) (fun h_=>h19 ((z2t hx13).symm.trans h_)) (fun h_=>h38 ((z2t hx13).symm.trans h_)) ((z2t hx13).trans h44) hq47)) (le3) (he.pk) hm
 refine go he hm fun a he =>?_
 by_cases h78:x12=(⟨#[111,117,116,112,117,116]⟩:ByteArray)
 refine go he hm fun a he =>?_
 refine z9f (E0:=[(3,.pointer (some ⟨wd,0,none⟩)),(2,.pointer (some ⟨c0,0,none⟩))]) [1,2,2,0,0,0,1,0] (.q 0 (.q 1 (.q 2 (.e 3 (.e 4 (.e 5 (.q 6 (.e 7 (.done))))))))) [.gs (u2) 68 8 d2,.gs (u1) 72 2 d1,.gs (u0) 133 2 d0,.blk rp (ob [.pointer (some ⟨r,0,none⟩)] 206),.blk c0 (ob [u0,u1,u2,u3] 27),.blk wd (ob [.int .i64 ((0:Nat):Int)] 3)] (he.pk) hm mixed (by kernel_rfl) (by simp) (by kernel_rfl) fun w hm =>?_
 refine go he hm fun a he =>?_
 replace hm:=hm.pl 4
 refine d_e he rfl rfl rfl (eff_callE he rfl Tryz.call129 (z7p G (i:=(j+1)) rl hws (by omega) hm) (fun q79 w hq80 hm=>⟨fun _=>hm.sn (Fz.Le.refl _),fun a he =>?_⟩) (fun q79 w hq80 hm=>fun a he =>?_))
 have hleq79:=z2q hq80
 refine BldS he hm fun v81 w hm a he =>?_
 refine App_ 2 z9k he hm (fun v82 w hm a he =>?_) (hb:=by simp [z1m];omega)
 refine Sto 7 he hm fun w hm a he =>?_
 refine go he hm fun a he =>?_
 first | rw [z2u] at hm | rw [← z1l] at hm
 replace hm:=hm.ar [0] [7,7,7,3,7,7,7,7]
 refine hL4 _ _ _ (by subst hmu;omega) ⟨(Ψ2),(q79.2),(f - 1),(u0),(u1),(u2),(v82),(d0),(d1),(d2),({ C with outputs:=C.outputs++[q79.1] }),rfl,⟨he.pk,by exact hm⟩,?_⟩
 refine ⟨le3,?_⟩
 exact ⟨hch0,hch1,hch2,⟨by show C.datas.length≤_;omega,by show C.inputs.length≤_;omega,by show C.funs.length≤_;omega,by show (C.outputs++[q79.1]).length≤_;simp only [List.length_append,List.length_cons,List.length_nil];omega⟩,by omega,by omega,hI_.trans (decls_out h8 (by omega) (fun h_=>h19 ((z2t hx13).symm.trans h_)) (fun h_=>h38 ((z2t hx13).symm.trans h_)) (fun h_=>h44 ((z2t hx13).symm.trans h_)) ((z2t hx13).trans h78) hq80)⟩
 replace hm:=hm.dl [4,3,2,1,0]
 exact hP (hI_.trans (decls_outE h8 (by omega) (fun h_=>h19 ((z2t hx13).symm.trans h_)) (fun h_=>h38 ((z2t hx13).symm.trans h_)) (fun h_=>h44 ((z2t hx13).symm.trans h_)) ((z2t hx13).trans h78) hq80)) (le3) (he.pk) hm
 refine Qq he hm (fun a he =>?_) (o:=by exact fun _ _ _ he hs=>z7h ((j:Nat):Int) he rfl rfl (by rw [z1d (by omega)];omega))
 refine Sto 4 he hm fun w hm a he =>?_
 refine go he hm fun a he =>?_
 replace hm:=hm.pl 4
 refine stP he rfl rfl rfl (z9r he rfl Tryz.call130 (rfail_ok (i:=j) rl hws (by omega) hm) (fun w hm=>fun a he =>?_))
 replace hm:=hm.dl [4,3,2,1,0]
 exact hP (hI_.trans (decls_bad h8 (by omega) (fun h_=>h19 ((z2t hx13).symm.trans h_)) (fun h_=>h38 ((z2t hx13).symm.trans h_)) (fun h_=>h44 ((z2t hx13).symm.trans h_)) (fun h_=>h78 ((z2t hx13).symm.trans h_)))) (le3) (he.pk) hm
 refine go he hm fun a he =>?_
 have hm0_:=hm
 clear hm
 obtain ⟨Ψ85,le86,hm,hrow87⟩:=hm0_.freezeRow (i:=3) rfl
 clear hm0_
 replace G:=G.mono le86
 replace hch0:=hch0.mono fun _ _ h=>RData.mono _ _ _ _ le86 h
 replace hch1:=hch1.mono fun _ _ h=>RParam.mono _ _ _ _ le86 h
 replace hch2:=hch2.mono fun _ _ h=>RFun.mono _ _ _ _ le86 h
 replace hm:=hm.nf
 have hsl88:SliceOf RData Ψ85 2 _ (C.datas):=⟨_,hrow87,hch0⟩
 obtain ⟨p89,c90,hv_,hm91,hn92⟩:=hsl88.form (by decide)
 have hmk_:=hm
 clear hm
 subst hv_
 have hm:=hmk_
 clear hmk_
 have hm0_:=hm
 clear hm
 obtain ⟨Ψ93,le94,hm,hrow95⟩:=hm0_.freezeRow (i:=2) rfl
 clear hm0_
 replace G:=G.mono le94
 replace hch1:=hch1.mono fun _ _ h=>RParam.mono _ _ _ _ le94 h
 replace hch2:=hch2.mono fun _ _ h=>RFun.mono _ _ _ _ le94 h
 replace hsl88:=hsl88.up le94
 replace hm:=hm.nf
 have hsl96:SliceOf RParam Ψ93 2 _ (C.inputs):=⟨_,hrow95,hch1⟩
 obtain ⟨p97,c98,hv_,hm99,hn100⟩:=hsl96.form (by decide)
 have hmk_:=hm
 clear hm
 subst hv_
 have hm:=hmk_
 clear hmk_
 have hm0_:=hm
 clear hm
 obtain ⟨Ψ101,le102,hm,hrow103⟩:=hm0_.freezeRow (i:=1) rfl
 clear hm0_
 replace G:=G.mono le102
 replace hch2:=hch2.mono fun _ _ h=>RFun.mono _ _ _ _ le102 h
 replace hsl88:=hsl88.up le102
 replace hsl96:=hsl96.up le102
 replace hm:=hm.nf
 have hsl104:SliceOf RFun Ψ101 8 _ (C.funs):=⟨_,hrow103,hch2⟩
 obtain ⟨p105,c106,hv_,hm107,hn108⟩:=hsl104.form (by decide)
 have hmk_:=hm
 clear hm
 subst hv_
 have hm:=hmk_
 clear hmk_
 obtain ⟨p3,m3,q3,hu3_,_,_⟩:=hm.toSees.gsForm (i:=0) rfl
 have hmk_:=hm
 clear hm
 subst hu3_
 have hm:=hmk_
 clear hmk_
 refine Sto 3 he hm fun w hm a he =>?_
 refine Sto 4 he hm fun w hm a he =>?_
 refine go he hm fun a he =>?_
 replace hm:=hm.ar [2,1] [2,2]
 exact hR (hI_.trans (decls_end h8 (by omega))) ((((le3).trans le86).trans le94).trans le102) hsl88 hsl96 hsl104 (he.pk) hm
end Go.Sw

namespace Go.Sw
open Go.Proofs.Tryz
open Go.Proofs
abbrev wrongRE (n:Nat) (r:Bool):PanicEntry:={ v:=.iface 204 (.agg #[.int .i64 ((n:Nat):Int)]),recovered:=r }
theorem fo_204_0:z0k Tryz.prog 204 0 0:=z0d runUnderlying204 rfl sizeOf3 (by decide) rfl
set_option maxRecDepth 20000 in
set_option maxHeartbeats 4000000 in
theorem catchR_wrong {Φ:Fz} {K:List Res} {w:World} {bc bw n:Nat} {s t u v x:Value} (hm:Mem Φ (.blk bc (ob [s,t,u,v] 27)::.blk bw (ob [x] 3)::K) w) :
  CallsD Tryz.prog 124 #[.pointer (some ⟨bc,0,none⟩),.pointer (some ⟨bw,0,none⟩)] (.panicking (z8s n)) w fun e u' w' =>
   e=.returned (.tuple #[])∧u'=.panicking [wrongRE n true]∧Mem Φ (.blk bc (ob [.slice none 0 0,.slice none 0 0,.slice none 0 0,.slice none 0 0] 27)::.blk bw (ob [.int .i64 ((n:Nat):Int)] 3)::K) w':=by
 generalize hR:(fun (e:Ending) (u':FrameMode) (w':World)=>e=.returned (.tuple #[])∧u'=.panicking [wrongRE n true]∧Mem Φ (.blk bc (ob [.slice none 0 0,.slice none 0 0,.slice none 0 0,.slice none 0 0] 27)::.blk bw (ob [.int .i64 ((n:Nat):Int)] 3)::K) w')=R
 refine callsD_of_wpS func124 rfl fun c₀ cs hu =>?_
 apply wpS_seq
 apply wpS_region
 show wpOpsS Tryz.prog _ _ [0,1] _ _ _
 simp [wpOpsS,go_sem,recoverD,hu,ntmps124,Exit.thenS,z8s]
 refine wpS_of_wp ?_
 generalize hc:(_::cs:List Frame)=cs'
 have hQ:∀(a:Act) (w':World),a.defers=[]→Mem Φ (.blk bc (ob [.slice none 0 0,.slice none 0 0,.slice none 0 0,.slice none 0 0] 27)::.blk bw (ob [.int .i64 ((n:Nat):Int)] 3)::K) w'→bodyPostS Tryz.prog Tryz.f124 c₀ cs R .normal a cs' w':=fun a w' hd hm =>
  ⟨hd,.panicking [wrongRE n true],hc.symm,.tuple #[],results_none rfl _ _ _,by subst hR;exact ⟨rfl,rfl,hm⟩⟩
 generalize hact:(Act.mk _ [])=a
 have he:EnvR 19 [(2,.iface 204 (.agg (List.toArray [.int .i64 ((n:Nat):Int)]))),(1,.pointer (some ⟨bw,0,none⟩)),(0,.pointer (some ⟨bc,0,none⟩))] [] a:=by
  subst hact
  refine ⟨by simp,fun t v h =>?_,rfl⟩
  obtain ⟨rfl,rfl⟩ | ⟨_,h⟩:=z5f h
  ·simp
  ·obtain ⟨rfl,rfl⟩ | ⟨_,h⟩:=z5f h
   ·simp
   ·obtain ⟨rfl,rfl⟩ | ⟨_,h⟩:=z5f h
    ·simp
    ·cases h
 clear hact
 refine sq fun L1 hL1 =>?_
 refine wp_region_lit ?_
 refine z3k he (z4g he rfl) rfl fun a he =>?_
 refine z3k he (y0z (v:=.bool true) he rfl rfl rfl (by kernel_rfl)) rfl fun a he =>?_
 refine wpList_nil ?_
 refine hL1 _ _ ?_
 refine if_t he rfl ?_
 refine sq fun L2 hL2 =>?_
 refine wp_region_lit ?_
 refine z3k he (z4g he rfl) rfl fun a he =>?_
 refine z3k he (y_assert he rfl runUnderlying204 (by intro ms h;cases h)) rfl fun a he =>?_
 refine z3k he (z4g he rfl) rfl fun a he=>z3k he (z8t he rfl rfl) rfl fun a he=>z3k he (z8t he rfl rfl) rfl fun a he =>?_
 refine st he rfl rfl rfl (z4j (cs:=[.int .i64 ((0:Nat):Int)]) hm zeroValue204 rfl fun b3 w hm a he =>?_)
 refine st0 he rfl rfl (z2f 0 (cs:=[.int .i64 ((0:Nat):Int)]) (vs:=[.int .i64 ((n:Nat):Int)]) he hm rfl rfl rfl rfl sizeOf204 rfl rfl rfl fun w hm a he =>?_)
 refine z3k he (z9h he rfl) rfl fun a he =>?_
 refine wpList_nil ?_
 refine hL2 _ _ ?_
 replace hm:Mem Φ (.blk b3 (ob [.int .i64 ((n:Nat):Int)] 204)::.blk bc (ob [s,t,u,v] 27)::.blk bw (ob [x] 3)::K) w:=hm
 refine sq fun L3 hL3 =>?_
 refine sq fun L4 hL4 =>?_
 refine wp_region_lit ?_
 refine z3k he (z4g he rfl) rfl fun a he=>z3k he (y_not he rfl) rfl fun a he =>?_
 refine wpList_nil ?_
 refine hL4 _ _ ?_
 refine if_f he rfl ?_
 refine wp_skip ?_
 refine hL3 _ _ ?_
 refine z8k [1,1,2,0,0] (.q 0 (.q 1 (.q 2 (.e 3 (.e 4 (.done)))))) [.blk b3 (ob [.int .i64 ((n:Nat):Int)] 204)] he hm mixed (by kernel_rfl) (by simp) fun w hm =>?_
 refine d_q1 he rfl rfl (fun w=>y_build (vs:=[]) (cs:=[.slice none 0 0,.slice none 0 0,.slice none 0 0,.slice none 0 0]) he rfl (by kernel_rfl)) rfl fun a he =>?_
 refine d_q1 he rfl rfl (fun w=>z6j he rfl fo_204_0 rfl) rfl fun a he =>?_
 refine d_q he rfl rfl (fun w hs=>z5b 0 he hs rfl rfl rfl isAgg3) rfl fun a he =>?_
 refine d_e0 he rfl rfl (z2f 1 (cs:=[s,t,u,v]) (vs:=[.slice none 0 0,.slice none 0 0,.slice none 0 0,.slice none 0 0]) he hm rfl rfl rfl rfl sizeOf27 rfl rfl rfl fun w hm=>⟨fun _=>hm.seesIn (Fz.Le.refl _) (by simp [kset]),fun a he =>?_⟩)
 refine d_e0 he rfl rfl (z2f 2 (cs:=[x]) (vs:=[.int .i64 ((n:Nat):Int)]) he hm rfl rfl rfl rfl sizeOf3 rfl rfl rfl fun w hm=>⟨z9d (by kernel_rfl),fun a he =>?_⟩)
 refine d_done ?_
 replace hm:Mem Φ (.blk bc (ob [.slice none 0 0,.slice none 0 0,.slice none 0 0,.slice none 0 0] 27)::.blk bw (ob [.int .i64 ((n:Nat):Int)] 3)::K) w:=hm.del 0
 exact hQ _ _ he.defs hm
set_option maxRecDepth 20000 in
theorem catchR_none {w:World} {bc bw:Nat} :
  CallsD Tryz.prog 124 #[.pointer (some ⟨bc,0,none⟩),.pointer (some ⟨bw,0,none⟩)] .returning w fun e u' w'=>e=.returned (.tuple #[])∧u'=.returning∧w'=w:=by
 generalize hR:(fun (e:Ending) (u':FrameMode) (w':World)=>e=.returned (.tuple #[])∧u'=.returning∧w'=w)=R
 refine callsD_of_wpS func124 rfl fun c₀ cs hu =>?_
 apply wpS_seq
 apply wpS_region
 show wpOpsS Tryz.prog _ _ [0,1] _ _ _
 simp [wpOpsS,go_sem,recoverD,hu,ntmps124,Exit.thenS]
 refine wpS_of_wp ?_
 have hQ:∀(a:Act),a.defers=[]→bodyPostS Tryz.prog Tryz.f124 c₀ cs R .normal a (c₀::cs) w:=fun a hd =>
  ⟨hd,.returning,by cases c₀;simp only at hu;subst hu;rfl,.tuple #[],results_none rfl _ _ _,by subst hR;exact ⟨rfl,rfl,rfl⟩⟩
 generalize hact:(Act.mk _ [])=a
 have he:EnvR 19 [(2,.nilIface)] [] a:=by
  subst hact
  refine ⟨by simp,fun t v h =>?_,rfl⟩
  obtain ⟨rfl,rfl⟩ | ⟨_,h⟩:=z5f h
  ·simp
  ·cases h
 clear hact
 refine sq fun L1 hL1 =>?_
 refine wp_region_lit ?_
 refine z3k he (z4g he rfl) rfl fun a he =>?_
 refine z3k he (y0z (v:=.bool false) he rfl rfl rfl (by kernel_rfl)) rfl fun a he =>?_
 refine wpList_nil ?_
 refine hL1 _ _ ?_
 refine if_f he rfl ?_
 refine wp_skip ?_
 exact hQ _ he.defs
end Go.Sw

namespace Go.Sw
open Go.Proofs.Tryz
open Go.Proofs
abbrev readKY (K:List Res) (l Dk rr rp:Nat) (r:Loop) (pre:List Bs) (z:Value):List Res :=
 .blk l (.loop r)::.blk Dk (.deferred (some []))::.blk rr (ob [z,.int .i64 ((0:Nat):Int)] 208)::.gs z 9 1 (strs pre)::.blk rp (ob [.pointer (some ⟨rr,0,none⟩)] 206)::K
set_option maxRecDepth 20000 in
set_option maxHeartbeats 4000000 in
theorem read_round {Ψ:Fz} {K K0:List Res} {w:World} {l Dk rr rp n:Nat} {r:Loop} {pre:List Bs} {z:Value} {k:Bs} (hlen:pre.length < n) (hn:n≤800000)
  (hps:r.params=#[11]) (hst:r.state=.ready) (hpd:r.pending=none)
  (ha:∀(a:Act) (w:World),EnvR 96 [(11,.string k),(4,.pointer (some ⟨rp,0,none⟩))] [] a →
   r.assign.wpIn (FO (some l)) 2 Tryz.prog (Exit.then (fun a1 w1=>EnvR 96 [(5,.string k),(4,.pointer (some ⟨rp,0,none⟩))] [] a1∧w1=w) (fun _ _ _=>False)) a w)
  (hb:∀(a:Act) (w:World) (K:List Res) (o:Obj),EnvR 96 [(5,.string k),(4,.pointer (some ⟨rp,0,none⟩))] [] a→Mem Ψ (.blk l o::.blk rr (ob [z,.int .i64 ((0:Nat):Int)] 208)::.gs z 9 1 (strs pre)::.blk rp (ob [.pointer (some ⟨rr,0,none⟩)] 206)::K) w →
   r.body.wpIn (FO (some l)) 2 Tryz.prog (fun e _ w=>e=.normal∧∃v,Mem Ψ (.blk l o::.blk rr (ob [v,.int .i64 ((0:Nat):Int)] 208)::.gs v 9 1 (strs (pre++[k]))::.blk rp (ob [.pointer (some ⟨rr,0,none⟩)] 206)::K) w) a w)
  (he:EnvR 96 [(4,.pointer (some ⟨rp,0,none⟩))] [] ⟨r.tmps,[]⟩) (hm:Mem Ψ (K0++readKY K l Dk rr rp r pre z) w) :
  YieldAt Fence.wide 2 Tryz.prog l #[.string k] w (fun e w'=>e=.returned (.bool true)∧∃z',Mem Ψ (K0++readKY K l Dk rr rp r (pre++[k]) z') w'):=by
 have hm1:Mem Ψ (readKY K l Dk rr rp r pre z++K0) w:=hm.perm List.perm_append_comm
 replace hm1:Mem Ψ (.blk l (.loop r)::.blk rr (ob [z,.int .i64 ((0:Nat):Int)] 208)::.gs z 9 1 (strs pre)::.blk rp (ob [.pointer (some ⟨rr,0,none⟩)] 206)::.blk Dk (.deferred (some []))::(K++K0)) w :=
  ((((hm1.pull (i:=4) rfl).pull (i:=4) rfl).pull (i:=4) rfl).pull (i:=3) rfl)
 have hl:w.heap[l]? = some (.loop r):=hm1.own _ List.mem_cons_self
 refine ⟨r.fn,r.tmps.setIfInBounds 11 (.string k),r.assign,r.body,?_,?_⟩
 ·rw [run_yield hl (by rw [hps];rfl),hps,zip1];simp
 ·have he2:EnvR 96 [(11,.string k),(4,.pointer (some ⟨rp,0,none⟩))] [] ⟨r.tmps.setIfInBounds 11 (.string k),[]⟩:=he.put (d:=11) rfl
  have h:=round_of (P:=Tryz.prog) (E1:=fun (_:Unit)=>[(5,.string k),(4,.pointer (some ⟨rp,0,none⟩))]) (K1:=fun _=>.blk rr (ob [z,.int .i64 ((0:Nat):Int)] 208)::.gs z 9 1 (strs pre)::.blk rp (ob [.pointer (some ⟨rr,0,none⟩)] 206)::.blk Dk (.deferred (some []))::(K++K0))
   (KO:=fun v=>.blk rr (ob [v,.int .i64 ((0:Nat):Int)] 208)::.gs v 9 1 (strs (pre++[k]))::.blk rp (ob [.pointer (some ⟨rr,0,none⟩)] 206)::.blk Dk (.deferred (some []))::(K++K0)) hm1 hst hpd he2
   (fun a he=>Code.wpIn_mono (fun e a1 w1 h=>by
    cases e with
    | normal=>exact ⟨(),h.1,h.2▸hm1⟩
    | _=>exact h) (ha a w he)) (fun _ a w he hm=>hb a w _ _ he hm)
  refine h.mono fun e w' hh =>?_
  obtain ⟨h1,v,h2⟩:=hh
  refine ⟨h1,v,?_⟩
  have h3:Mem Ψ (readKY K l Dk rr rp r (pre++[k]) v++K0) w':=(((((h2.pull (i:=3) rfl).pull (i:=3) rfl).pull (i:=3) rfl).pull (i:=4) rfl).pull (i:=4) rfl)
  exact h3.perm List.perm_append_comm
theorem results2 {P:Program} {fn:Func} {n:Nat} {E:List (Nat×Value)} {D:List Deferred} {a:Act} {Φ:Fz} {K:List Res} {w:World} {t u T U k i j b c:Nat} {v:Value} {cs:List Value} {T0 T1:TypeId} (he:EnvR n E D a) (hm:Sees Φ K w) (hr:fn.results=#[.cell u U,.cell t T]) (hv:get E t=some (.pointer (some ⟨b,0,none⟩)))
  (hk:kget K i=some (.blk b (ob [v] T0))) (hT:Scalar P T) (hu:get E u=some (.pointer (some ⟨c,0,none⟩))) (hk2:kget K j=some (.blk c (ob cs T1))) (hT2:AggT P U) (hS:SizeT P U k) (hl:cs.length=k) :
  (results fn a.tmps).run P w=.ok (.tuple (List.toArray [.agg cs.toArray,v])) w:=by
 have h1:w.cell? ⟨b,0,none⟩=some v:=hm.cell hk 0
 have h2:=cellA (P:=P) he hm hu hk2 hT2 hS hl
 have h3:(loadVar T ⟨b,0,none⟩).run P w=.ok v w:=by simp [loadVar,Sem.run_bind,hT w,Result.andThen,load,Sem.run,h1]
 simp [results,hr,Array.getD_eq_getD_getElem?,he.env t _ hv,he.env u _ hu,asAddr,h2,h3,Sem.run_bind,Result.andThen]
set_option maxRecDepth 20000 in
set_option maxHeartbeats 4000000 in
theorem read_ok {Φ:Fz} {K:List Res} {w:World} {t:Bs} (G:Glob Φ) (h2:t.size≤800000) (hasc:AscB t) (hm:Mem Φ K w) :
  Calls Tryz.prog 74 (List.toArray [.string t]) w (fun ee w'=>Out (readP t)
   (fun C=>∃y:Fz×Value×Value×Value×Value,ee=.returned (.tuple (List.toArray [.agg (List.toArray [y.2.1,y.2.2.1,y.2.2.2.1,y.2.2.2.2]),.int .i64 ((0:Nat):Int)]))∧(Φ.Le y.1∧SliceOf RData y.1 2 y.2.1 C.datas∧SliceOf RParam y.1 2 y.2.2.1 C.inputs∧SliceOf RFun y.1 8 y.2.2.2.1 C.funs)∧Mem y.1 (.gs y.2.2.2.2 9 1 (strs C.outputs)::K) w')
   (fun n=>ee=.returned (.tuple (List.toArray [.agg (List.toArray [.slice none 0 0,.slice none 0 0,.slice none 0 0,.slice none 0 0]),.int .i64 ((n:Nat):Int)]))∧Mem Φ K w')):=by
 refine enterX func74 rfl ntmps74 rfl (fun Q hQ a he =>?_)
 refine sq fun L1 hL1 =>?_
 refine wp_region_lit ?_
 refine st he rfl rfl rfl (z4j (cs:=[.slice none 0 0,.slice none 0 0,.slice none 0 0,.slice none 0 0]) hm zeroValue27 rfl fun c0 w hm a he =>?_)
 refine st he rfl rfl rfl (z4j (cs:=[.int .i64 ((0:Nat):Int)]) hm zeroValue3 rfl fun wd w hm a he =>?_)
 refine wpList_nil ?_
 refine hL1 _ _ ?_
 refine sq fun L2 hL2 =>?_
 refine wp_region_lit ?_
 refine z3k he (y_makeFunc (vfs:=[]) (vcs:=[.pointer (some ⟨c0,0,none⟩),.pointer (some ⟨wd,0,none⟩)]) he rfl rfl) rfl fun a he =>?_
 refine st_defer_fn (fs:=[]) (cs:=[.pointer (some ⟨c0,0,none⟩),.pointer (some ⟨wd,0,none⟩)]) (vs:=[]) he rfl rfl fun a he =>?_
 refine wpList_nil ?_
 refine hL2 _ _ ?_
 refine sq fun L3 hL3 =>?_
 refine wp_region_lit ?_
 refine z3k he (y_build (vs:=[]) (cs:=[.slice none 0 0,.int .i64 ((0:Nat):Int)]) he rfl (by kernel_rfl)) rfl fun a he =>?_
 refine st he rfl rfl rfl (eff_box (cs:=[.slice none 0 0,.int .i64 ((0:Nat):Int)]) he hm rfl rfl fun rr w hm a he =>?_)
 refine st he rfl rfl rfl (z4j (cs:=[.pointer none]) hm zeroValue206 rfl fun rp w hm a he =>?_)
 refine st0 he rfl rfl (z2f 0 (cs:=[.pointer none]) (vs:=[.pointer (some ⟨rr,0,none⟩)]) he hm rfl rfl rfl rfl sizeOf206 rfl rfl rfl fun w hm a he =>?_)
 refine wpList_nil ?_
 refine hL3 _ _ ?_
 replace hm:Mem Φ (.blk rp (ob [.pointer (some ⟨rr,0,none⟩)] 206)::.blk rr (ob [.slice none 0 0,.int .i64 ((0:Nat):Int)] 208)::.blk wd (ob [.int .i64 ((0:Nat):Int)] 3)::.blk c0 (ob [.slice none 0 0,.slice none 0 0,.slice none 0 0,.slice none 0 0] 27)::K) w:=hm
 refine sq fun L4 hL4 =>?_
 refine sq fun L5 hL5 =>?_
 refine wp_region_lit ?_
 refine z3k he (z4g he rfl) rfl fun a he =>?_
 refine st he rfl rfl rfl (eff_callY he rfl call125 (words_ok hm) (fun bx w _ hm a he =>?_))
 refine wpList_nil ?_
 refine hL5 _ _ ?_
 refine wp_block ?_
 refine wp_range (P:=Tryz.prog) (β:=Value) (δ:=Unit) (gf:=174) (fs:=[]) (cs:=[.pointer (some ⟨bx,0,none⟩)]) (F1:=fun _=>Φ)
  (KO:=fun z=>.blk rr (ob [z,.int .i64 ((0:Nat):Int)] 208)::.gs z 9 1 (strs (wordsF t))::.blk rp (ob [.pointer (some ⟨rr,0,none⟩)] 206)::.blk wd (ob [.int .i64 ((0:Nat):Int)] 3)::.blk c0 (ob [.slice none 0 0,.slice none 0 0,.slice none 0 0,.slice none 0 0] 27)::K)
  (KE:=fun _=>K)
  (G:=fun _=>True) (B:=fun _ _=>False) he hm rfl call174 ?_ ?_ ?_
 ·intro Dk l r w hps has hbo hst hpd her hm
  have hm1:=hm.nilRow 9 1
  replace hm1:Mem Φ (.blk bx (ob [.string t] 9)::readKY (.blk wd (ob [.int .i64 ((0:Nat):Int)] 3)::.blk c0 (ob [.slice none 0 0,.slice none 0 0,.slice none 0 0,.slice none 0 0] 27)::K) l Dk rr rp r [] (.slice none 0 0)) w :=
   ((((((hm1.pull (i:=4) rfl).pull (i:=1) rfl).pull (i:=5) rfl).pull (i:=4) rfl).pull (i:=4) rfl).pull (i:=5) rfl)
  have h:=words1_ok (l:=l) (KY:=readKY (.blk wd (ob [.int .i64 ((0:Nat):Int)] 3)::.blk c0 (ob [.slice none 0 0,.slice none 0 0,.slice none 0 0,.slice none 0 0] 27)::K) l Dk rr rp r) (by omega) hasc (fun pre z K0 k w hlen hm =>?_) hm1
  ·refine h.mono fun e w' hh =>?_
   obtain ⟨z,rfl,hm2⟩:=hh
   exact .inl ⟨_,z,rfl,trivial,hm2⟩
  ·refine read_round (n:=t.size) hlen h2 hps hst hpd (fun a w he =>?_) (fun a w K o he hm =>?_) (her.of_sub ⟨rfl,trivial⟩) hm
   ·rw [has]
    refine wpIn_region_lit ?_
    refine z9j he (by intro c h;cases h) (z9h he rfl) rfl fun a he =>?_
    refine wpListIn_nil ?_
    exact ⟨he.of_sub ⟨rfl,rfl,trivial⟩,rfl⟩
   ·rw [hbo]
    refine wpIn_block ?_
    refine region_planIn [2,2,1,1,2,1,0,0,1,1,0] (.q 0 (.q 1 (.q 2 (.q 3 (.q 4 (.q 5 (.e 6 (.e 7 (.q 8 (.q 9 (.e 10 (.done)))))))))))) [.blk rr (ob [z,.int .i64 ((0:Nat):Int)] 208),.blk rp (ob [.pointer (some ⟨rr,0,none⟩)] 206)] he hm mixed (by kernel_rfl) (by simp) (by kernel_rfl) fun w hm =>?_
    refine d_q he rfl rfl (fun w hs=>z5b 1 he hs rfl rfl rfl isAgg206) rfl fun a he =>?_
    refine d_q he rfl rfl (fun w hs=>z5b 1 he hs rfl rfl rfl isAgg206) rfl fun a he =>?_
    refine d_q1 he rfl rfl (fun w=>y_nilCheck he rfl) rfl fun a he =>?_
    refine d_q1 he rfl rfl (fun w=>z6j he rfl fo_208_0 rfl) rfl fun a he =>?_
    refine d_q he rfl rfl (fun w hs=>z5b 0 he hs rfl rfl rfl isAgg25) rfl fun a he =>?_
    refine d_q1 he rfl rfl (fun w=>z4g he rfl) rfl fun a he =>?_
    refine d_e he rfl rfl rfl (z9a (sz:=1) (cs:=[.string k]) he hm rfl (built_of runUnderlying25 sizeOf9 zeroValue9 rfl (by decide) rfl) rfl (by decide) fun v w hm _=>⟨fun _=>hm.seesIn (Fz.Le.refl _) (by simp),fun a he =>?_⟩)
    refine d_e he rfl rfl rfl (eff_append 3 (xs:=strs pre) (news:=[.string k]) z9k he hm rfl rfl rfl (hm.toSees.rowIn (i:=0) rfl) rfl (by simp [z1m];omega) fun v2 w hm=>⟨fun _=>hm.seesIn (Fz.Le.refl _) (by simp [kset]),fun a he =>?_⟩)
    replace hm:Mem Φ (.gs v 9 1 [.string k]::.blk l o::.blk rr (ob [z,.int .i64 ((0:Nat):Int)] 208)::.gs v2 9 1 (strs (pre++[k]))::.blk rp (ob [.pointer (some ⟨rr,0,none⟩)] 206)::K) w:=by rw [z1l];exact hm
    refine d_q1 he rfl rfl (fun w=>y_nilCheck he rfl) rfl fun a he =>?_
    refine d_q1 he rfl rfl (fun w=>z6j he rfl fo_208_0 rfl) rfl fun a he =>?_
    refine d_e0 he rfl rfl (z2f 2 (cs:=[z,.int .i64 ((0:Nat):Int)]) (vs:=[v2]) he hm rfl rfl rfl (hm.toSees.gsCells (i:=3) rfl) sizeOf25 rfl (hm.toSees.gsOne (i:=3) rfl) rfl fun w hm=>⟨z9d (by kernel_rfl),fun a he =>?_⟩)
    refine d_done ?_
    exact ⟨rfl,v2,hm.del 0⟩
 ·intro Dk z a w _ he hm
  refine hL4 _ _ ?_
  obtain ⟨Ψ,le,hm,hrow⟩:=hm.freezeRow (i:=2) rfl
  have rl:SliceOf RStr Ψ 1 z (wordsF t):=SliceOf.strs.2 hrow
  have hws:(wordsF t).length≤1000000:=Nat.le_trans (y0x t.size 0) (by omega)
  have hsz:∀j,(z0e (wordsF t) j).size≤1000000:=fun j=>peek_size (fun s hs=>Nat.le_trans (y0y t.size 0 s hs) (by omega)) j
  replace hm:Mem Ψ (.blk rr (ob [z,.int .i64 ((0:Nat):Int)] 208)::.blk rp (ob [.pointer (some ⟨rr,0,none⟩)] 206)::.blk c0 (ob [.slice none 0 0,.slice none 0 0,.slice none 0 0,.slice none 0 0] 27)::.blk wd (ob [.int .i64 ((0:Nat):Int)] 3)::.blk Dk (.deferred (some []))::K) w:=((((hm.pull (i:=3) rfl).pull (i:=4) rfl).pull (i:=4) rfl).pull (i:=4) rfl)
  refine read_rest (ws:=wordsF t) (c0:=c0) (wd:=wd) (rp:=rp) (r:=rr) (G.mono le) (rexpr_ok hws hsz 250 (by decide)) rl hws ?_ ?_ (he.of_sub ⟨rfl,rfl,rfl,trivial⟩) hm
  ·intro Ψ2 a w C u0 u1 u2 u3 hC le2 r0 r1 r2 he hm
   refine hQ _ _ _ ?_
   show y0i _ _ _ _ a.defers _ _
   rw [he.defs]
   replace hm:=hm.pull (i:=3) rfl
   have hD:w.heap[Dk]? = some (.deferred (some [])):=hm.own _ List.mem_cons_self
   have hm2:=hm.putObj (i:=0) (o':=.deferred none) rfl
   refine z9c (by simp) hD (leavesX_of ?_)
   refine leaves_cons (f:=124) (args:=#[.pointer (some ⟨c0,0,none⟩),.pointer (some ⟨wd,0,none⟩)]) (by simp) (call124 _ _) ?_
   refine catchR_none.mono ?_
   rintro e u' w'' ⟨rfl,rfl,rfl⟩
   refine ⟨_,results2 (i:=2) (j:=1) he hm2.toSees results74 rfl rfl isAgg3 rfl rfl isAgg27 sizeOf27 rfl,?_⟩
   show Out (readP t) _ _
   rw [show readP t=.ok C from hC]
   exact ⟨(Ψ2,u0,u1,u2,u3),rfl,⟨le.trans le2,r0,r1,r2⟩,((hm2.del 0).del 0).del 0⟩
  ·intro Ψ2 a w n u0 u1 u2 u3 x hC le2 he hm
   refine hQ _ _ _ ?_
   show y0i _ _ _ _ a.defers _ _
   rw [he.defs]
   replace hm:=hm.pull (i:=2) rfl
   have hD:w.heap[Dk]? = some (.deferred (some [])):=hm.own _ List.mem_cons_self
   have hm2:=(hm.putObj (i:=0) (o':=.deferred none) rfl)
   replace hm2:Mem Ψ2 (.blk c0 (ob [u0,u1,u2,u3] 27)::.blk wd (ob [x] 3)::.blk Dk (.deferred none)::K) (w.putObj Dk (.deferred none)):=(hm2.pull (i:=2) rfl).pull (i:=2) rfl
   refine z9c (by simp) hD (leavesX_of ?_)
   refine leaves_cons (f:=124) (args:=#[.pointer (some ⟨c0,0,none⟩),.pointer (some ⟨wd,0,none⟩)]) (by simp) (call124 _ _) ?_
   refine (catchR_wrong hm2).mono ?_
   rintro e' u' w'' ⟨rfl,rfl,hm3⟩
   refine ⟨_,results2 (i:=1) (j:=0) he hm3.toSees results74 rfl rfl isAgg3 rfl rfl isAgg27 sizeOf27 rfl,?_⟩
   show Out (readP t) _ _
   rw [show readP t=.error n from hC]
   exact ⟨rfl,(((hm3.del 0).del 0).del 0).le (le.trans le2)⟩
 ·intro Dk y c a w hB he hm
  exact hB.elim
end Go.Sw
