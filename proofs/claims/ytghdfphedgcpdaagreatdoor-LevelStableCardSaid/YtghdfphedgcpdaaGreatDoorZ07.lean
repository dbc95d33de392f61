import Derived.Test.YtghdfphedgcpdaaGreatDoorProg
import Derived.Test.YtghdfphedgcpdaaGreatDoorZ01
import Derived.Test.YtghdfphedgcpdaaGreatDoorZ04
import Derived.Test.YtghdfphedgcpdaaGreatDoorZ06
set_option linter.unusedVariables false
set_option linter.unusedSimpArgs false
namespace Go.Sw
open Go.Proofs.Tryz
open Go.Proofs
set_option maxRecDepth 20000
set_option maxHeartbeats 4000000
theorem j9v {Φ:Fz} {K:List Res} {w:World} {r i:Nat} {rs:Value} {ws:List Bs} {d:Nat} (hd:d≤1000) (hE:oE ws d) (G:Glob Φ) (rl:SliceOf RStr Φ 1 rs ws) (hws:ws.length≤1000000) (hi:i≤ws.length) (hm:Mem Φ (.blk r (ob [rs,.int .i64 ((i:Nat):Int)] 210)::K) w) :
  Calls prog 193 (List.toArray [.pointer (some ⟨r,0,none⟩),.int .i64 ((d+1:Nat):Int)]) w (fun ee w'=>Out (yT ws (zO ws d) i) (fun x=>∃y:Fz×List Value,ee=.returned (.agg y.2.toArray)∧(Φ.Le y.1∧REx y.1 y.2 x.1)∧Mem y.1 (.blk r (ob [rs,.int .i64 ((x.2:Nat):Int)] 210)::K) w') (fun c=>ee=.panicked (mI c)∧Mem Φ K w')):=by
 obtain ⟨pw,cw,rfl,hmw,hnw⟩:=rl.fm
 refine zL func193 ntmps193 fun Q hQ a he =>?_
 refine Alc fun b2 w hm a he =>?_
 replace hm:=hm.pl 1
 refine zZ call179 (fun w hm a he =>?_) (c:=pA (i:=i) rl hws (by omega) hm)
 refine goJ 10 fun a he =>?_
 refine sq fun L6 hL6 =>?_
 have hJ7:∀a w,(EnvR 125 [(0,.pointer (some ⟨r,0,none⟩)),(1,.int .i64 ((d+1:Nat):Int)),(4,.pointer (some ⟨b2,0,none⟩)),(5,.string (zC ws i)),(12,.string (zC ws i)),(13,.bool (sR (zC ws i)))] [] a∧Mem Φ (.blk r (ob [.slice pw ws.length cw,.int .i64 ((i:Nat):Int)] 210)::.blk b2 (ob [.int .i64 ((0:Nat):Int),.int .i64 ((0:Nat):Int),.string ⟨#[]⟩,.slice none 0 0,.slice none 0 0] 110)::K) w∧(True))→L6 a w:=by
  clear hm he
  rintro a w ⟨he,hm,hI8⟩
  refine hL6 _ _ ?_
  generalize hb10:(sR (zC ws i))=bb9 at he
  cases bb9
  by_cases h12:(zC ws i)=(⟨#[108,101,116]⟩:ByteArray)
  have hlt_:=oU h12 (by decide)
  refine Sto 0 fun w hm a he =>?_
  refine qZ call142 (fun q15 w hq16 hm a he =>?_) (fun q15 w hq16 hm =>?_) (c:=nE G (i:=(i+1)) rl hws (by omega) hm)
  have hleq15:=jS hq16
  refine xW call204 (fun q18 y19 w hq20 hG21 hm a he =>?_) (fun q18 w hq20 hm =>?_) (c:=q9m hd hE G (i:=q15.2) rl hws (by omega) hm)
  obtain ⟨Ψ22,d23⟩:=y19
  obtain ⟨le24,hr25⟩:=hG21
  simp only at le24 hr25 hm he
  have hgo26:=two_le hq20
  replace rl:=rl.up le24
  replace G:=G.mono le24
  replace hm:=hm.nf
  obtain ⟨p27,c28,rfl,hmx29,hn30⟩:=hr25.fm
  refine yJ fun a he =>?_
  refine Sto 1 fun w hm a he =>?_
  refine go fun a he =>?_
  have hmr:=hm
  replace hm:=hm.dl [1]
  refine jU (hm:=hmr) ?_
  show Out (yT ws (zO ws d) i) _ _
  rw [show yT ws (zO ws d) i=.ok (.mk 6 0 q15.1 q18.1 [],q18.2) from (z9o hb10 h12).trans ((zB hq16).trans ((zB hq20).trans (rfl)))]
  exact ⟨(Ψ22,_),rfl,⟨le24,REx.node hr25⟩,hm⟩
  replace hm:=hm.dl [0]
  show Out (yT ws (zO ws d) i) _ _
  rw [show yT ws (zO ws d) i=.error _ from (z9o hb10 h12).trans ((zB hq16).trans (zM hq20))]
  exact ⟨rfl,hm.le (Fz.Le.refl _)⟩
  replace hm:=hm.dl [0]
  show Out (yT ws (zO ws d) i) _ _
  rw [show yT ws (zO ws d) i=.error _ from (z9o hb10 h12).trans (zM hq16)]
  exact ⟨rfl,hm.le (Fz.Le.refl _)⟩
  by_cases h32:(zC ws i)=(⟨#[99,97,115,101]⟩:ByteArray)
  have hlt_:=oU h32 (by decide)
  refine Sto 0 fun w hm a he =>?_
  refine Qq (fun a he =>?_) (o:=by exact fun he hs=>pY ((d:Nat):Int) he rfl rfl (by rw [yX (by omega)];omega))
  refine xW call180 (fun q35 y36 w hq37 hG38 hm a he =>?_) (fun q35 w hq37 hm =>?_) (c:=hE G rl (i:=(i+1)) (by omega) hm)
  obtain ⟨Ψ39,d40⟩:=y36
  obtain ⟨le41,hr42⟩:=hG38
  simp only at le41 hr42 hm he
  have hgo43:=vE d _ _ hq37
  replace rl:=rl.up le41
  replace G:=G.mono le41
  replace hm:=hm.nf
  obtain ⟨p46,c47,p52,c53,rfl,hi56,h45,h51,hm48,hn49,hm54,hn55⟩:=REx.fm hr42
  refine qW fun v57 w hm a he =>?_
  have hm0_:=hm
  clear hm
  obtain ⟨Ψ58,le59,hm,hrow60⟩:=hm0_.freezeRow (i:=0) rfl
  clear hm0_
  replace rl:=rl.up le59
  replace G:=G.mono le59
  replace hr42:=REx.mono _ _ _ _ le59 hr42
  replace hm:=hm.nf
  have hsl61:SliceOf REx Ψ58 5 _ ([q35.1]):=⟨_,hrow60,(Chunks.one rfl hr42)⟩
  obtain ⟨p62,c63,hv_,hm64,hn65⟩:=hsl61.form (by decide)
  have hmk_:=hm
  clear hm
  subst hv_
  have hm:=hmk_
  clear hmk_
  refine yJ fun a he =>?_
  refine Alc fun b66 w hm a he =>?_
  refine Sto 0 fun w hm a he =>?_
  refine go fun a he =>?_
  replace hm:=hm.nilRow 174 7
  replace hm:=hm.nf
  refine yF (he.ks [0,1,4,7]) hm (fun R mm a w=>∃(Ψ68:Fz) (j:Nat) (u:Value) (cs:List Value) (xs:List Arm) (f:Nat),mm=ws.length - j∧R Ψ68 [] [(0,.gs (u) 174 7 cs),(1,.blk b66 (ob [.int .i64 ((7:Nat):Int),.int .i64 ((0:Nat):Int),.string ⟨#[]⟩,.slice p62 ([q35.1]).length c63,u] 110)),(2,.blk r (ob [.slice pw ws.length cw,.int .i64 ((j:Nat):Int)] 210))] a w∧(Ψ58.Le Ψ68∧(Chunks (RArm Ψ68) 7 cs xs∧xs.length≤j∧j≤ws.length∧xs.length+f=ws.length+1∧cK ws (zO ws d) (ws.length+1) true q35.2=vW xs (cK ws (zO ws d) f (decide (xs.length=0)) j)))) (ws.length - q35.2) ⟨Ψ58,q35.2,.slice none 0 0,[],[],ws.length+1,rfl,⟨he.pk,hm⟩,⟨Fz.Le.refl _,⟨rfl,Nat.zero_le _,by omega,Nat.zero_add _,dD _⟩⟩⟩ ?_
  clear hm he
  rintro mm a w ⟨Ψ68,j,u,cs,xs,f,hmu,⟨he,hm⟩,hI71⟩ L70 hL70
  replace hm:=hm.nf
  obtain ⟨le69,hI71⟩:=hI71
  replace rl:=rl.up le69
  replace G:=G.mono le69
  replace hr42:=REx.mono _ _ _ _ le69 hr42
  replace hsl61:=hsl61.up le69
  obtain ⟨hch,hxl,hj,hf_,hI_⟩:=hI71
  refine Qq (fun a he =>?_) (o:=by exact fun he hs=>q3q 0 (xs.length) he hs rfl rfl (hch.length) (by decide) runUnderlying108)
  by_cases h74:xs.length=0
  replace hm:=hm.pl 2
  refine qZ call178 (fun q76 w hq77 hm a he =>?_) (fun q76 w hq77 hm =>?_) (c:=wE (x:=(⟨#[40]⟩:ByteArray)) (i:=j) rl hws (by omega) hm)
  have hleq76:=wD hq77
  refine qZ call177 (fun q79 w hq80 hm a he =>?_) (fun q79 w hq80 hm =>?_) (c:=dW G (i:=q76.2) rl hws (by omega) hm)
  have hleq79:=jS hq80
  refine yJ fun a he =>?_
  refine Alc fun b81 w hm a he =>?_
  refine Sto 0 fun w hm a he =>?_
  refine go fun a he =>?_
  replace hm:=hm.nilRow 9 1
  replace hm:=hm.nf
  refine yF (he.ks [0,1,4,7,8]) hm (fun R mm a w=>∃(j2:Nat) (u2:Value) (vs:List Bs) (f2:Nat),mm=ws.length - j2∧R Ψ68 [] [(0,.gs (u2) 9 1 (strs vs)),(1,.blk b81 (ob [.string q79.1,u2,.int .i64 ((0:Nat):Int),.int .i64 ((0:Nat):Int),.string ⟨#[]⟩,.slice none 0 0,.slice none 0 0] 174)),(2,.blk r (ob [.slice pw ws.length cw,.int .i64 ((j2:Nat):Int)] 210))] a w∧(vs.length≤j2∧j < j2∧j2≤ws.length∧vs.length+f2=ws.length+1∧aN ws (ws.length+1) q79.2=vW vs (aN ws f2 j2))) (ws.length - q79.2) ⟨q79.2,.slice none 0 0,[],ws.length+1,rfl,⟨he.pk,hm⟩,⟨Nat.zero_le _,by omega,by omega,Nat.zero_add _,dD _⟩⟩ ?_
  clear hm he
  rintro mm a w ⟨j2,u2,vs,f2,hmu,⟨he,hm⟩,hI84⟩ L83 hL83
  replace hm:=hm.nf
  obtain ⟨hvl,hj2,hj3,hf2_,hV_⟩:=hI84
  replace hm:=hm.pl 2
  refine zZ call179 (fun w hm a he =>?_) (c:=pA (i:=j2) rl hws (by omega) hm)
  by_cases h87:(zC ws j2)=(⟨#[45,62]⟩:ByteArray)
  refine go fun a he =>?_
  have hm0_:=hm
  clear hm
  obtain ⟨Ψ89,le90,hm,hrow91⟩:=hm0_.freezeRow (i:=1) rfl
  clear hm0_
  replace rl:=rl.up le90
  replace G:=G.mono le90
  replace hr42:=REx.mono _ _ _ _ le90 hr42
  replace hsl61:=hsl61.up le90
  replace hch:=hch.mono fun _ _ h=>RArm.mono _ _ _ _ le90 h
  replace hm:=hm.nf
  have hsl92:SliceOf RStr Ψ89 1 _ (vs):=SliceOf.strs.2 hrow91
  obtain ⟨p93,c94,hv_,hm95,hn96⟩:=hsl92.form (by decide)
  have hmk_:=hm
  clear hm
  subst hv_
  have hm:=hmk_
  clear hmk_
  have hv97:=q3j hV_ (by omega) h87
  refine qZ call178 (fun q98 w hq99 hm a he =>?_) (fun q98 w hq99 hm =>?_) (c:=wE (x:=(⟨#[45,62]⟩:ByteArray)) (i:=j2) rl hws (by omega) hm)
  have hleq98:=wD hq99
  refine Qq (fun a he =>?_) (o:=by exact fun he hs=>pY ((d:Nat):Int) he rfl rfl (by rw [yX (by omega)];omega))
  refine xW call180 (fun q101 y102 w hq103 hG104 hm a he =>?_) (fun q101 w hq103 hm =>?_) (c:=hE G rl (i:=q98.2) (by omega) hm)
  obtain ⟨Ψ105,d106⟩:=y102
  obtain ⟨le107,hr108⟩:=hG104
  simp only at le107 hr108 hm he
  have hgo109:=vE d _ _ hq103
  replace rl:=rl.up le107
  replace G:=G.mono le107
  replace hr42:=REx.mono _ _ _ _ le107 hr42
  replace hsl61:=hsl61.up le107
  replace hch:=hch.mono fun _ _ h=>RArm.mono _ _ _ _ le107 h
  replace hsl92:=hsl92.up le107
  replace hm:=hm.nf
  obtain ⟨p112,c113,p118,c119,rfl,hi122,h111,h117,hm114,hn115,hm120,hn121⟩:=REx.fm hr108
  refine Sto 1 fun w hm a he =>?_
  refine qZ call178 (fun q124 w hq125 hm a he =>?_) (fun q124 w hq125 hm =>?_) (c:=wE (x:=(⟨#[41]⟩:ByteArray)) (i:=q101.2) rl hws (by omega) hm)
  have hleq124:=wD hq125
  refine qW fun v126 w hm a he =>?_
  refine qL 3 rt_108 (fun v127 w hm a he =>?_)
  refine Sto 4 fun w hm a he =>?_
  refine go fun a he =>?_
  replace hm:=hm.ar [2,0] [3,1,3,3]
  refine hL70 _ _ _ (by subst hmu;omega) ⟨(Ψ105),(q124.2),(v127),((cs++[.string q79.1,.slice p93 (vs).length c94,.int .i64 (q101.1.kind),.int .i64 (q101.1.num),.string q101.1.name,.slice p112 q101.1.args.length c113,.slice p118 q101.1.arms.length c119])),(xs++[.mk q79.1 vs q101.1]),(f - 1),rfl,⟨he.pk,by exact hm⟩,?_⟩
  refine ⟨((le69).trans le90).trans le107,?_⟩
  exact ⟨hch.snoc (k:=7) rfl (RArm.of hsl92 hr108 (c:=q79.1)),by simp only [List.length_append,List.length_cons,List.length_nil];omega,by omega,by simp only [List.length_append,List.length_cons,List.length_nil];omega,y3t (x:=(.mk q79.1 vs q101.1,q124.2)) hI_ (by omega) (.inl h74) ((zB hq77).trans ((zB hq80).trans ((zB hv97).trans ((zB hq99).trans ((zB hq103).trans ((zB hq125).trans (rfl)))))))⟩
  replace hm:=hm.dl [3,2,1,0]
  show Out (yT ws (zO ws d) i) _ _
  rw [show yT ws (zO ws d) i=.error _ from (xR hb10 h12 h32).trans ((zB hq37).trans (zM (vO hI_ (by omega) (.inl h74) ((zB hq77).trans ((zB hq80).trans ((zB hv97).trans ((zB hq99).trans ((zB hq103).trans (zM hq125)))))))))]
  exact ⟨rfl,hm.le (((((le41).trans le59).trans le69).trans le90).trans le107)⟩
  replace hm:=hm.dl [3,2,1,0]
  show Out (yT ws (zO ws d) i) _ _
  rw [show yT ws (zO ws d) i=.error _ from (xR hb10 h12 h32).trans ((zB hq37).trans (zM (vO hI_ (by omega) (.inl h74) ((zB hq77).trans ((zB hq80).trans ((zB hv97).trans ((zB hq99).trans (zM hq103))))))))]
  exact ⟨rfl,hm.le ((((le41).trans le59).trans le69).trans le90)⟩
  replace hm:=hm.dl [3,2,1,0]
  show Out (yT ws (zO ws d) i) _ _
  rw [show yT ws (zO ws d) i=.error _ from (xR hb10 h12 h32).trans ((zB hq37).trans (zM (vO hI_ (by omega) (.inl h74) ((zB hq77).trans ((zB hq80).trans ((zB hv97).trans (zM hq99)))))))]
  exact ⟨rfl,hm.le ((((le41).trans le59).trans le69).trans le90)⟩
  refine Reg [1,2,1,0,0,0,1,0] [2,3,4,5] fun w hm a he =>?_
  refine qZ call142 (fun q128 w hq129 hm a he =>?_) (fun q128 w hq129 hm =>?_) (c:=nE G (i:=j2) rl hws (by omega) hm)
  have hleq128:=jS hq129
  refine qW fun v130 w hm a he =>?_
  refine qL 2 pS (fun v131 w hm a he =>?_) (hb:=by simp [yH];omega)
  refine Sto 3 fun w hm a he =>?_
  refine go fun a he =>?_
  first | rw [qY] at hm | rw [← qU] at hm
  replace hm:=hm.ar [0] [5,5,5,3,5,5]
  refine hL83 _ _ _ (by subst hmu;omega) ⟨(q128.2),(v131),(vs++[q128.1]),(f2 - 1),rfl,⟨he.pk,by exact hm⟩,?_⟩
  exact ⟨by simp only [List.length_append,List.length_cons,List.length_nil];omega,by omega,by omega,by simp only [List.length_append,List.length_cons,List.length_nil];omega,y6q hV_ (by omega) h87 hq129⟩
  replace hm:=hm.dl [4,3,2,1,0]
  show Out (yT ws (zO ws d) i) _ _
  rw [show yT ws (zO ws d) i=.error _ from (xR hb10 h12 h32).trans ((zB hq37).trans (zM (vO hI_ (by omega) (.inl h74) ((zB hq77).trans ((zB hq80).trans (zM (y6p hV_ (by omega) h87 hq129)))))))]
  exact ⟨rfl,hm.le (((le41).trans le59).trans le69)⟩
  replace hm:=hm.dl [2,1,0]
  show Out (yT ws (zO ws d) i) _ _
  rw [show yT ws (zO ws d) i=.error _ from (xR hb10 h12 h32).trans ((zB hq37).trans (zM (vO hI_ (by omega) (.inl h74) ((zB hq77).trans (zM hq80)))))]
  exact ⟨rfl,hm.le (((le41).trans le59).trans le69)⟩
  replace hm:=hm.dl [2,1,0]
  show Out (yT ws (zO ws d) i) _ _
  rw [show yT ws (zO ws d) i=.error _ from (xR hb10 h12 h32).trans ((zB hq37).trans (zM (vO hI_ (by omega) (.inl h74) (zM hq77))))]
  exact ⟨rfl,hm.le (((le41).trans le59).trans le69)⟩
  replace hm:=hm.pl 2
  refine zZ call179 (fun w hm a he =>?_) (c:=pA (i:=j) rl hws (by omega) hm)
  by_cases h132:(zC ws j)=(⟨#[40]⟩:ByteArray)
  refine qZ call178 (fun q134 w hq135 hm a he =>?_) (fun q134 w hq135 hm =>?_) (c:=wE (x:=(⟨#[40]⟩:ByteArray)) (i:=j) rl hws (by omega) hm)
  have hleq134:=wD hq135
  refine qZ call177 (fun q137 w hq138 hm a he =>?_) (fun q137 w hq138 hm =>?_) (c:=dW G (i:=q134.2) rl hws (by omega) hm)
  have hleq137:=jS hq138
  refine yJ fun a he =>?_
  refine Alc fun b139 w hm a he =>?_
  refine Sto 0 fun w hm a he =>?_
  refine go fun a he =>?_
  replace hm:=hm.nilRow 9 1
  replace hm:=hm.nf
  refine yF (he.ks [0,1,4,7,8]) hm (fun R mm a w=>∃(j2:Nat) (u2:Value) (vs:List Bs) (f2:Nat),mm=ws.length - j2∧R Ψ68 [] [(0,.gs (u2) 9 1 (strs vs)),(1,.blk b139 (ob [.string q137.1,u2,.int .i64 ((0:Nat):Int),.int .i64 ((0:Nat):Int),.string ⟨#[]⟩,.slice none 0 0,.slice none 0 0] 174)),(2,.blk r (ob [.slice pw ws.length cw,.int .i64 ((j2:Nat):Int)] 210))] a w∧(vs.length≤j2∧j < j2∧j2≤ws.length∧vs.length+f2=ws.length+1∧aN ws (ws.length+1) q137.2=vW vs (aN ws f2 j2))) (ws.length - q137.2) ⟨q137.2,.slice none 0 0,[],ws.length+1,rfl,⟨he.pk,hm⟩,⟨Nat.zero_le _,by omega,by omega,Nat.zero_add _,dD _⟩⟩ ?_
  clear hm he
  rintro mm a w ⟨j2,u2,vs,f2,hmu,⟨he,hm⟩,hI142⟩ L141 hL141
  replace hm:=hm.nf
  obtain ⟨hvl,hj2,hj3,hf2_,hV_⟩:=hI142
  replace hm:=hm.pl 2
  refine zZ call179 (fun w hm a he =>?_) (c:=pA (i:=j2) rl hws (by omega) hm)
  by_cases h145:(zC ws j2)=(⟨#[45,62]⟩:ByteArray)
  refine go fun a he =>?_
  have hm0_:=hm
  clear hm
  obtain ⟨Ψ147,le148,hm,hrow149⟩:=hm0_.freezeRow (i:=1) rfl
  clear hm0_
  replace rl:=rl.up le148
  replace G:=G.mono le148
  replace hr42:=REx.mono _ _ _ _ le148 hr42
  replace hsl61:=hsl61.up le148
  replace hch:=hch.mono fun _ _ h=>RArm.mono _ _ _ _ le148 h
  replace hm:=hm.nf
  have hsl150:SliceOf RStr Ψ147 1 _ (vs):=SliceOf.strs.2 hrow149
  obtain ⟨p151,c152,hv_,hm153,hn154⟩:=hsl150.form (by decide)
  have hmk_:=hm
  clear hm
  subst hv_
  have hm:=hmk_
  clear hmk_
  have hv155:=q3j hV_ (by omega) h145
  refine qZ call178 (fun q156 w hq157 hm a he =>?_) (fun q156 w hq157 hm =>?_) (c:=wE (x:=(⟨#[45,62]⟩:ByteArray)) (i:=j2) rl hws (by omega) hm)
  have hleq156:=wD hq157
  refine Qq (fun a he =>?_) (o:=by exact fun he hs=>pY ((d:Nat):Int) he rfl rfl (by rw [yX (by omega)];omega))
  refine xW call180 (fun q159 y160 w hq161 hG162 hm a he =>?_) (fun q159 w hq161 hm =>?_) (c:=hE G rl (i:=q156.2) (by omega) hm)
  obtain ⟨Ψ163,d164⟩:=y160
  obtain ⟨le165,hr166⟩:=hG162
  simp only at le165 hr166 hm he
  have hgo167:=vE d _ _ hq161
  replace rl:=rl.up le165
  replace G:=G.mono le165
  replace hr42:=REx.mono _ _ _ _ le165 hr42
  replace hsl61:=hsl61.up le165
  replace hch:=hch.mono fun _ _ h=>RArm.mono _ _ _ _ le165 h
  replace hsl150:=hsl150.up le165
  replace hm:=hm.nf
  obtain ⟨p170,c171,p176,c177,rfl,hi180,h169,h175,hm172,hn173,hm178,hn179⟩:=REx.fm hr166
  refine Sto 1 fun w hm a he =>?_
  refine qZ call178 (fun q182 w hq183 hm a he =>?_) (fun q182 w hq183 hm =>?_) (c:=wE (x:=(⟨#[41]⟩:ByteArray)) (i:=q159.2) rl hws (by omega) hm)
  have hleq182:=wD hq183
  refine qW fun v184 w hm a he =>?_
  refine qL 3 rt_108 (fun v185 w hm a he =>?_)
  refine Sto 4 fun w hm a he =>?_
  refine go fun a he =>?_
  replace hm:=hm.ar [2,0] [3,1,3,3]
  refine hL70 _ _ _ (by subst hmu;omega) ⟨(Ψ163),(q182.2),(v185),((cs++[.string q137.1,.slice p151 (vs).length c152,.int .i64 (q159.1.kind),.int .i64 (q159.1.num),.string q159.1.name,.slice p170 q159.1.args.length c171,.slice p176 q159.1.arms.length c177])),(xs++[.mk q137.1 vs q159.1]),(f - 1),rfl,⟨he.pk,by exact hm⟩,?_⟩
  refine ⟨((le69).trans le148).trans le165,?_⟩
  exact ⟨hch.snoc (k:=7) rfl (RArm.of hsl150 hr166 (c:=q137.1)),by simp only [List.length_append,List.length_cons,List.length_nil];omega,by omega,by simp only [List.length_append,List.length_cons,List.length_nil];omega,y3t (x:=(.mk q137.1 vs q159.1,q182.2)) hI_ (by omega) (.inr h132) ((zB hq135).trans ((zB hq138).trans ((zB hv155).trans ((zB hq157).trans ((zB hq161).trans ((zB hq183).trans (rfl)))))))⟩
  replace hm:=hm.dl [3,2,1,0]
  show Out (yT ws (zO ws d) i) _ _
  rw [show yT ws (zO ws d) i=.error _ from (xR hb10 h12 h32).trans ((zB hq37).trans (zM (vO hI_ (by omega) (.inr h132) ((zB hq135).trans ((zB hq138).trans ((zB hv155).trans ((zB hq157).trans ((zB hq161).trans (zM hq183)))))))))]
  exact ⟨rfl,hm.le (((((le41).trans le59).trans le69).trans le148).trans le165)⟩
  replace hm:=hm.dl [3,2,1,0]
  show Out (yT ws (zO ws d) i) _ _
  rw [show yT ws (zO ws d) i=.error _ from (xR hb10 h12 h32).trans ((zB hq37).trans (zM (vO hI_ (by omega) (.inr h132) ((zB hq135).trans ((zB hq138).trans ((zB hv155).trans ((zB hq157).trans (zM hq161))))))))]
  exact ⟨rfl,hm.le ((((le41).trans le59).trans le69).trans le148)⟩
  replace hm:=hm.dl [3,2,1,0]
  show Out (yT ws (zO ws d) i) _ _
  rw [show yT ws (zO ws d) i=.error _ from (xR hb10 h12 h32).trans ((zB hq37).trans (zM (vO hI_ (by omega) (.inr h132) ((zB hq135).trans ((zB hq138).trans ((zB hv155).trans (zM hq157)))))))]
  exact ⟨rfl,hm.le ((((le41).trans le59).trans le69).trans le148)⟩
  refine Reg [1,2,1,0,0,0,1,0] [2,3,4,5] fun w hm a he =>?_
  refine qZ call142 (fun q186 w hq187 hm a he =>?_) (fun q186 w hq187 hm =>?_) (c:=nE G (i:=j2) rl hws (by omega) hm)
  have hleq186:=jS hq187
  refine qW fun v188 w hm a he =>?_
  refine qL 2 pS (fun v189 w hm a he =>?_) (hb:=by simp [yH];omega)
  refine Sto 3 fun w hm a he =>?_
  refine go fun a he =>?_
  first | rw [qY] at hm | rw [← qU] at hm
  replace hm:=hm.ar [0] [5,5,5,3,5,5]
  refine hL141 _ _ _ (by subst hmu;omega) ⟨(q186.2),(v189),(vs++[q186.1]),(f2 - 1),rfl,⟨he.pk,by exact hm⟩,?_⟩
  exact ⟨by simp only [List.length_append,List.length_cons,List.length_nil];omega,by omega,by omega,by simp only [List.length_append,List.length_cons,List.length_nil];omega,y6q hV_ (by omega) h145 hq187⟩
  replace hm:=hm.dl [4,3,2,1,0]
  show Out (yT ws (zO ws d) i) _ _
  rw [show yT ws (zO ws d) i=.error _ from (xR hb10 h12 h32).trans ((zB hq37).trans (zM (vO hI_ (by omega) (.inr h132) ((zB hq135).trans ((zB hq138).trans (zM (y6p hV_ (by omega) h145 hq187)))))))]
  exact ⟨rfl,hm.le (((le41).trans le59).trans le69)⟩
  replace hm:=hm.dl [2,1,0]
  show Out (yT ws (zO ws d) i) _ _
  rw [show yT ws (zO ws d) i=.error _ from (xR hb10 h12 h32).trans ((zB hq37).trans (zM (vO hI_ (by omega) (.inr h132) ((zB hq135).trans (zM hq138)))))]
  exact ⟨rfl,hm.le (((le41).trans le59).trans le69)⟩
  replace hm:=hm.dl [2,1,0]
  show Out (yT ws (zO ws d) i) _ _
  rw [show yT ws (zO ws d) i=.error _ from (xR hb10 h12 h32).trans ((zB hq37).trans (zM (vO hI_ (by omega) (.inr h132) (zM hq135))))]
  exact ⟨rfl,hm.le (((le41).trans le59).trans le69)⟩
  refine go fun a he =>?_
  have hm0_:=hm
  clear hm
  obtain ⟨Ψ191,le192,hm,hrow193⟩:=hm0_.freezeRow (i:=1) rfl
  clear hm0_
  replace rl:=rl.up le192
  replace G:=G.mono le192
  replace hr42:=REx.mono _ _ _ _ le192 hr42
  replace hsl61:=hsl61.up le192
  replace hch:=hch.mono fun _ _ h=>RArm.mono _ _ _ _ le192 h
  replace hm:=hm.nf
  have hsl194:SliceOf RArm Ψ191 7 _ (xs):=⟨_,hrow193,hch⟩
  obtain ⟨p195,c196,hv_,hm197,hn198⟩:=hsl194.form (by decide)
  have hmk_:=hm
  clear hm
  subst hv_
  have hm:=hmk_
  clear hmk_
  have hA_:=j4q hI_ (by omega) h74 h132
  refine Sto 2 fun w hm a he =>?_
  refine go fun a he =>?_
  have hmr:=hm
  replace hm:=hm.dl [2,1]
  refine jU (hm:=hmr) ?_
  show Out (yT ws (zO ws d) i) _ _
  rw [show yT ws (zO ws d) i=.ok (.mk 7 0 ⟨#[]⟩ [q35.1] xs,j) from (xR hb10 h12 h32).trans ((zB hq37).trans ((zB hA_).trans rfl))]
  exact ⟨(Ψ191,_),rfl,⟨(((le41).trans le59).trans le69).trans le192,REx.full hsl61 hsl194⟩,hm⟩
  replace hm:=hm.dl [0]
  show Out (yT ws (zO ws d) i) _ _
  rw [show yT ws (zO ws d) i=.error _ from (xR hb10 h12 h32).trans (zM hq37)]
  exact ⟨rfl,hm.le (Fz.Le.refl _)⟩
  refine yK call158 (fun hB201 w hm a he =>?_) (fun hB201 w hm a he =>?_) (c:=wY G hm)
  have hlt_:=j8m hB201
  refine Sto 0 fun w hm a he =>?_
  refine xW call205 (fun q204 y205 w hq206 hG207 hm a he =>?_) (fun q204 w hq206 hm =>?_) (c:=q2o (m:=1) hd hE G (i:=(i+1)) rl hws (by omega) hm)
  obtain ⟨Ψ208,d209⟩:=y205
  obtain ⟨le210,hr211⟩:=hG207
  simp only at le210 hr211 hm he
  have hgo212:=q8z (by omega) hq206
  replace rl:=rl.up le210
  replace G:=G.mono le210
  replace hm:=hm.nf
  obtain ⟨p213,c214,rfl,hmx215,hn216⟩:=hr211.fm
  refine yJ fun a he =>?_
  refine Sto 1 fun w hm a he =>?_
  refine go fun a he =>?_
  have hmr:=hm
  replace hm:=hm.dl [1]
  refine jU (hm:=hmr) ?_
  show Out (yT ws (zO ws d) i) _ _
  rw [show yT ws (zO ws d) i=.ok (.mk 4 0 (zC ws i) q204.1 [],q204.2) from (q1b hb10 h12 h32 hB201).trans ((zB hq206).trans (rfl))]
  exact ⟨(Ψ208,_),rfl,⟨le210,REx.node hr211⟩,hm⟩
  replace hm:=hm.dl [0]
  show Out (yT ws (zO ws d) i) _ _
  rw [show yT ws (zO ws d) i=.error _ from (q1b hb10 h12 h32 hB201).trans (zM hq206)]
  exact ⟨rfl,hm.le (Fz.Le.refl _)⟩
  refine qZ call142 (fun q218 w hq219 hm a he =>?_) (fun q218 w hq219 hm =>?_) (c:=nE G (i:=i) rl hws (by omega) hm)
  have hleq218:=jS hq219
  refine xW call205 (fun q221 y222 w hq223 hG224 hm a he =>?_) (fun q221 w hq223 hm =>?_) (c:=q2o (m:=0) hd hE G (i:=q218.2) rl hws (by omega) hm)
  obtain ⟨Ψ225,d226⟩:=y222
  obtain ⟨le227,hr228⟩:=hG224
  simp only at le227 hr228 hm he
  have hgo229:=q8z (by omega) hq223
  replace rl:=rl.up le227
  replace G:=G.mono le227
  replace hm:=hm.nf
  obtain ⟨p230,c231,rfl,hmx232,hn233⟩:=hr228.fm
  refine yJ fun a he =>?_
  refine Sto 1 fun w hm a he =>?_
  refine go fun a he =>?_
  have hmr:=hm
  replace hm:=hm.dl [1]
  refine jU (hm:=hmr) ?_
  show Out (yT ws (zO ws d) i) _ _
  rw [show yT ws (zO ws d) i=.ok (.mk 5 0 q218.1 q221.1 [],q221.2) from (z4e hb10 h12 h32 hB201).trans ((zB hq219).trans ((zB hq223).trans (rfl)))]
  exact ⟨(Ψ225,_),rfl,⟨le227,REx.node hr228⟩,hm⟩
  replace hm:=hm.dl [0]
  show Out (yT ws (zO ws d) i) _ _
  rw [show yT ws (zO ws d) i=.error _ from (z4e hb10 h12 h32 hB201).trans ((zB hq219).trans (zM hq223))]
  exact ⟨rfl,hm.le (Fz.Le.refl _)⟩
  replace hm:=hm.dl [0]
  show Out (yT ws (zO ws d) i) _ _
  rw [show yT ws (zO ws d) i=.error _ from (z4e hb10 h12 h32 hB201).trans (zM hq219)]
  exact ⟨rfl,hm.le (Fz.Le.refl _)⟩
  have hlt_:=isOp_lt hb10
  refine Sto 0 fun w hm a he =>?_
  refine xW call204 (fun q236 y237 w hq238 hG239 hm a he =>?_) (fun q236 w hq238 hm =>?_) (c:=q9m hd hE G (i:=(i+1)) rl hws (by omega) hm)
  obtain ⟨Ψ240,d241⟩:=y237
  obtain ⟨le242,hr243⟩:=hG239
  simp only at le242 hr243 hm he
  have hgo244:=two_le hq238
  replace G:=G.mono le242
  replace hm:=hm.nf
  obtain ⟨p245,c246,rfl,hmx247,hn248⟩:=hr243.fm
  refine yJ fun a he =>?_
  refine Sto 1 fun w hm a he =>?_
  refine go fun a he =>?_
  have hmr:=hm
  replace hm:=hm.dl [1]
  refine jU (hm:=hmr) ?_
  show Out (yT ws (zO ws d) i) _ _
  rw [show yT ws (zO ws d) i=.ok (.mk 8 0 (zC ws i) q236.1 [],q236.2) from (q8t hb10).trans ((zB hq238).trans (rfl))]
  exact ⟨(Ψ240,_),rfl,⟨le242,REx.node hr243⟩,hm⟩
  replace hm:=hm.dl [0]
  show Out (yT ws (zO ws d) i) _ _
  rw [show yT ws (zO ws d) i=.error _ from (q8t hb10).trans (zM hq238)]
  exact ⟨rfl,hm.le (Fz.Le.refl _)⟩
 by_cases h250:(zC ws i)=(⟨#[43]⟩:ByteArray)
 refine go fun a he =>?_
 exact hJ7 _ _ (by rw [cV (.inl h250)];exact ⟨he.pk,hm,trivial⟩)
 by_cases h252:(zC ws i)=(⟨#[45]⟩:ByteArray)
 refine go fun a he =>?_
 exact hJ7 _ _ (by rw [cV (.inr (.inl h252))];exact ⟨he.pk,hm,trivial⟩)
 by_cases h254:(zC ws i)=(⟨#[42]⟩:ByteArray)
 refine go fun a he =>?_
 exact hJ7 _ _ (by rw [cV (.inr (.inr (.inl h254)))];exact ⟨he.pk,hm,trivial⟩)
 refine go fun a he =>?_
 by_cases h256:(zC ws i)=(⟨#[47]⟩:ByteArray)
 refine go fun a he =>?_
 exact hJ7 _ _ (by rw [cV (.inr (.inr (.inr (.inl h256))))];exact ⟨he.pk,hm,trivial⟩)
 by_cases h258:(zC ws i)=(⟨#[37]⟩:ByteArray)
 refine go fun a he =>?_
 exact hJ7 _ _ (by rw [cV (.inr (.inr (.inr (.inr (.inl h258)))))];exact ⟨he.pk,hm,trivial⟩)
 by_cases h260:(zC ws i)=(⟨#[60]⟩:ByteArray)
 refine go fun a he =>?_
 exact hJ7 _ _ (by rw [cV (.inr (.inr (.inr (.inr (.inr (.inl h260))))))];exact ⟨he.pk,hm,trivial⟩)
 by_cases h261:(zC ws i)=(⟨#[61]⟩:ByteArray)
 refine go fun a he =>?_
 exact hJ7 _ _ (by rw [cV (.inr (.inr (.inr (.inr (.inr (.inr h261))))))];exact ⟨he.pk,hm,trivial⟩)
 refine go fun a he =>?_
 exact hJ7 _ _ (by rw [isOp_no h250 h252 h254 h256 h258 h260 h261];exact ⟨he.pk,hm,trivial⟩)
end Go.Sw

namespace Go.Sw
open Go.Proofs.Tryz
open Go.Proofs
set_option maxRecDepth 20000
set_option maxHeartbeats 4000000
theorem q6m {ws:List Bs} (hws:ws.length≤1000000):oE ws 0:=by
 intro Φ K w r i rs G rl hi hm
 obtain ⟨pw,cw,rfl,hmw,hnw⟩:=rl.fm
 refine zL func180 ntmps180 fun Q hQ a he =>?_
 refine Alc fun b2 w hm a he =>?_
 replace hm:=hm.pl 1
 refine zZ call179 (fun w hm a he =>?_) (c:=pA (i:=i) rl hws (by omega) hm)
 by_cases h6:(zC ws i)=(⟨#[]⟩:ByteArray)
 refine go fun a he =>?_
 refine st he rfl rfl rfl (cA he rfl call143 (hO (i:=i) rl hws (by omega) hm) (fun w hm=>fun a hd=>hQ _ _ _ (yQ hd ?_)))
 replace hm:=hm.dl [0]
 show Out (zO ws 0 i) _ _
 rw [y4k];exact ⟨rfl,hm⟩
 refine Qq (fun a he =>?_) (o:=by exact fun he hs=>wL true he rfl rfl rfl)
 refine go fun a he =>?_
 refine st he rfl rfl rfl (cA he rfl call143 (hO (i:=i) rl hws (by omega) hm) (fun w hm=>fun a hd=>hQ _ _ _ (yQ hd ?_)))
 replace hm:=hm.dl [0]
 show Out (zO ws 0 i) _ _
 rw [y4k];exact ⟨rfl,hm⟩
theorem q6l {ws:List Bs} {d:Nat} (hd:d≤1000) (hws:ws.length≤1000000) (hsz:∀j,(zC ws j).size≤1000000) (hE:oE ws d):oE ws (d+1):=by
 intro Φ K w r i rs G rl hi hm
 obtain ⟨pw,cw,rfl,hmw,hnw⟩:=rl.fm
 have hd0_:¬d+1=0:=by omega
 refine zL func180 ntmps180 fun Q hQ a he =>?_
 refine Alc fun b2 w hm a he =>?_
 replace hm:=hm.pl 1
 refine zZ call179 (fun w hm a he =>?_) (c:=pA (i:=i) rl hws (by omega) hm)
 by_cases h6:(zC ws i)=(⟨#[]⟩:ByteArray)
 refine go fun a he =>?_
 refine st he rfl rfl rfl (cA he rfl call143 (hO (i:=i) rl hws (by omega) hm) (fun w hm=>fun a hd=>hQ _ _ _ (yQ hd ?_)))
 replace hm:=hm.dl [0]
 show Out (zO ws (d+1) i) _ _
 rw [show zO ws (d+1) i=.error _ from expr_no h6]
 exact ⟨rfl,hm⟩
 refine jF call192 (fun y9 w hG10 hm a he =>?_) (c:=q4y (hsz _) G hm)
 replace hm:=hm.nf
 rcases hn12:gG (zC ws i) with _ | n11
 rw [hn12] at he
 by_cases h16:(zC ws i)=(⟨#[40]⟩:ByteArray)
 have hlt_:=wN h6
 refine Sto 0 fun w hm a he =>?_
 refine xW call193 (fun q19 y20 w hq21 hG22 hm a he =>?_) (fun q19 w hq21 hm =>?_) (c:=j9v hd hE G (i:=(i+1)) rl hws (by omega) hm)
 obtain ⟨Ψ23,d24⟩:=y20
 obtain ⟨le25,hr26⟩:=hG22
 simp only at le25 hr26 hm he
 have hgo27:=form_le hq21
 replace rl:=rl.up le25
 replace G:=G.mono le25
 replace hm:=hm.nf
 obtain ⟨p30,c31,p36,c37,rfl,hi40,h29,h35,hm32,hn33,hm38,hn39⟩:=REx.fm hr26
 refine Alc fun b41 w hm a he =>?_
 refine Sto 0 fun w hm a he =>?_
 replace hm:=hm.pl 1
 refine qZ call178 (fun q43 w hq44 hm a he =>?_) (fun q43 w hq44 hm =>?_) (c:=wE (x:=(⟨#[41]⟩:ByteArray)) (i:=q19.2) rl hws (by omega) hm)
 have hleq43:=wD hq44
 refine Sto 2 fun w hm a he =>?_
 refine go fun a he =>?_
 have hmr:=hm
 replace hm:=hm.dl [2,1]
 refine jU (hm:=hmr) ?_
 show Out (zO ws (d+1) i) _ _
 rw [show zO ws (d+1) i=.ok (q19.1,q43.2) from j1c h6 hn12 h16 hq21 hq44]
 exact ⟨(Ψ23,_),rfl,⟨le25,hr26⟩,hm⟩
 replace hm:=hm.dl [1,0]
 show Out (zO ws (d+1) i) _ _
 rw [show zO ws (d+1) i=.error _ from expr_fc h6 hn12 h16 hq21 hq44]
 exact ⟨rfl,hm.le (le25)⟩
 replace hm:=hm.dl [0]
 show Out (zO ws (d+1) i) _ _
 rw [show zO ws (d+1) i=.error _ from expr_fe h6 hn12 h16 hq21]
 exact ⟨rfl,hm⟩
 refine yK call158 (fun hB47 w hm a he =>?_) (fun hB47 w hm a he =>?_) (c:=wY G hm)
 refine qZ call177 (fun q49 w hq50 hm a he =>?_) (fun q49 w hq50 hm =>?_) (c:=dW G (i:=i) rl hws (by omega) hm)
 have hleq49:=jS hq50
 refine yJ fun a he =>?_
 refine Sto 1 fun w hm a he =>?_
 refine go fun a he =>?_
 have hmr:=hm
 replace hm:=hm.dl [1]
 refine jU (hm:=hmr) ?_
 show Out (zO ws (d+1) i) _ _
 rw [show zO ws (d+1) i=.ok (.mk 4 0 q49.1 [] [],q49.2) from j5m h6 hn12 h16 hB47 hq50]
 exact ⟨(Φ,_),rfl,⟨Fz.Le.refl _,REx.leaf y4w⟩,hm⟩
 replace hm:=hm.dl [0]
 exact j1b h6 hB47 hq50
 have hsz_:=x0n h6
 have hb52:0 < (zC ws i).size:=by omega
 obtain ⟨c53,hc54⟩:=wU hb52
 refine Qq (fun a he =>?_) (o:=by exact fun he hs=>kR 0 c53 he rfl rfl runUnderlying9 hc54)
 by_cases h55:c53.toNat=33
 refine Qq (fun a he =>?_) (o:=by exact fun he hs=>xO 1 ((zC ws i).size) he rfl runUnderlying9 ⟨_,rfl⟩ rfl (by omega) (by exact Nat.le_refl _))
 refine yK call161 (fun hB56 w hm a he =>?_) (fun hB56 w hm a he =>?_) (c:=gT G hm)
 have hlt_:=wN h6
 refine Sto 0 fun w hm a he =>?_
 refine Qq (fun a he =>?_) (o:=by exact fun he hs=>xO 1 ((zC ws i).size) he rfl runUnderlying9 ⟨_,rfl⟩ rfl (by omega) (by exact Nat.le_refl _))
 refine yJ fun a he =>?_
 refine Sto 1 fun w hm a he =>?_
 refine go fun a he =>?_
 have hmr:=hm
 replace hm:=hm.dl [1]
 refine jU (hm:=hmr) ?_
 show Out (zO ws (d+1) i) _ _
 rw [show zO ws (d+1) i=.ok (.mk 3 0 ((zC ws i).extract 1 (zC ws i).size) [] [],i+1) from q4m h6 hn12 h16 hB47 ((qT hc54).trans h55) hB56]
 exact ⟨(Φ,_),rfl,⟨Fz.Le.refl _,REx.leaf y4w⟩,hm⟩
 refine qZ call142 (fun q60 w hq61 hm a he =>?_) (fun q60 w hq61 hm =>?_) (c:=nE G (i:=i) rl hws (by omega) hm)
 have hleq60:=jS hq61
 refine yJ fun a he =>?_
 refine Sto 1 fun w hm a he =>?_
 refine go fun a he =>?_
 have hmr:=hm
 replace hm:=hm.dl [1]
 refine jU (hm:=hmr) ?_
 show Out (zO ws (d+1) i) _ _
 rw [show zO ws (d+1) i=.ok (.mk 2 0 q60.1 [] [],q60.2) from (uK h6 hn12 h16 hB47 (fun h=>absurd (h.2.symm.trans hB56) (by decide))).trans ((zB hq61).trans rfl)]
 exact ⟨(Φ,_),rfl,⟨Fz.Le.refl _,REx.leaf y4w⟩,hm⟩
 replace hm:=hm.dl [0]
 show Out (zO ws (d+1) i) _ _
 rw [show zO ws (d+1) i=.error _ from (uK h6 hn12 h16 hB47 (fun h=>absurd (h.2.symm.trans hB56) (by decide))).trans (zM hq61)]
 exact ⟨rfl,hm⟩
 refine qZ call142 (fun q63 w hq64 hm a he =>?_) (fun q63 w hq64 hm =>?_) (c:=nE G (i:=i) rl hws (by omega) hm)
 have hleq63:=jS hq64
 refine yJ fun a he =>?_
 refine Sto 1 fun w hm a he =>?_
 refine go fun a he =>?_
 have hmr:=hm
 replace hm:=hm.dl [1]
 refine jU (hm:=hmr) ?_
 show Out (zO ws (d+1) i) _ _
 rw [show zO ws (d+1) i=.ok (.mk 2 0 q63.1 [] [],q63.2) from (uK h6 hn12 h16 hB47 (fun h=>h55 ((qT hc54).symm.trans h.1))).trans ((zB hq64).trans rfl)]
 exact ⟨(Φ,_),rfl,⟨Fz.Le.refl _,REx.leaf y4w⟩,hm⟩
 replace hm:=hm.dl [0]
 show Out (zO ws (d+1) i) _ _
 rw [show zO ws (d+1) i=.error _ from (uK h6 hn12 h16 hB47 (fun h=>h55 ((qT hc54).symm.trans h.1))).trans (zM hq64)]
 exact ⟨rfl,hm⟩
 rw [hn12] at he
 have hlt_:=wN h6
 refine Sto 0 fun w hm a he =>?_
 refine yJ fun a he =>?_
 refine Sto 1 fun w hm a he =>?_
 refine go fun a he =>?_
 have hmr:=hm
 replace hm:=hm.dl [1]
 refine jU (hm:=hmr) ?_
 show Out (zO ws (d+1) i) _ _
 rw [show zO ws (d+1) i=.ok (.mk 1 y9 ⟨#[]⟩ [] [],i+1) from j5n h6 (hn12.trans (congrArg some (hG10 _ hn12).symm))]
 exact ⟨(Φ,_),rfl,⟨Fz.Le.refl _,REx.leaf (j8k (hn12.trans (congrArg some (hG10 _ hn12).symm)))⟩,hm⟩
theorem q2n {ws:List Bs} (hws:ws.length≤1000000) (hsz:∀j,(zC ws j).size≤1000000):∀d,d≤1000→oE ws d
 | 0,_=>q6m hws
 | d+1,h=>q6l (by omega) hws hsz (q2n hws hsz d (by omega))
end Go.Sw

namespace Go.Sw
open Go.Proofs.Tryz
open Go.Proofs
set_option maxRecDepth 20000
set_option maxHeartbeats 4000000
theorem y6a {Φ:Fz} {K:List Res} {w:World} {r i:Nat} {rs:Value} {ws:List Bs} (G:Glob Φ) (rl:SliceOf RStr Φ 1 rs ws) (hws:ws.length≤1000000) (hi:i≤ws.length) (hm:Mem Φ (.blk r (ob [rs,.int .i64 ((i:Nat):Int)] 210)::K) w) :
  Calls prog 140 (List.toArray [.pointer (some ⟨r,0,none⟩)]) w (fun ee w'=>Out (kX ws i) (fun x=>ee=.returned (.agg (List.toArray [.string x.1.name,.string x.1.type]))∧Mem Φ (.blk r (ob [rs,.int .i64 ((x.2:Nat):Int)] 210)::K) w') (fun c=>ee=.panicked (mI c)∧Mem Φ K w')):=by
 obtain ⟨pw,cw,rfl,hmw,hnw⟩:=rl.fm
 refine zL func140 ntmps140 fun Q hQ a he =>?_
 refine Alc fun b2 w hm a he =>?_
 replace hm:=hm.pl 1
 refine qZ call142 (fun q4 w hq5 hm a he =>?_) (fun q4 w hq5 hm =>?_) (c:=nE G (i:=i) rl hws (by omega) hm)
 have hleq4:=jS hq5
 refine qZ call178 (fun q7 w hq8 hm a he =>?_) (fun q7 w hq8 hm =>?_) (c:=wE (x:=(⟨#[58]⟩:ByteArray)) (i:=q4.2) rl hws (by omega) hm)
 have hleq7:=wD hq8
 refine qZ call177 (fun q10 w hq11 hm a he =>?_) (fun q10 w hq11 hm =>?_) (c:=dW G (i:=q7.2) rl hws (by omega) hm)
 have hleq10:=jS hq11
 refine yJ fun a he =>?_
 refine Sto 1 fun w hm a he =>?_
 refine go fun a he =>?_
 have hmr:=hm
 replace hm:=hm.dl [1]
 refine jU (hm:=hmr) ?_
 show Out (kX ws i) _ _
 rw [show kX ws i=.ok ((⟨q4.1,q10.1⟩:Param),q10.2) from (zB hq5).trans ((zB hq8).trans ((zB hq11).trans (rfl)))]
 exact ⟨rfl,hm⟩
 replace hm:=hm.dl [0]
 show Out (kX ws i) _ _
 rw [show kX ws i=.error _ from (zB hq5).trans ((zB hq8).trans (zM hq11))]
 exact ⟨rfl,hm⟩
 replace hm:=hm.dl [0]
 show Out (kX ws i) _ _
 rw [show kX ws i=.error _ from (zB hq5).trans (zM hq8)]
 exact ⟨rfl,hm⟩
 replace hm:=hm.dl [0]
 show Out (kX ws i) _ _
 rw [show kX ws i=.error _ from zM hq5]
 exact ⟨rfl,hm⟩
theorem j9t {Φ:Fz} {K:List Res} {w:World} {r i:Nat} {rs:Value} {ws:List Bs} (G:Glob Φ) (rl:SliceOf RStr Φ 1 rs ws) (hws:ws.length≤1000000) (hi:i≤ws.length) (hm:Mem Φ (.blk r (ob [rs,.int .i64 ((i:Nat):Int)] 210)::K) w) :
  Calls prog 139 (List.toArray [.pointer (some ⟨r,0,none⟩)]) w (fun ee w'=>Out (aB ws i) (fun x=>∃y:Fz×List Value,ee=.returned (.agg y.2.toArray)∧(Φ.Le y.1∧RData y.1 y.2 x.1)∧Mem y.1 (.blk r (ob [rs,.int .i64 ((x.2:Nat):Int)] 210)::K) w') (fun c=>ee=.panicked (mI c)∧Mem Φ K w')):=by
 obtain ⟨pw,cw,rfl,hmw,hnw⟩:=rl.fm
 refine zL func139 ntmps139 fun Q hQ a he =>?_
 refine Alc fun b2 w hm a he =>?_
 replace hm:=hm.pl 1
 refine qZ call177 (fun q4 w hq5 hm a he =>?_) (fun q4 w hq5 hm =>?_) (c:=dW G (i:=i) rl hws (by omega) hm)
 have hleq4:=jS hq5
 refine yJ fun a he =>?_
 refine Alc fun b6 w hm a he =>?_
 refine Sto 0 fun w hm a he =>?_
 replace hm:=hm.pl 1
 refine qZ call178 (fun q8 w hq9 hm a he =>?_) (fun q8 w hq9 hm =>?_) (c:=wE (x:=(⟨#[61]⟩:ByteArray)) (i:=q4.2) rl hws (by omega) hm)
 have hleq8:=wD hq9
 refine go fun a he =>?_
 replace hm:=hm.nilRow 128 2
 replace hm:=hm.nf
 refine yF (he.ks [0,2,3]) hm (fun R mm a w=>∃(Ψ10:Fz) (j:Nat) (u:Value) (cs:List Value) (xs:List Con) (f:Nat),mm=ws.length - j∧R Ψ10 [] [(0,.gs (u) 128 2 cs),(1,.blk r (ob [.slice pw ws.length cw,.int .i64 ((j:Nat):Int)] 210)),(2,.blk b6 (ob [.string q4.1,u] 126))] a w∧(Φ.Le Ψ10∧(Chunks (RCon Ψ10) 2 cs xs∧xs.length≤j∧j≤ws.length∧xs.length+f=ws.length+1∧cL ws (ws.length+1) q8.2=vW xs (cL ws f j)))) (ws.length - q8.2) ⟨Φ,q8.2,.slice none 0 0,[],[],ws.length+1,rfl,⟨he.pk,hm⟩,⟨Fz.Le.refl _,⟨rfl,Nat.zero_le _,by omega,Nat.zero_add _,dD _⟩⟩⟩ ?_
 clear hm he
 rintro mm a w ⟨Ψ10,j,u,cs,xs,f,hmu,⟨he,hm⟩,hI13⟩ L12 hL12
 replace hm:=hm.nf
 obtain ⟨le11,hI13⟩:=hI13
 replace rl:=rl.up le11
 replace G:=G.mono le11
 obtain ⟨hch,hxl,hj,hf_,hI_⟩:=hI13
 replace hm:=hm.pl 1
 refine qZ call177 (fun q15 w hq16 hm a he =>?_) (fun q15 w hq16 hm =>?_) (c:=dW G (i:=j) rl hws (by omega) hm)
 have hleq15:=jS hq16
 refine yJ fun a he =>?_
 refine Alc fun b17 w hm a he =>?_
 refine Sto 0 fun w hm a he =>?_
 refine go fun a he =>?_
 replace hm:=hm.nilRow 9 1
 replace hm:=hm.nf
 refine yF (he.ks [0,2,3,4]) hm (fun R mm a w=>∃(j2:Nat) (u2:Value) (vs:List Bs) (f2:Nat),mm=ws.length - j2∧R Ψ10 [] [(0,.gs (u2) 9 1 (strs vs)),(1,.blk b17 (ob [.string q15.1,u2] 128)),(2,.blk r (ob [.slice pw ws.length cw,.int .i64 ((j2:Nat):Int)] 210))] a w∧(vs.length≤j2∧j < j2∧j2≤ws.length∧vs.length+f2=ws.length+1∧vR ws (ws.length+1) q15.2=vW vs (vR ws f2 j2))) (ws.length - q15.2) ⟨q15.2,.slice none 0 0,[],ws.length+1,rfl,⟨he.pk,hm⟩,⟨Nat.zero_le _,by omega,by omega,Nat.zero_add _,dD _⟩⟩ ?_
 clear hm he
 rintro mm a w ⟨j2,u2,vs,f2,hmu,⟨he,hm⟩,hI20⟩ L19 hL19
 replace hm:=hm.nf
 obtain ⟨hvl,hj2,hj3,hf2_,hV_⟩:=hI20
 replace hm:=hm.pl 2
 refine zZ call179 (fun w hm a he =>?_) (c:=pA (i:=j2) rl hws (by omega) hm)
 refine yK call158 (fun hB23 w hm a he =>?_) (fun hB23 w hm a he =>?_) (c:=wY G hm)
 refine Reg [1,2,1,0,0,0,1,0] [2,3,4,5] fun w hm a he =>?_
 refine qZ call177 (fun q24 w hq25 hm a he =>?_) (fun q24 w hq25 hm =>?_) (c:=dW G (i:=j2) rl hws (by omega) hm)
 have hleq24:=jS hq25
 refine qW fun v26 w hm a he =>?_
 refine qL 2 pS (fun v27 w hm a he =>?_) (hb:=by simp [yH];omega)
 refine Sto 3 fun w hm a he =>?_
 refine go fun a he =>?_
 first | rw [qY] at hm | rw [← qU] at hm
 replace hm:=hm.ar [0] [5,5,5,3,5,5]
 refine hL19 _ _ _ (by subst hmu;omega) ⟨(q24.2),(v27),(vs++[q24.1]),(f2 - 1),rfl,⟨he.pk,by exact hm⟩,?_⟩
 exact ⟨by simp only [List.length_append,List.length_cons,List.length_nil];omega,by omega,by omega,by simp only [List.length_append,List.length_cons,List.length_nil];omega,q0t hV_ (by omega) hB23 hq25⟩
 replace hm:=hm.dl [4,3,2,1,0]
 show Out (aB ws i) _ _
 rw [show aB ws i=.error _ from (zB hq5).trans ((zB hq9).trans (zM (q4d hI_ (by omega) hq16 (q0s hV_ (by omega) hB23 hq25))))]
 exact ⟨rfl,hm.le (le11)⟩
 refine go fun a he =>?_
 have hm0_:=hm
 clear hm
 obtain ⟨Ψ29,le30,hm,hrow31⟩:=hm0_.freezeRow (i:=1) rfl
 clear hm0_
 replace rl:=rl.up le30
 replace G:=G.mono le30
 replace hch:=hch.mono fun _ _ h=>RCon.mono _ _ _ _ le30 h
 replace hm:=hm.nf
 have hsl32:SliceOf RStr Ψ29 1 _ (vs):=SliceOf.strs.2 hrow31
 obtain ⟨p33,c34,hv_,hm35,hn36⟩:=hsl32.form (by decide)
 have hmk_:=hm
 clear hm
 subst hv_
 have hm:=hmk_
 clear hmk_
 have hv37:=q4n hV_ (by omega) hB23
 refine qW fun v38 w hm a he =>?_
 refine qL 3 rt_124 (fun v39 w hm a he =>?_)
 refine Sto 4 fun w hm a he =>?_
 replace hm:=hm.pl 1
 refine zZ call179 (fun w hm a he =>?_) (c:=pA (i:=j2) rl hws (by omega) hm)
 by_cases h42:(zC ws j2)=(⟨#[124]⟩:ByteArray)
 have hlt_:=oU h42 (by decide)
 refine Sto 0 fun w hm a he =>?_
 refine go fun a he =>?_
 replace hm:=hm.ar [2,1] [3,3,2,3]
 refine hL12 _ _ _ (by subst hmu;omega) ⟨(Ψ29),(j2+1),(v39),((cs++[.string q15.1,.slice p33 (vs).length c34])),(xs++[(⟨q15.1,vs⟩:Con)]),(f - 1),rfl,⟨he.pk,by exact hm⟩,?_⟩
 refine ⟨(le11).trans le30,?_⟩
 exact ⟨(hch.snoc (k:=2) (x:=(⟨q15.1,vs⟩:Con)) rfl ⟨_,rfl,hsl32⟩),by simp only [List.length_append,List.length_cons,List.length_nil];omega,by omega,by simp only [List.length_append,List.length_cons,List.length_nil];omega,j0i hI_ (by omega) hq16 hv37 h42⟩
 refine go fun a he =>?_
 have hm0_:=hm
 clear hm
 obtain ⟨Ψ44,le45,hm,hrow46⟩:=hm0_.freezeRow (i:=3) rfl
 clear hm0_
 replace G:=G.mono le45
 replace hch:=hch.mono fun _ _ h=>RCon.mono _ _ _ _ le45 h
 replace hsl32:=hsl32.up le45
 replace hm:=hm.nf
 have hsl47:SliceOf RCon Ψ44 2 _ (xs++[(⟨q15.1,vs⟩:Con)]):=⟨_,hrow46,(hch.snoc (k:=2) (x:=(⟨q15.1,vs⟩:Con)) rfl ⟨_,rfl,hsl32⟩)⟩
 obtain ⟨p48,c49,hv_,hm50,hn51⟩:=hsl47.form (by decide)
 have hmk_:=hm
 clear hm
 subst hv_
 have hm:=hmk_
 clear hmk_
 refine Sto 4 fun w hm a he =>?_
 refine go fun a he =>?_
 have hmr:=hm
 replace hm:=hm.dl [4,3,2,1]
 refine jU (hm:=hmr) ?_
 show Out (aB ws i) _ _
 rw [show aB ws i=.ok ((⟨q4.1,xs++[(⟨q15.1,vs⟩:Con)]⟩:Data),j2) from (zB hq5).trans ((zB hq9).trans ((zB (j4y hI_ (by omega) hq16 hv37 h42)).trans rfl))]
 exact ⟨(Ψ44,_),rfl,⟨((le11).trans le30).trans le45,⟨_,rfl,hsl47⟩⟩,hm⟩
 replace hm:=hm.dl [2,1,0]
 show Out (aB ws i) _ _
 rw [show aB ws i=.error _ from (zB hq5).trans ((zB hq9).trans (zM (q4c hI_ (by omega) hq16)))]
 exact ⟨rfl,hm.le (le11)⟩
 replace hm:=hm.dl [1,0]
 show Out (aB ws i) _ _
 rw [show aB ws i=.error _ from (zB hq5).trans (zM hq9)]
 exact ⟨rfl,hm⟩
 replace hm:=hm.dl [0]
 show Out (aB ws i) _ _
 rw [show aB ws i=.error _ from zM hq5]
 exact ⟨rfl,hm⟩
end Go.Sw

namespace Go.Sw
open Go.Proofs.Tryz
open Go.Proofs
set_option maxRecDepth 20000
set_option maxHeartbeats 4000000
theorem rfun_ok {Φ:Fz} {K:List Res} {w:World} {r i:Nat} {rs:Value} {ws:List Bs} (hE:oE ws 250) (G:Glob Φ) (rl:SliceOf RStr Φ 1 rs ws) (hws:ws.length≤1000000) (hi:i≤ws.length) (hm:Mem Φ (.blk r (ob [rs,.int .i64 ((i:Nat):Int)] 210)::K) w) :
  Calls prog 141 (List.toArray [.pointer (some ⟨r,0,none⟩)]) w (fun ee w'=>Out (cR ws i) (fun x=>∃y:Fz×List Value,ee=.returned (.agg y.2.toArray)∧(Φ.Le y.1∧RFun y.1 y.2 x.1)∧Mem y.1 (.blk r (ob [rs,.int .i64 ((x.2:Nat):Int)] 210)::K) w') (fun c=>ee=.panicked (mI c)∧Mem Φ K w')):=by
 obtain ⟨pw,cw,rfl,hmw,hnw⟩:=rl.fm
 refine zL func141 ntmps141 fun Q hQ a he =>?_
 refine Alc fun b2 w hm a he =>?_
 replace hm:=hm.pl 1
 refine qZ call142 (fun q4 w hq5 hm a he =>?_) (fun q4 w hq5 hm =>?_) (c:=nE G (i:=i) rl hws (by omega) hm)
 have hleq4:=jS hq5
 refine yJ fun a he =>?_
 refine Alc fun b6 w hm a he =>?_
 refine Sto 0 fun w hm a he =>?_
 refine go fun a he =>?_
 replace hm:=hm.nilRow 36 2
 replace hm:=hm.nf
 refine yF (he.ks [0,2,3]) hm (fun R mm a w=>∃(j:Nat) (u:Value) (cs:List Value) (xs:List Param) (f:Nat),mm=ws.length - j∧R Φ [] [(0,.gs (u) 36 2 cs),(1,.blk b6 (ob [.string q4.1,u,.string ⟨#[]⟩,.int .i64 ((0:Nat):Int),.int .i64 ((0:Nat):Int),.string ⟨#[]⟩,.slice none 0 0,.slice none 0 0] 112)),(2,.blk r (ob [.slice pw ws.length cw,.int .i64 ((j:Nat):Int)] 210))] a w∧(Chunks (RParam Φ) 2 cs xs∧xs.length≤j∧j≤ws.length∧xs.length+f=ws.length+1∧kB ws (ws.length+1) q4.2=vW xs (kB ws f j))) (ws.length - q4.2) ⟨q4.2,.slice none 0 0,[],[],ws.length+1,rfl,⟨he.pk,hm⟩,⟨rfl,Nat.zero_le _,by omega,Nat.zero_add _,dD _⟩⟩ ?_
 clear hm he
 rintro mm a w ⟨j,u,cs,xs,f,hmu,⟨he,hm⟩,hI9⟩ L8 hL8
 replace hm:=hm.nf
 obtain ⟨hch,hxl,hj,hf_,hI_⟩:=hI9
 replace hm:=hm.pl 2
 refine zZ call179 (fun w hm a he =>?_) (c:=pA (i:=j) rl hws (by omega) hm)
 by_cases h12:(zC ws j)=(⟨#[40]⟩:ByteArray)
 have hlt_:=oU h12 (by decide)
 refine Sto 0 fun w hm a he =>?_
 refine Reg [1,2,1,0,0,0,1,0] [2,3] fun w hm a he =>?_
 refine qZ call140 (fun q15 w hq16 hm a he =>?_) (fun q15 w hq16 hm =>?_) (c:=y6a G (i:=(j+1)) rl hws (by omega) hm)
 have hleq15:=q2c hq16
 refine qW fun v17 w hm a he =>?_
 refine qL 2 rt_23 (fun v18 w hm a he =>?_)
 refine Sto 3 fun w hm a he =>?_
 replace hm:=hm.pl 1
 refine qZ call178 (fun q19 w hq20 hm a he =>?_) (fun q19 w hq20 hm =>?_) (c:=wE (x:=(⟨#[41]⟩:ByteArray)) (i:=q15.2) rl hws (by omega) hm)
 have hleq19:=wD hq20
 refine go fun a he =>?_
 replace hm:=hm.ar [1] [3,1,3,3]
 refine hL8 _ _ _ (by subst hmu;omega) ⟨(q19.2),(v18),((cs++[.string q15.1.name,.string q15.1.type])),(xs++[q15.1]),(f - 1),rfl,⟨he.pk,by exact hm⟩,?_⟩
 exact ⟨(hch.snoc (k:=2) (x:=q15.1) rfl rfl),by simp only [List.length_append,List.length_cons,List.length_nil];omega,by omega,by simp only [List.length_append,List.length_cons,List.length_nil];omega,q2d hI_ (by omega) h12 hq16 hq20⟩
 replace hm:=hm.dl [3,2,1,0]
 show Out (cR ws i) _ _
 rw [show cR ws i=.error _ from (zB hq5).trans (zM (y8l hI_ (by omega) h12 hq16 hq20))]
 exact ⟨rfl,hm⟩
 replace hm:=hm.dl [2,1,0]
 show Out (cR ws i) _ _
 rw [show cR ws i=.error _ from (zB hq5).trans (zM (y8k hI_ (by omega) h12 hq16))]
 exact ⟨rfl,hm⟩
 refine go fun a he =>?_
 have hm0_:=hm
 clear hm
 obtain ⟨Ψ22,le23,hm,hrow24⟩:=hm0_.freezeRow (i:=1) rfl
 clear hm0_
 replace rl:=rl.up le23
 replace G:=G.mono le23
 replace hch:=hch.mono fun _ _ h=>RParam.mono _ _ _ _ le23 h
 replace hm:=hm.nf
 have hsl25:SliceOf RParam Ψ22 2 _ (xs):=⟨_,hrow24,hch⟩
 obtain ⟨p26,c27,hv_,hm28,hn29⟩:=hsl25.form (by decide)
 have hmk_:=hm
 clear hm
 subst hv_
 have hm:=hmk_
 clear hmk_
 have hv30:=q6a hI_ (by omega) h12
 refine qZ call178 (fun q31 w hq32 hm a he =>?_) (fun q31 w hq32 hm =>?_) (c:=wE (x:=(⟨#[58]⟩:ByteArray)) (i:=j) rl hws (by omega) hm)
 have hleq31:=wD hq32
 refine qZ call177 (fun q34 w hq35 hm a he =>?_) (fun q34 w hq35 hm =>?_) (c:=dW G (i:=q31.2) rl hws (by omega) hm)
 have hleq34:=jS hq35
 refine Sto 1 fun w hm a he =>?_
 refine qZ call178 (fun q37 w hq38 hm a he =>?_) (fun q37 w hq38 hm =>?_) (c:=wE (x:=(⟨#[61]⟩:ByteArray)) (i:=q34.2) rl hws (by omega) hm)
 have hleq37:=wD hq38
 refine xW call180 (fun q40 y41 w hq42 hG43 hm a he =>?_) (fun q40 w hq42 hm =>?_) (c:=hE G rl (i:=q37.2) (by omega) hm)
 obtain ⟨Ψ44,d45⟩:=y41
 obtain ⟨le46,hr47⟩:=hG43
 simp only at le46 hr47 hm he
 have hgo48:=vE 250 _ _ hq42
 replace G:=G.mono le46
 replace hsl25:=hsl25.up le46
 replace hm:=hm.nf
 obtain ⟨p51,c52,p57,c58,rfl,hi61,h50,h56,hm53,hn54,hm59,hn60⟩:=REx.fm hr47
 refine Sto 1 fun w hm a he =>?_
 refine Sto 2 fun w hm a he =>?_
 refine go fun a he =>?_
 have hmr:=hm
 replace hm:=hm.dl [2,1]
 refine jU (hm:=hmr) ?_
 show Out (cR ws i) _ _
 rw [show cR ws i=.ok ((⟨q4.1,xs,q34.1,q40.1⟩:Fun),q40.2) from (zB hq5).trans ((zB hv30).trans ((zB hq32).trans ((zB hq35).trans ((zB hq38).trans ((zB hq42).trans (rfl))))))]
 exact ⟨(Ψ44,_),rfl,⟨(le23).trans le46,⟨_,_,rfl,hsl25,hr47⟩⟩,hm⟩
 replace hm:=hm.dl [1,0]
 show Out (cR ws i) _ _
 rw [show cR ws i=.error _ from (zB hq5).trans ((zB hv30).trans ((zB hq32).trans ((zB hq35).trans ((zB hq38).trans (zM hq42)))))]
 exact ⟨rfl,hm.le (le23)⟩
 replace hm:=hm.dl [1,0]
 show Out (cR ws i) _ _
 rw [show cR ws i=.error _ from (zB hq5).trans ((zB hv30).trans ((zB hq32).trans ((zB hq35).trans (zM hq38))))]
 exact ⟨rfl,hm.le (le23)⟩
 replace hm:=hm.dl [1,0]
 show Out (cR ws i) _ _
 rw [show cR ws i=.error _ from (zB hq5).trans ((zB hv30).trans ((zB hq32).trans (zM hq35)))]
 exact ⟨rfl,hm.le (le23)⟩
 replace hm:=hm.dl [1,0]
 show Out (cR ws i) _ _
 rw [show cR ws i=.error _ from (zB hq5).trans ((zB hv30).trans (zM hq32))]
 exact ⟨rfl,hm.le (le23)⟩
 replace hm:=hm.dl [0]
 show Out (cR ws i) _ _
 rw [show cR ws i=.error _ from zM hq5]
 exact ⟨rfl,hm⟩
end Go.Sw

namespace Go.Sw
theorem Mem.freezeRowT {Φ:Fz} {K:List Res} {w:World} {v:Value} {T:TypeId} {k i:Nat} {cs:List Value} (hm:Mem Φ K w) (hk:qJ K i=some (.gs v T k cs)) :
  ∃Ψ,Φ.Le Ψ∧Mem Ψ (gH K i) w∧Row Ψ v k cs∧∀K' w',Mem Ψ K' w'→Mem Φ (.gs v T k cs::K') w':=by
 have h:=hm.pull hk
 obtain ⟨m,hl,h2⟩:=hm.own _ (qH hk)
 rcases h2 with ⟨rfl,rfl⟩ | ⟨b,cap,cur,rfl,h0,hg,hc,hmx,hcs,htake⟩
 ·refine ⟨Φ,Fz.Le.refl Φ,h.tail,.inl ⟨rfl,List.eq_nil_of_length_eq_zero (by simpa using hl)⟩,fun K' w' h' =>?_⟩
  have:cs=[]:=List.eq_nil_of_length_eq_zero (by simpa using hl)
  subst this
  exact h'.nilRow T k
 ·have hno:=h.no (b:=b) rfl
  refine ⟨_,Fz.le_add hno _,h.freezeHead (b:=b) rfl hg,.inr ⟨_,m,cap,rfl,hl,Nat.le_trans hc hmx,fun _=>⟨rfl,cur,T,(0,0),by simp [Fz.add],fun j v hj =>?_⟩⟩,fun K' w' h' =>?_⟩
  ·rw [← htake,List.getElem?_take] at hj
   split at hj
   ·simpa using hj
   ·cases hj
  ·have hb:w'.heap[b]? = some (.cells cur T (0,0)):=h'.fz b _ (by simp [Fz.add])
   have hk':∀c∈cW K',c≠b:=fun c hc e=>by
    have:=h'.apart c hc
    subst e
    simp [Fz.add] at this
   refine { fz:=fun c o hc=>h'.fz c o ((Fz.le_add hno _).obj c o hc),own:=fun r hr =>?_,os:=h'.os,out:=h'.out,nodup := ?_,apart:=fun c hc =>?_ }
   ·rcases List.mem_cons.1 hr with rfl | hr
    ·exact ⟨m,hl,.inr ⟨b,cap,cur,rfl,h0,hb,hc,hmx,hcs,htake⟩⟩
    ·exact h'.own r hr
   ·show (cW (.gs _ _ _ _::K')).Nodup
    simp only [cW,List.filterMap_cons,Res.foot,Value.ownBlock,List.nodup_cons]
    exact ⟨fun hc=>hk' _ hc rfl,h'.nodup⟩
   ·simp only [cW,List.filterMap_cons,Res.foot,Value.ownBlock,List.mem_cons] at hc
    rcases hc with rfl | hc
    ·exact hno
    ·have h3:=h'.apart c hc
     simp only [Fz.add,if_neg (hk' c hc)] at h3
     exact h3
theorem SliceOf.formO {α:Type} {R:Fz→List Value→α→Prop} {Φ:Fz} {k c:Nat} {q:Option Addr} {xs:List α} (h:SliceOf R Φ k (.slice q xs.length c) xs) (hk:0 < k) :
  xs.length≤9223372036854775807∧(xs≠[]→∃p,q=some p):=by
 obtain ⟨p,c',e,h1,h2⟩:=h.form hk
 injection e with e1 e2 e3
 subst e1
 exact ⟨h1,h2⟩
def Thaw (R:List Res) (Φ:Fz) (v:Value) (l:List Bs):Prop :=
 ∀(Ψ:Fz) (K:List Res) (w:World),Φ.Le Ψ→Mem Ψ (R++K) w→∃Ψ2,Ψ.Le Ψ2∧Mem Ψ2 K w∧SliceOf RStr Ψ2 1 v l∧∀K' w',Mem Ψ2 K' w'→Mem Ψ (R++K') w'
theorem Thaw.none {Φ:Fz} {v:Value} {l:List Bs} (h:SliceOf RStr Φ 1 v l):Thaw [] Φ v l :=
 fun Ψ _ _ hl hm=>⟨Ψ,Fz.Le.refl _,hm,h.mono RStr.mono hl,fun _ _ h=>h⟩
theorem Thaw.own {Φ:Fz} {v:Value} {l:List Bs}:Thaw [.gs v 9 1 (strs l)] Φ v l:=fun _ _ _ _ hm =>
 let ⟨Ψ2,h1,h2,h3,h4⟩:=hm.freezeRowT (i:=0) rfl
 ⟨Ψ2,h1,h2,SliceOf.strs.2 h3,h4⟩
theorem Thaw.mono {R:List Res} {Φ Ψ:Fz} {v:Value} {l:List Bs} (h:Thaw R Φ v l) (hl:Φ.Le Ψ):Thaw R Ψ v l :=
 fun Ψ2 K w h2 hm=>h Ψ2 K w (hl.trans h2) hm
def NewRow (Φ:Fz) (v:Value):Prop:=∀p n c,v=.slice (some p) n c→Φ.obj p.block=none
theorem NewRow.nil {Φ:Fz}:NewRow Φ (.slice none 0 0):=fun _ _ _ h=>by cases h
theorem NewRow.anti {Φ Ψ:Fz} {v:Value} (h:NewRow Ψ v) (hl:Φ.Le Ψ):NewRow Φ v:=fun p n c e=>by
 cases ho:Φ.obj p.block with
 | none=>rfl
 | some o=>exact absurd (hl.obj _ _ ho) (by rw [h p n c e];simp)
theorem Mem.freezeRowN {Φ:Fz} {K:List Res} {w:World} {v:Value} {T:TypeId} {k i:Nat} {cs:List Value} (hm:Mem Φ K w) (hk:qJ K i=some (.gs v T k cs)) :
  ∃Ψ,Φ.Le Ψ∧Mem Ψ (gH K i) w∧Row Ψ v k cs∧NewRow Φ v:=by
 obtain ⟨Ψ,h1,h2,h3⟩:=hm.freezeRow hk
 refine ⟨Ψ,h1,h2,h3,fun p n c e =>?_⟩
 have h:=hm.pull hk
 obtain ⟨m,hl,h2⟩:=hm.own _ (qH hk)
 rcases h2 with ⟨rfl,rfl⟩ | ⟨b,cap,cur,rfl,h0,hg,hc,hmx,hcs,htake⟩
 ·cases e
 ·have hno:=h.no (b:=b) rfl
  injection e with e1 _ _
  injection e1 with e1
  subst e1
  exact hno
def Fz.del (Φ:Fz) (b:Nat):Fz:={ Φ with obj:=fun c=>if c=b then none else Φ.obj c }
theorem At.del {Φ:Fz} {p:Addr} {cs:List Value} {b:Nat} (h:At Φ p cs) (hb:p.block≠b):At (Φ.del b) p cs:=by
 obtain ⟨h1,cur,T,o,h2,h3⟩:=h
 exact ⟨h1,cur,T,o,by simp only [Fz.del,if_neg hb];exact h2,h3⟩
end Go.Sw

namespace Go.Sw
open Go.Proofs.Tryz
open Go.Proofs
set_option maxRecDepth 20000
set_option maxHeartbeats 4000000
theorem j4k {Φ:Fz} {K:List Res} {w:World} {v0:Value} {l:List Bs} (rpl:SliceOf RStr Φ 1 v0 l) (G:Glob Φ) (hm:Mem Φ K w) :
  Calls prog 132 (List.toArray [v0]) w (fun ee w'=>ee=.returned (.bool (gD yY [] l))∧Mem Φ K w'):=by
 obtain ⟨p0,c0,rfl,hm0,hn0⟩:=rpl.fm
 refine zL func132 ntmps132 fun Q hQ a he =>?_
 refine MkM fun b3 w hm a he =>?_
 refine go fun a he =>?_
 refine yF (he.ks [3,7,8]) hm (fun R mm a w=>∃(i:Nat) (ds:List Bs),mm=l.length - i∧R Φ [(9,.int .i64 ((i:Nat):Int))] [(0,.mp b3 (pL ds))] a w∧(gD yY [] l=gD yY ds (l.drop i))) (l.length - 0) ⟨0,[],rfl,⟨he.pk,hm⟩,rfl⟩ ?_
 clear hm he
 rintro mm a w ⟨i,ds,hmu,⟨he,hm⟩,hI7⟩ L6 hL6
 replace hm:=hm.nf
 by_cases h9:i < l.length
 refine go fun a he =>?_
 obtain ⟨q13,rfl,x14,hx15,cs16,hl17,ha18,hr19⟩:=rpl.el hn0 h9
 obtain rfl:cs16=[.string x14]:=hr19
 refine yK call161 (fun hB22 w hm a he =>?_) (fun hB22 w hm a he =>?_) (c:=gT G hm)
 refine go fun a he =>?_
 rcases hf23:yA ((pL ds)) x14 with _ | vf24
 have hf23_:=congrArg (zF false (.bool false)) hf23
 refine Qq (fun a he =>?_) (o:=by exact fun he hs=>Ok.cast (zQ 0 runUnderlying198 runUnderlying9 zeroValue4 he hs rfl rfl rfl) (show zF false (.bool false) (yA ((pL ds)) x14)=.bool false from hf23_))
 refine uX 0 runUnderlying198 runUnderlying9 fun w hm a he =>?_
 rw [← z1e] at hm
 refine go fun a he =>?_
 refine hL6 _ _ _ (by subst hmu;omega) ⟨(i+1),(ds++[x14]),rfl,⟨he.pk,hm⟩,?_⟩
 rw [hI7,zA hx15];have hn_:=y2c hf23;simp [gD, *]
 obtain ⟨rfl,hs25⟩:=y2d hf23
 have hf23_:=congrArg (zF false (.bool false)) hf23
 refine Qq (fun a he =>?_) (o:=by exact fun he hs=>Ok.cast (zQ 0 runUnderlying198 runUnderlying9 zeroValue4 he hs rfl rfl rfl) (show zF false (.bool false) (yA ((pL ds)) x14)=.bool true from hf23_))
 refine zI ?_
 replace hm:=hm.dl [0]
 exact zV hm (by rw [hI7,zA hx15];simp [gD, *])
 refine zI ?_
 replace hm:=hm.dl [0]
 exact zV hm (by rw [hI7,zA hx15];simp [gD, *])
 refine zI ?_
 replace hm:=hm.dl [0]
 exact zV hm (by rw [hI7,zE h9];rfl)
end Go.Sw

namespace Go.Sw
open Go.Proofs.Tryz
open Go.Proofs
set_option maxRecDepth 20000
set_option maxHeartbeats 4000000
variable {Φ:Fz} {K:List Res} {w:World}
theorem y8i {b:Nat} {m:List (Bs×Value)} {l:List (Bs×Data)} {name:Bs} {d2:List Value} {x:Data} (rpl:MapRel (RVa RData Φ) m l) (rpx:RData Φ d2 x) (hm:Mem Φ (.mp b m::K) w) :
  Calls prog 159 (List.toArray [.map (some b),.string name,.agg d2.toArray]) w (fun ee w'=>ee=.returned (.bool ((zH l name).isNone))∧Mem Φ (.mp b (vA m name (.agg d2.toArray))::K) w'):=by
 obtain ⟨s1,rfl,h2⟩:=id rpx
 obtain ⟨p3,c4,rfl,hm5,hn6⟩:=h2.fm
 refine zL func159 ntmps159 fun Q hQ a he =>?_
 refine Bx fun b8 w hm a he =>?_
 refine go fun a he =>?_
 rcases hf11:yA (m) name with _ | vf12
 have hf11_:=congrArg (zF true (.agg (List.toArray [.string ⟨#[]⟩,.slice none 0 0]))) hf11
 refine Qq (fun a he =>?_) (o:=by exact fun he hs=>Ok.cast (zQ 1 runUnderlying113 runUnderlying9 zeroValue126 he hs rfl rfl rfl) (show zF true (.agg (List.toArray [.string ⟨#[]⟩,.slice none 0 0])) (yA (m) name)=.tuple (List.toArray [.agg (List.toArray [.string ⟨#[]⟩,.slice none 0 0]),.bool false]) from hf11_))
 refine Alc fun b13 w hm a he =>?_
 refine Sto 0 fun w hm a he =>?_
 refine uX 2 runUnderlying113 runUnderlying9 fun w hm a he =>?_
 refine zI ?_
 replace hm:=hm.dl [1,0]
 refine ⟨?_,?_⟩
 rw [rpl.none hf11];rfl
 simp only [vA,hf11];exact hm
 obtain ⟨y17,hy18,cs19,rfl,hr20⟩:=rpl.get hf11
 obtain ⟨s21,rfl,h22⟩:=id hr20
 obtain ⟨p23,c24,rfl,hm25,hn26⟩:=h22.fm
 have hf11_:=congrArg (zF true (.agg (List.toArray [.string ⟨#[]⟩,.slice none 0 0]))) hf11
 refine Qq (fun a he =>?_) (o:=by exact fun he hs=>Ok.cast (zQ 1 runUnderlying113 runUnderlying9 zeroValue126 he hs rfl rfl rfl) (show zF true (.agg (List.toArray [.string ⟨#[]⟩,.slice none 0 0])) (yA (m) name)=.tuple (List.toArray [.agg (List.toArray [.string y17.name,.slice p23 y17.cons.length c24]),.bool true]) from hf11_))
 refine Alc fun b27 w hm a he =>?_
 refine Sto 0 fun w hm a he =>?_
 refine zI ?_
 replace hm:=hm.dl [1,0]
 refine ⟨?_,?_⟩
 rw [hy18];rfl
 simp only [vA,hf11];exact hm
theorem wI {b:Nat} {m:List (Bs×Value)} {l:List (Bs×Maker)} {name:Bs} {d2:List Value} {x:Maker} (rpl:MapRel (RVa RMaker Φ) m l) (rpx:RMaker Φ d2 x) (hm:Mem Φ (.mp b m::K) w) :
  Calls prog 160 (List.toArray [.map (some b),.string name,.agg d2.toArray]) w (fun ee w'=>ee=.returned (.bool ((zH l name).isNone))∧Mem Φ (.mp b (vA m name (.agg d2.toArray))::K) w'):=by
 obtain ⟨b1,rfl,h2⟩:=id rpx
 obtain ⟨s3,rfl,h4⟩:=id h2
 obtain ⟨p5,c6,rfl,hm7,hn8⟩:=h4.fm
 refine zL func160 ntmps160 fun Q hQ a he =>?_
 refine Bx fun b10 w hm a he =>?_
 refine go fun a he =>?_
 rcases hf13:yA (m) name with _ | vf14
 have hf13_:=congrArg (zF true (.agg (List.toArray [.string ⟨#[]⟩,.string ⟨#[]⟩,.slice none 0 0]))) hf13
 refine Qq (fun a he =>?_) (o:=by exact fun he hs=>Ok.cast (zQ 1 runUnderlying114 runUnderlying9 zeroValue201 he hs rfl rfl rfl) (show zF true (.agg (List.toArray [.string ⟨#[]⟩,.string ⟨#[]⟩,.slice none 0 0])) (yA (m) name)=.tuple (List.toArray [.agg (List.toArray [.string ⟨#[]⟩,.string ⟨#[]⟩,.slice none 0 0]),.bool false]) from hf13_))
 refine Alc fun b15 w hm a he =>?_
 refine Sto 0 fun w hm a he =>?_
 refine uX 2 runUnderlying114 runUnderlying9 fun w hm a he =>?_
 refine zI ?_
 replace hm:=hm.dl [1,0]
 refine ⟨?_,?_⟩
 rw [rpl.none hf13];rfl
 simp only [vA,hf13];exact hm
 obtain ⟨y19,hy20,cs21,rfl,hr22⟩:=rpl.get hf13
 obtain ⟨b23,rfl,h24⟩:=id hr22
 obtain ⟨s25,rfl,h26⟩:=id h24
 obtain ⟨p27,c28,rfl,hm29,hn30⟩:=h26.fm
 have hf13_:=congrArg (zF true (.agg (List.toArray [.string ⟨#[]⟩,.string ⟨#[]⟩,.slice none 0 0]))) hf13
 refine Qq (fun a he =>?_) (o:=by exact fun he hs=>Ok.cast (zQ 1 runUnderlying114 runUnderlying9 zeroValue201 he hs rfl rfl rfl) (show zF true (.agg (List.toArray [.string ⟨#[]⟩,.string ⟨#[]⟩,.slice none 0 0])) (yA (m) name)=.tuple (List.toArray [.agg (List.toArray [.string y19.data,.string y19.con.name,.slice p27 y19.con.fields.length c28]),.bool true]) from hf13_))
 refine Alc fun b31 w hm a he =>?_
 refine Sto 0 fun w hm a he =>?_
 refine zI ?_
 replace hm:=hm.dl [1,0]
 refine ⟨?_,?_⟩
 rw [hy20];rfl
 simp only [vA,hf13];exact hm
theorem q2a {b:Nat} {m:List (Bs×Value)} {l:List (Bs×Fun)} {name:Bs} {d2:List Value} {x:Fun} (rpl:MapRel (RVa RFun Φ) m l) (rpx:RFun Φ d2 x) (hm:Mem Φ (.mp b m::K) w) :
  Calls prog 162 (List.toArray [.map (some b),.string name,.agg d2.toArray]) w (fun ee w'=>ee=.returned (.bool ((zH l name).isNone))∧Mem Φ (.mp b (vA m name (.agg d2.toArray))::K) w'):=by
 obtain ⟨s1,b7,rfl,h2,h8⟩:=id rpx
 obtain ⟨p3,c4,rfl,hm5,hn6⟩:=h2.fm
 obtain ⟨p11,c12,p17,c18,rfl,hi21,h10,h16,hm13,hn14,hm19,hn20⟩:=REx.fm h8
 refine zL func162 ntmps162 fun Q hQ a he =>?_
 refine Bx fun b23 w hm a he =>?_
 refine go fun a he =>?_
 rcases hf26:yA (m) name with _ | vf27
 have hf26_:=congrArg (zF true (.agg (List.toArray [.string ⟨#[]⟩,.slice none 0 0,.string ⟨#[]⟩,.int .i64 ((0:Nat):Int),.int .i64 ((0:Nat):Int),.string ⟨#[]⟩,.slice none 0 0,.slice none 0 0]))) hf26
 refine Qq (fun a he =>?_) (o:=by exact fun he hs=>Ok.cast (zQ 1 runUnderlying115 runUnderlying9 zeroValue112 he hs rfl rfl rfl) (show zF true (.agg (List.toArray [.string ⟨#[]⟩,.slice none 0 0,.string ⟨#[]⟩,.int .i64 ((0:Nat):Int),.int .i64 ((0:Nat):Int),.string ⟨#[]⟩,.slice none 0 0,.slice none 0 0])) (yA (m) name)=.tuple (List.toArray [.agg (List.toArray [.string ⟨#[]⟩,.slice none 0 0,.string ⟨#[]⟩,.int .i64 ((0:Nat):Int),.int .i64 ((0:Nat):Int),.string ⟨#[]⟩,.slice none 0 0,.slice none 0 0]),.bool false]) from hf26_))
 refine Alc fun b28 w hm a he =>?_
 refine Sto 0 fun w hm a he =>?_
 refine uX 2 runUnderlying115 runUnderlying9 fun w hm a he =>?_
 refine zI ?_
 replace hm:=hm.dl [1,0]
 refine ⟨?_,?_⟩
 rw [rpl.none hf26];rfl
 simp only [vA,hf26];exact hm
 obtain ⟨y32,hy33,cs34,rfl,hr35⟩:=rpl.get hf26
 obtain ⟨s36,b42,rfl,h37,h43⟩:=id hr35
 obtain ⟨p38,c39,rfl,hm40,hn41⟩:=h37.fm
 obtain ⟨p46,c47,p52,c53,rfl,hi56,h45,h51,hm48,hn49,hm54,hn55⟩:=REx.fm h43
 have hf26_:=congrArg (zF true (.agg (List.toArray [.string ⟨#[]⟩,.slice none 0 0,.string ⟨#[]⟩,.int .i64 ((0:Nat):Int),.int .i64 ((0:Nat):Int),.string ⟨#[]⟩,.slice none 0 0,.slice none 0 0]))) hf26
 refine Qq (fun a he =>?_) (o:=by exact fun he hs=>Ok.cast (zQ 1 runUnderlying115 runUnderlying9 zeroValue112 he hs rfl rfl rfl) (show zF true (.agg (List.toArray [.string ⟨#[]⟩,.slice none 0 0,.string ⟨#[]⟩,.int .i64 ((0:Nat):Int),.int .i64 ((0:Nat):Int),.string ⟨#[]⟩,.slice none 0 0,.slice none 0 0])) (yA (m) name)=.tuple (List.toArray [.agg (List.toArray [.string y32.name,.slice p38 y32.params.length c39,.string y32.result,.int .i64 (y32.body.kind),.int .i64 (y32.body.num),.string y32.body.name,.slice p46 y32.body.args.length c47,.slice p52 y32.body.arms.length c53]),.bool true]) from hf26_))
 refine Alc fun b57 w hm a he =>?_
 refine Sto 0 fun w hm a he =>?_
 refine zI ?_
 replace hm:=hm.dl [1,0]
 refine ⟨?_,?_⟩
 rw [hy33];rfl
 simp only [vA,hf26];exact hm
theorem q5w {b:Nat} {m:List (Bs×Value)} {l:List (Bs×Bs)} {name:Bs} {x:Bs} (rpl:MapRel RVs m l) (hm:Mem Φ (.mp b m::K) w) :
  Calls prog 163 (List.toArray [.map (some b),.string name,.string x]) w (fun ee w'=>ee=.returned (.bool ((zH l name).isNone))∧Mem Φ (.mp b (vA m name (.string x))::K) w'):=by
 refine zL func163 ntmps163 fun Q hQ a he =>?_
 refine go fun a he =>?_
 rcases hf4:yA (m) name with _ | vf5
 have hf4_:=congrArg (zF true (.string ⟨#[]⟩)) hf4
 refine Qq (fun a he =>?_) (o:=by exact fun he hs=>Ok.cast (zQ 0 runUnderlying70 runUnderlying9 zeroValue9 he hs rfl rfl rfl) (show zF true (.string ⟨#[]⟩) (yA (m) name)=.tuple (List.toArray [.string ⟨#[]⟩,.bool false]) from hf4_))
 refine uX 0 runUnderlying70 runUnderlying9 fun w hm a he =>?_
 refine zI ?_
 refine ⟨?_,?_⟩
 rw [rpl.none hf4];rfl
 simp only [vA,hf4];exact hm
 obtain ⟨y9,hy10,rfl⟩:=rpl.get hf4
 have hf4_:=congrArg (zF true (.string ⟨#[]⟩)) hf4
 refine Qq (fun a he =>?_) (o:=by exact fun he hs=>Ok.cast (zQ 0 runUnderlying70 runUnderlying9 zeroValue9 he hs rfl rfl rfl) (show zF true (.string ⟨#[]⟩) (yA (m) name)=.tuple (List.toArray [.string y9,.bool true]) from hf4_))
 refine zI ?_
 refine ⟨?_,?_⟩
 rw [hy10];rfl
 simp only [vA,hf4];exact hm
end Go.Sw

namespace Go.Sw
open Go.Proofs.Tryz
open Go.Proofs
set_option maxRecDepth 20000
set_option maxHeartbeats 4000000
theorem z4m {Φ:Fz} {K:List Res} {w:World} {p0:Addr} {T:Table} {name:Bs} (rpT:RTable Φ p0 T) (hm:Mem Φ K w) :
  Calls prog 128 (List.toArray [.pointer (some p0),.string name]) w (fun ee w'=>ee=.returned (.bool (wM T name))∧Mem Φ K w'):=by
 obtain ⟨cs17,m1,m2,m3,m4,d5,d6,d7,d8,hat18,hcl19,hcore20,ma9,mr13,ma10,mr14,ma11,mr15,ma12,mr16⟩:=rpT.ex
 obtain ⟨p23,c24,p29,c30,p35,c36,p41,c42,rfl,h22,h28,h34,h40,hm25,hn26,hm31,hn32,hm37,hn38,hm43,hn44⟩:=RCore.fm hcore20
 refine zL func128 ntmps128 fun Q hQ a he =>?_
 refine go fun a he =>?_
 rcases hf47:yA (d5) name with _ | vf48
 have hf47_:=congrArg (zF true (.agg (List.toArray [.string ⟨#[]⟩,.slice none 0 0]))) hf47
 refine Qq (fun a he =>?_) (o:=by exact fun he hs=>Ok.cast (yD runUnderlying113 runUnderlying9 zeroValue126 he hs rfl rfl ma9) (show zF true (.agg (List.toArray [.string ⟨#[]⟩,.slice none 0 0])) (yA (d5) name)=.tuple (List.toArray [.agg (List.toArray [.string ⟨#[]⟩,.slice none 0 0]),.bool false]) from hf47_))
 refine Alc fun b49 w hm a he =>?_
 refine Sto 0 fun w hm a he =>?_
 refine Qq (fun a he =>?_) (o:=by exact fun he hs=>z8c he rfl rfl)
 refine zI ?_
 replace hm:=hm.dl [0]
 exact zV hm (by have e_:=MapRel.none mr13 hf47;simp [wM,qC, *] <;> rfl)
 obtain ⟨y51,hy52,cs53,rfl,hr54⟩:=mr13.get hf47
 obtain ⟨s55,rfl,h56⟩:=id hr54
 obtain ⟨p57,c58,rfl,hm59,hn60⟩:=h56.fm
 have hf47_:=congrArg (zF true (.agg (List.toArray [.string ⟨#[]⟩,.slice none 0 0]))) hf47
 refine Qq (fun a he =>?_) (o:=by exact fun he hs=>Ok.cast (yD runUnderlying113 runUnderlying9 zeroValue126 he hs rfl rfl ma9) (show zF true (.agg (List.toArray [.string ⟨#[]⟩,.slice none 0 0])) (yA (d5) name)=.tuple (List.toArray [.agg (List.toArray [.string y51.name,.slice p57 y51.cons.length c58]),.bool true]) from hf47_))
 refine Alc fun b61 w hm a he =>?_
 refine Sto 0 fun w hm a he =>?_
 refine zI ?_
 replace hm:=hm.dl [0]
 exact zV hm (by simp [wM,qC, *] <;> rfl)
theorem dJ {Φ:Fz} {K:List Res} {w:World} {d0:List Value} {e:Ex} {nm:Bool} {sn:Bool} {ar:Int} {rm:Int} (rpe:REx Φ d0 e) (hm:Mem Φ K w) :
  Calls prog 185 (List.toArray [.agg d0.toArray,.bool nm,.bool sn,.int .i64 ar,.int .i64 rm]) w (fun ee w'=>ee=.returned (.bool (qN e nm sn ar rm))∧Mem Φ K w'):=by
 obtain ⟨p3,c4,p9,c10,rfl,hi13,h2,h8,hm5,hn6,hm11,hn12⟩:=REx.fm rpe
 refine zL func185 ntmps185 fun Q hQ a he =>?_
 refine Bx fun b15 w hm a he =>?_
 refine go fun a he =>?_
 cases nm
 by_cases h17:e.num=0
 refine go fun a he =>?_
 cases sn
 by_cases h18:e.name=(⟨#[]⟩:ByteArray)
 by_cases h19:ar < 0
 by_cases h20:rm < 0
 refine zI ?_
 replace hm:=hm.dl [0]
 exact zV hm (by simp [qN, *] <;> omega)
 refine Qq (fun a he =>?_) (o:=by exact fun he hs=>nK he rfl rfl)
 refine zI ?_
 replace hm:=hm.dl [0]
 exact zV hm (by simp [qN, *] <;> omega)
 by_cases h21:((e.args.length:Nat):Int)=ar
 refine go fun a he =>?_
 by_cases h22:rm < 0
 refine zI ?_
 replace hm:=hm.dl [0]
 exact zV hm (by simp [qN, *] <;> omega)
 refine Qq (fun a he =>?_) (o:=by exact fun he hs=>nK he rfl rfl)
 refine zI ?_
 replace hm:=hm.dl [0]
 exact zV hm (by simp [qN, *] <;> omega)
 refine zI ?_
 replace hm:=hm.dl [0]
 exact zV hm (by simp [qN, *] <;> omega)
 refine zI ?_
 replace hm:=hm.dl [0]
 exact zV hm (by simp [qN, *] <;> omega)
 by_cases h23:ar < 0
 by_cases h24:rm < 0
 refine zI ?_
 replace hm:=hm.dl [0]
 exact zV hm (by simp [qN, *] <;> omega)
 refine Qq (fun a he =>?_) (o:=by exact fun he hs=>nK he rfl rfl)
 refine zI ?_
 replace hm:=hm.dl [0]
 exact zV hm (by simp [qN, *] <;> omega)
 by_cases h25:((e.args.length:Nat):Int)=ar
 by_cases h26:rm < 0
 refine zI ?_
 replace hm:=hm.dl [0]
 exact zV hm (by simp [qN, *] <;> omega)
 refine Qq (fun a he =>?_) (o:=by exact fun he hs=>nK he rfl rfl)
 refine zI ?_
 replace hm:=hm.dl [0]
 exact zV hm (by simp [qN, *] <;> omega)
 refine zI ?_
 replace hm:=hm.dl [0]
 exact zV hm (by simp [qN, *] <;> omega)
 refine zI ?_
 replace hm:=hm.dl [0]
 exact zV hm (by simp [qN, *] <;> omega)
 refine go fun a he =>?_
 cases sn
 by_cases h27:e.name=(⟨#[]⟩:ByteArray)
 by_cases h28:ar < 0
 by_cases h29:rm < 0
 refine zI ?_
 replace hm:=hm.dl [0]
 exact zV hm (by simp [qN, *] <;> omega)
 refine Qq (fun a he =>?_) (o:=by exact fun he hs=>nK he rfl rfl)
 refine zI ?_
 replace hm:=hm.dl [0]
 exact zV hm (by simp [qN, *] <;> omega)
 by_cases h30:((e.args.length:Nat):Int)=ar
 refine go fun a he =>?_
 by_cases h31:rm < 0
 refine zI ?_
 replace hm:=hm.dl [0]
 exact zV hm (by simp [qN, *] <;> omega)
 refine Qq (fun a he =>?_) (o:=by exact fun he hs=>nK he rfl rfl)
 refine zI ?_
 replace hm:=hm.dl [0]
 exact zV hm (by simp [qN, *] <;> omega)
 refine zI ?_
 replace hm:=hm.dl [0]
 exact zV hm (by simp [qN, *] <;> omega)
 refine zI ?_
 replace hm:=hm.dl [0]
 exact zV hm (by simp [qN, *] <;> omega)
 by_cases h32:ar < 0
 by_cases h33:rm < 0
 refine zI ?_
 replace hm:=hm.dl [0]
 exact zV hm (by simp [qN, *] <;> omega)
 refine Qq (fun a he =>?_) (o:=by exact fun he hs=>nK he rfl rfl)
 refine zI ?_
 replace hm:=hm.dl [0]
 exact zV hm (by simp [qN, *] <;> omega)
 by_cases h34:((e.args.length:Nat):Int)=ar
 by_cases h35:rm < 0
 refine zI ?_
 replace hm:=hm.dl [0]
 exact zV hm (by simp [qN, *] <;> omega)
 refine Qq (fun a he =>?_) (o:=by exact fun he hs=>nK he rfl rfl)
 refine zI ?_
 replace hm:=hm.dl [0]
 exact zV hm (by simp [qN, *] <;> omega)
 refine zI ?_
 replace hm:=hm.dl [0]
 exact zV hm (by simp [qN, *] <;> omega)
end Go.Sw

namespace Go.Sw
open Go.Proofs.Tryz
open Go.Proofs
set_option maxRecDepth 20000
set_option maxHeartbeats 4000000
variable {Φ:Fz} {K:List Res} {w:World}
theorem j3a {p0:Addr} {T:Table} {d1:List Value} {e:Ex} {b:Nat} {s:Scope} (rpT:RTable Φ p0 T) (rpe:REx Φ d1 e) (hm:Mem Φ (.mp b (yM s)::K) w) :
  Calls prog 166 (List.toArray [.pointer (some p0),.agg d1.toArray,.map (some b)]) w (fun ee w'=>ee=.returned (.string (dS e))∧Mem Φ (.mp b (yM s)::K) w'):=by
 obtain ⟨cs17,m1,m2,m3,m4,d5,d6,d7,d8,hat18,hcl19,hcore20,ma9,mr13,ma10,mr14,ma11,mr15,ma12,mr16⟩:=rpT.ex
 obtain ⟨p23,c24,p29,c30,p35,c36,p41,c42,rfl,h22,h28,h34,h40,hm25,hn26,hm31,hn32,hm37,hn38,hm43,hn44⟩:=RCore.fm hcore20
 obtain ⟨p47,c48,p53,c54,rfl,hi57,h46,h52,hm49,hn50,hm55,hn56⟩:=REx.fm rpe
 refine zL func166 ntmps166 fun Q hQ a he =>?_
 refine Bx fun b59 w hm a he =>?_
 refine yK call185 (fun hB62 w hm a he =>?_) (fun hB62 w hm a he =>?_) (c:=dJ rpe hm)
 refine zI ?_
 replace hm:=hm.dl [0]
 exact z2x hm (by simp [dS,sNo,qC,hB62])
 refine zI ?_
 replace hm:=hm.dl [0]
 exact z2x hm (by simp [dS,sNo,qC,hB62])
theorem q3i {p0:Addr} {T:Table} {d1:List Value} {e:Ex} {b:Nat} {s:Scope} (rpT:RTable Φ p0 T) (rpe:REx Φ d1 e) (hm:Mem Φ (.mp b (yM s)::K) w) :
  Calls prog 167 (List.toArray [.pointer (some p0),.agg d1.toArray,.map (some b)]) w (fun ee w'=>ee=.returned (.string (pH e s))∧Mem Φ (.mp b (yM s)::K) w'):=by
 obtain ⟨cs17,m1,m2,m3,m4,d5,d6,d7,d8,hat18,hcl19,hcore20,ma9,mr13,ma10,mr14,ma11,mr15,ma12,mr16⟩:=rpT.ex
 obtain ⟨p23,c24,p29,c30,p35,c36,p41,c42,rfl,h22,h28,h34,h40,hm25,hn26,hm31,hn32,hm37,hn38,hm43,hn44⟩:=RCore.fm hcore20
 obtain ⟨p47,c48,p53,c54,rfl,hi57,h46,h52,hm49,hn50,hm55,hn56⟩:=REx.fm rpe
 refine zL func167 ntmps167 fun Q hQ a he =>?_
 refine Bx fun b59 w hm a he =>?_
 refine yK call185 (fun hB62 w hm a he =>?_) (fun hB62 w hm a he =>?_) (c:=dJ rpe hm)
 refine go fun a he =>?_
 rcases hf64:yA ((yM s)) e.name with _ | vf65
 have hf64_:=congrArg (zF false (.string ⟨#[]⟩)) hf64
 refine Qq (fun a he =>?_) (o:=by exact fun he hs=>Ok.cast (zQ 1 runUnderlying195 runUnderlying9 zeroValue9 he hs rfl rfl rfl) (show zF false (.string ⟨#[]⟩) (yA ((yM s)) e.name)=.string ⟨#[]⟩ from hf64_))
 refine zI ?_
 replace hm:=hm.dl [0]
 exact z2x hm (by have e_:=kI hf64;simp [pH,sNo,hB62,e_])
 obtain ⟨y66,hy67,rfl⟩:=kJ hf64
 have hf64_:=congrArg (zF false (.string ⟨#[]⟩)) hf64
 refine Qq (fun a he =>?_) (o:=by exact fun he hs=>Ok.cast (zQ 1 runUnderlying195 runUnderlying9 zeroValue9 he hs rfl rfl rfl) (show zF false (.string ⟨#[]⟩) (yA ((yM s)) e.name)=.string y66 from hf64_))
 refine zI ?_
 replace hm:=hm.dl [0]
 exact z2x hm (by simp [pH,sNo,hB62,hy67])
 refine zI ?_
 replace hm:=hm.dl [0]
 exact z2x hm (by simp [pH,sNo,hB62])
theorem j1t {p0:Addr} {T:Table} {d1:List Value} {e:Ex} {b:Nat} {s:Scope} (rpT:RTable Φ p0 T) (rpe:REx Φ d1 e) (hm:Mem Φ (.mp b (yM s)::K) w) :
  Calls prog 168 (List.toArray [.pointer (some p0),.agg d1.toArray,.map (some b)]) w (fun ee w'=>ee=.returned (.string (oN T e))∧Mem Φ (.mp b (yM s)::K) w'):=by
 obtain ⟨cs17,m1,m2,m3,m4,d5,d6,d7,d8,hat18,hcl19,hcore20,ma9,mr13,ma10,mr14,ma11,mr15,ma12,mr16⟩:=rpT.ex
 obtain ⟨p23,c24,p29,c30,p35,c36,p41,c42,rfl,h22,h28,h34,h40,hm25,hn26,hm31,hn32,hm37,hn38,hm43,hn44⟩:=RCore.fm hcore20
 obtain ⟨p47,c48,p53,c54,rfl,hi57,h46,h52,hm49,hn50,hm55,hn56⟩:=REx.fm rpe
 refine zL func168 ntmps168 fun Q hQ a he =>?_
 refine Bx fun b59 w hm a he =>?_
 refine yK call185 (fun hB62 w hm a he =>?_) (fun hB62 w hm a he =>?_) (c:=dJ rpe hm)
 refine Reg [1,1,1,2,1,2,2,1] [0,1] fun w hm a he =>?_
 refine go fun a he =>?_
 rcases hf64:yA (d8) e.name with _ | vf65
 have hf64_:=congrArg (zF false (.string ⟨#[]⟩)) hf64
 refine Qq (fun a he =>?_) (o:=by exact fun he hs=>Ok.cast (yD runUnderlying70 runUnderlying9 zeroValue9 he hs rfl rfl ma12) (show zF false (.string ⟨#[]⟩) (yA (d8) e.name)=.string ⟨#[]⟩ from hf64_))
 refine zI ?_
 replace hm:=hm.dl [0]
 exact z2x hm (by have e_:=MapRel.none mr16 hf64;simp [oN,sNo,hB62,e_])
 obtain ⟨y66,hy67,rfl⟩:=mr16.get hf64
 have hf64_:=congrArg (zF false (.string ⟨#[]⟩)) hf64
 refine Qq (fun a he =>?_) (o:=by exact fun he hs=>Ok.cast (yD runUnderlying70 runUnderlying9 zeroValue9 he hs rfl rfl ma12) (show zF false (.string ⟨#[]⟩) (yA (d8) e.name)=.string y66 from hf64_))
 refine zI ?_
 replace hm:=hm.dl [0]
 exact z2x hm (by simp [oN,sNo,hB62,hy67])
 refine zI ?_
 replace hm:=hm.dl [0]
 exact z2x hm (by simp [oN,sNo,hB62])
theorem q3t {p0:Addr} {T:Table} {v1:Value} {xs:List Ex} {b:Nat} {s:Scope} {v3:Value} {ts:List Bs} (rpT:RTable Φ p0 T) (rpxs:SliceOf REx Φ 5 v1 xs) (rpts:SliceOf RStr Φ 1 v3 ts) (ih:∀x:Ex,x∈xs→∀{Φ:Fz} {K:List Res} {w:World} {p:Addr} {d:List Value} {b:Nat} {s:Scope},RTable Φ p T→REx Φ d x→Mem Φ (.mp b (yM s)::K) w→Calls prog 134 (List.toArray [.pointer (some p),.agg d.toArray,.map (some b)]) w (fun ee w'=>ee=.returned (.string (zG T x s).1)∧Mem Φ (.mp b (yM (zG T x s).2)::K) w')) (hm:Mem Φ (.mp b (yM s)::K) w) :
  Calls prog 186 (List.toArray [.pointer (some p0),v1,.map (some b),v3]) w (fun ee w'=>ee=.returned (.bool ((kD T xs s ts).1))∧Mem Φ (.mp b (yM (kD T xs s ts).2)::K) w'):=by
 obtain ⟨cs17,m1,m2,m3,m4,d5,d6,d7,d8,hat18,hcl19,hcore20,ma9,mr13,ma10,mr14,ma11,mr15,ma12,mr16⟩:=rpT.ex
 obtain ⟨p23,c24,p29,c30,p35,c36,p41,c42,rfl,h22,h28,h34,h40,hm25,hn26,hm31,hn32,hm37,hn38,hm43,hn44⟩:=RCore.fm hcore20
 obtain ⟨p1,c1,rfl,hm1,hn1⟩:=rpxs.fm
 obtain ⟨p3,c3,rfl,hm3,hn3⟩:=rpts.fm
 refine zL func186 ntmps186 fun Q hQ a he =>?_
 by_cases h48:xs.length=ts.length
 refine go fun a he =>?_
 refine yF (he.ks [0,2,3,17,18]) hm (fun R mm a w=>∃(i:Nat) (q:Scope),mm=xs.length - i∧R Φ [(19,.int .i64 ((i:Nat):Int))] [(0,.mp b (yM q))] a w∧(kD T xs s ts=allQ T (xs.drop i) q (ts.drop i))) (xs.length - 0) ⟨0,s,rfl,⟨he.pk,hm⟩,by simp [kD, *]⟩ ?_
 clear hm he
 rintro mm a w ⟨i,q,hmu,⟨he,hm⟩,hI52⟩ L51 hL51
 replace hm:=hm.nf
 by_cases h54:i < xs.length
 refine go fun a he =>?_
 obtain ⟨q58,rfl,x59,hx60,cs61,hl62,ha63,hr64⟩:=rpxs.el hn1 h54
 obtain ⟨p67,c68,p73,c74,rfl,hi77,h66,h72,hm69,hn70,hm75,hn76⟩:=REx.fm hr64
 refine Alc fun b78 w hm a he =>?_
 refine Sto 0 fun w hm a he =>?_
 replace hm:=hm.pl 1
 refine zZ call134 (fun w hm a he =>?_) (c:=ih _ (by exact List.mem_of_getElem? hx60) rpT hr64 hm)
 by_cases h81:(zG T x59 q).1=(⟨#[]⟩:ByteArray)
 refine zI ?_
 replace hm:=hm.dl [1]
 have hr_:kD T xs s ts=(false,(zG T x59 q).2):=by
  rw [hI52,zA hx60];simp [allQ,sNo, *]
 show _∧_;rw [hr_];exact ⟨rfl,hm⟩
 refine go fun a he =>?_
 have hb83:i < ts.length:=by omega
 obtain ⟨q84,rfl,x85,hx86,cs87,hl88,ha89,hr90⟩:=rpts.el hn3 hb83
 obtain rfl:cs87=[.string x85]:=hr90
 by_cases h91:(zG T x59 q).1=x85
 refine go fun a he =>?_
 replace hm:=hm.dl [1]
 refine hL51 _ _ _ (by subst hmu;omega) ⟨(i+1),((zG T x59 q).2),rfl,⟨he.pk,hm⟩,?_⟩
 rw [hI52,zA hx60,zA hx86];rw [y3r,if_neg (by rintro (h_ | h_) <;> simp_all [sNo])]
 refine zI ?_
 replace hm:=hm.dl [1]
 have hr_:kD T xs s ts=(false,(zG T x59 q).2):=by
  rw [hI52,zA hx60,zA hx86];simp [allQ,sNo, *]
 show _∧_;rw [hr_];exact ⟨rfl,hm⟩
 refine zI ?_
 have hr_:kD T xs s ts=(true,q):=by
  rw [hI52,zE h54];rfl
 show _∧_;rw [hr_];exact ⟨rfl,hm⟩
 refine zI ?_
 have hr_:kD T xs s ts=(false,s):=by
  simp [kD, *]
 show _∧_;rw [hr_];exact ⟨rfl,hm⟩
end Go.Sw

namespace Go.Sw
open Go.Proofs.Tryz
open Go.Proofs
set_option maxRecDepth 20000
set_option maxHeartbeats 4000000
theorem con_ok {Φ:Fz} {K:List Res} {w:World} {p0:Addr} {T:Table} {d1:List Value} {e:Ex} {b:Nat} {s:Scope} (rpT:RTable Φ p0 T) (rpe:REx Φ d1 e) (ih:∀x:Ex,x.sz < e.sz→∀{Φ:Fz} {K:List Res} {w:World} {p:Addr} {d:List Value} {b:Nat} {s:Scope},RTable Φ p T→REx Φ d x→Mem Φ (.mp b (yM s)::K) w→Calls prog 134 (List.toArray [.pointer (some p),.agg d.toArray,.map (some b)]) w (fun ee w'=>ee=.returned (.string (zG T x s).1)∧Mem Φ (.mp b (yM (zG T x s).2)::K) w')) (hm:Mem Φ (.mp b (yM s)::K) w) :
  Calls prog 169 (List.toArray [.pointer (some p0),.agg d1.toArray,.map (some b)]) w (fun ee w'=>ee=.returned (.string ((sY T e s).1))∧Mem Φ (.mp b (yM (sY T e s).2)::K) w'):=by
 obtain ⟨cs17,m1,m2,m3,m4,d5,d6,d7,d8,hat18,hcl19,hcore20,ma9,mr13,ma10,mr14,ma11,mr15,ma12,mr16⟩:=rpT.ex
 obtain ⟨p23,c24,p29,c30,p35,c36,p41,c42,rfl,h22,h28,h34,h40,hm25,hn26,hm31,hn32,hm37,hn38,hm43,hn44⟩:=RCore.fm hcore20
 obtain ⟨p47,c48,p53,c54,rfl,hi57,h46,h52,hm49,hn50,hm55,hn56⟩:=REx.fm rpe
 refine zL func169 ntmps169 fun Q hQ a he =>?_
 refine Bx fun b59 w hm a he =>?_
 refine Reg [1,1,1,2,1,2,2,1,1,1,0,0,1] [0,1] fun w hm a he =>?_
 refine go fun a he =>?_
 rcases hf61:yA (d6) e.name with _ | vf62
 have hf61_:=congrArg (zF true (.agg (List.toArray [.string ⟨#[]⟩,.string ⟨#[]⟩,.slice none 0 0]))) hf61
 refine Qq (fun a he =>?_) (o:=by exact fun he hs=>Ok.cast (yD runUnderlying114 runUnderlying9 zeroValue201 he hs rfl rfl ma10) (show zF true (.agg (List.toArray [.string ⟨#[]⟩,.string ⟨#[]⟩,.slice none 0 0])) (yA (d6) e.name)=.tuple (List.toArray [.agg (List.toArray [.string ⟨#[]⟩,.string ⟨#[]⟩,.slice none 0 0]),.bool false]) from hf61_))
 refine Alc fun b63 w hm a he =>?_
 refine Sto 0 fun w hm a he =>?_
 refine zI ?_
 replace hm:=hm.dl [1,0]
 have hr_:sY T e s=((⟨#[]⟩:ByteArray),s):=by
  have e_:=MapRel.none mr14 hf61
  simp [sY,sNo, *]
 show _∧_;rw [hr_];exact ⟨rfl,hm⟩
 obtain ⟨y67,hy68,cs69,rfl,hr70⟩:=mr14.get hf61
 obtain ⟨b71,rfl,h72⟩:=id hr70
 obtain ⟨s73,rfl,h74⟩:=id h72
 obtain ⟨p75,c76,rfl,hm77,hn78⟩:=h74.fm
 have hf61_:=congrArg (zF true (.agg (List.toArray [.string ⟨#[]⟩,.string ⟨#[]⟩,.slice none 0 0]))) hf61
 refine Qq (fun a he =>?_) (o:=by exact fun he hs=>Ok.cast (yD runUnderlying114 runUnderlying9 zeroValue201 he hs rfl rfl ma10) (show zF true (.agg (List.toArray [.string ⟨#[]⟩,.string ⟨#[]⟩,.slice none 0 0])) (yA (d6) e.name)=.tuple (List.toArray [.agg (List.toArray [.string y67.data,.string y67.con.name,.slice p75 y67.con.fields.length c76]),.bool true]) from hf61_))
 refine Alc fun b79 w hm a he =>?_
 refine Sto 0 fun w hm a he =>?_
 refine yK call185 (fun hB82 w hm a he =>?_) (fun hB82 w hm a he =>?_) (c:=dJ rpe hm)
 replace hm:=hm.pl 2
 refine yK call186 (fun hB83 w hm a he =>?_) (fun hB83 w hm a he =>?_) (c:=q3t (T:=T) rpT h46 h74 (fun x hx=>ih x (Ex.lt_args hx)) hm)
 refine zI ?_
 replace hm:=hm.dl [2,1]
 have hr_:sY T e s=(y67.data,(kD T e.args s y67.con.fields).2):=by
  simp [sY,sNo, *]
 show _∧_;rw [hr_];exact ⟨rfl,hm⟩
 refine zI ?_
 replace hm:=hm.dl [2,1]
 have hr_:sY T e s=((⟨#[]⟩:ByteArray),(kD T e.args s y67.con.fields).2):=by
  simp [sY,sNo, *]
 show _∧_;rw [hr_];exact ⟨rfl,hm⟩
 refine zI ?_
 replace hm:=hm.dl [1,0]
 have hr_:sY T e s=((⟨#[]⟩:ByteArray),s):=by
  simp [sY,sNo, *]
 show _∧_;rw [hr_];exact ⟨rfl,hm⟩
end Go.Sw

namespace Go.Sw
open Go.Proofs
set_option maxRecDepth 20000
set_option maxHeartbeats 4000000
theorem z5f {Φ:Fz} {K:List Res} {w:World} (hm:Mem Φ K w) :
  Calls Tryz.prog 157 (List.toArray []) w (fun ee w'=>∃y:Fz×List Value,ee=.returned (.agg y.2.toArray)∧(Φ.Le y.1∧RData y.1 y.2 truthsD)∧Mem y.1 K w'):=by
 refine zL Tryz.func157 Tryz.ntmps157 fun Q hQ a he =>?_
 refine Alc fun b2 w hm a he =>?_
 refine yJ fun a he =>?_
 refine yJ fun a he =>?_
 refine qW fun v4 w hm a he =>?_
 have hm0_:=hm
 clear hm
 obtain ⟨Ψ5,le6,hm,hrow7⟩:=hm0_.freezeRow (i:=0) rfl
 clear hm0_
 replace hm:=hm.nf
 have hsl8:SliceOf RCon Ψ5 2 _ (truthsD.cons):=⟨_,hrow7,⟨[_,_],[_,_],rfl,rfl,⟨_,rfl,SliceOf.nil 1⟩,[_,_],[],rfl,rfl,⟨_,rfl,SliceOf.nil 1⟩,rfl⟩⟩
 obtain ⟨p9,c10,hv_,hm11,hn12⟩:=hsl8.form (by decide)
 have hmk_:=hm
 clear hm
 subst hv_
 have hm:=hmk_
 clear hmk_
 refine yJ fun a he =>?_
 refine Sto 0 fun w hm a he =>?_
 refine go fun a he =>?_
 have hmr:=hm
 replace hm:=hm.dl [0]
 refine jU (hm:=hmr) ?_
 exact ⟨(Ψ5,_),rfl,⟨le6,_,rfl,hsl8⟩,hm⟩
end Go.Sw

namespace Go.Sw
open Go.Proofs.Tryz
open Go.Proofs
set_option maxRecDepth 20000
set_option maxHeartbeats 4000000
theorem op_ok {Φ:Fz} {K:List Res} {w:World} {p0:Addr} {T:Table} {d1:List Value} {e:Ex} {b:Nat} {s:Scope} (rpT:RTable Φ p0 T) (rpe:REx Φ d1 e) (ih:∀x:Ex,x.sz < e.sz→∀{Φ:Fz} {K:List Res} {w:World} {p:Addr} {d:List Value} {b:Nat} {s:Scope},RTable Φ p T→REx Φ d x→Mem Φ (.mp b (yM s)::K) w→Calls prog 134 (List.toArray [.pointer (some p),.agg d.toArray,.map (some b)]) w (fun ee w'=>ee=.returned (.string (zG T x s).1)∧Mem Φ (.mp b (yM (zG T x s).2)::K) w')) (hm:Mem Φ (.mp b (yM s)::K) w) :
  Calls prog 173 (List.toArray [.pointer (some p0),.agg d1.toArray,.map (some b)]) w (fun ee w'=>ee=.returned (.string ((nC T e s).1))∧Mem Φ (.mp b (yM (nC T e s).2)::K) w'):=by
 obtain ⟨cs17,m1,m2,m3,m4,d5,d6,d7,d8,hat18,hcl19,hcore20,ma9,mr13,ma10,mr14,ma11,mr15,ma12,mr16⟩:=rpT.ex
 obtain ⟨p23,c24,p29,c30,p35,c36,p41,c42,rfl,h22,h28,h34,h40,hm25,hn26,hm31,hn32,hm37,hn38,hm43,hn44⟩:=RCore.fm hcore20
 obtain ⟨p47,c48,p53,c54,rfl,hi57,h46,h52,hm49,hn50,hm55,hn56⟩:=REx.fm rpe
 refine zL func173 ntmps173 fun Q hQ a he =>?_
 refine Bx fun b59 w hm a he =>?_
 refine yK call185 (fun hB62 w hm a he =>?_) (fun hB62 w hm a he =>?_) (c:=dJ rpe hm)
 refine qW fun v63 w hm a he =>?_
 have hm0_:=hm
 clear hm
 obtain ⟨Ψ64,le65,hm,hrow66⟩:=hm0_.freezeRow (i:=0) rfl
 clear hm0_
 replace hat18:=hat18.mono le65
 replace rpT:=rpT.mono le65
 replace h46:=h46.up le65
 replace rpe:=REx.mono _ _ _ _ le65 rpe
 replace hm:=hm.nf
 have hsl67:SliceOf RStr Ψ64 1 _ ([qC,qC]):=SliceOf.strs.2 hrow66
 obtain ⟨p68,c69,hv_,hm70,hn71⟩:=hsl67.form (by decide)
 have hmk_:=hm
 clear hm
 subst hv_
 have hm:=hmk_
 clear hmk_
 replace hm:=hm.pl 1
 refine yK call186 (fun hB72 w hm a he =>?_) (fun hB72 w hm a he =>?_) (c:=q3t (T:=T) rpT h46 hsl67 (fun x hx=>ih x (Ex.lt_args hx)) hm)
 by_cases h77:e.name=(⟨#[43]⟩:ByteArray)
 refine zI ?_
 replace hm:=hm.le (le65)
 replace hm:=hm.dl [1]
 have hr_:nC T e s=((⟨#[73,110,116]⟩:ByteArray),(kD T e.args s ([qC,qC])).2):=by simp [nC,opT,sNo,dE,truthsD, *] <;> rfl
 show _∧_;rw [hr_];exact ⟨rfl,hm⟩
 by_cases h80:e.name=(⟨#[45]⟩:ByteArray)
 refine zI ?_
 replace hm:=hm.le (le65)
 replace hm:=hm.dl [1]
 have hr_:nC T e s=((⟨#[73,110,116]⟩:ByteArray),(kD T e.args s ([qC,qC])).2):=by simp [nC,opT,sNo,dE,truthsD, *] <;> rfl
 show _∧_;rw [hr_];exact ⟨rfl,hm⟩
 by_cases h83:e.name=(⟨#[42]⟩:ByteArray)
 refine zI ?_
 replace hm:=hm.le (le65)
 replace hm:=hm.dl [1]
 have hr_:nC T e s=((⟨#[73,110,116]⟩:ByteArray),(kD T e.args s ([qC,qC])).2):=by simp [nC,opT,sNo,dE,truthsD, *] <;> rfl
 show _∧_;rw [hr_];exact ⟨rfl,hm⟩
 refine go fun a he =>?_
 by_cases h86:e.name=(⟨#[47]⟩:ByteArray)
 refine zI ?_
 replace hm:=hm.le (le65)
 replace hm:=hm.dl [1]
 have hr_:nC T e s=((⟨#[73,110,116]⟩:ByteArray),(kD T e.args s ([qC,qC])).2):=by simp [nC,opT,sNo,dE,truthsD, *] <;> rfl
 show _∧_;rw [hr_];exact ⟨rfl,hm⟩
 by_cases h88:e.name=(⟨#[37]⟩:ByteArray)
 refine zI ?_
 replace hm:=hm.le (le65)
 replace hm:=hm.dl [1]
 have hr_:nC T e s=((⟨#[73,110,116]⟩:ByteArray),(kD T e.args s ([qC,qC])).2):=by simp [nC,opT,sNo,dE,truthsD, *] <;> rfl
 show _∧_;rw [hr_];exact ⟨rfl,hm⟩
 by_cases h92:e.name=(⟨#[60]⟩:ByteArray)
 refine jF call157 (fun y94 w hG95 hm a he =>?_) (c:=z5f hm)
 obtain ⟨Ψ96,d97⟩:=y94
 obtain ⟨le98,hr99⟩:=hG95
 simp only at le98 hr99 hm he
 replace hat18:=hat18.mono le98
 replace rpe:=REx.mono _ _ _ _ le98 rpe
 replace hm:=hm.nf
 obtain ⟨s100,rfl,h101⟩:=id hr99
 obtain ⟨p102,c103,rfl,hm104,hn105⟩:=h101.fm
 refine Qq (fun a he =>?_) (o:=by exact fun he hs=>q9x runUnderlying126 rfl isAgg9 he rfl rfl)
 refine zI ?_
 replace hm:=hm.le ((le65).trans le98)
 replace hm:=hm.dl [1]
 have hr_:nC T e s=(truthsD.name,(kD T e.args s ([qC,qC])).2):=by simp [nC,opT,sNo,dE,truthsD, *] <;> rfl
 show _∧_;rw [hr_];exact ⟨rfl,hm⟩
 by_cases h106:e.name=(⟨#[61]⟩:ByteArray)
 refine jF call157 (fun y108 w hG109 hm a he =>?_) (c:=z5f hm)
 obtain ⟨Ψ110,d111⟩:=y108
 obtain ⟨le112,hr113⟩:=hG109
 simp only at le112 hr113 hm he
 replace hat18:=hat18.mono le112
 replace rpe:=REx.mono _ _ _ _ le112 rpe
 replace hm:=hm.nf
 obtain ⟨s114,rfl,h115⟩:=id hr113
 obtain ⟨p116,c117,rfl,hm118,hn119⟩:=h115.fm
 refine Qq (fun a he =>?_) (o:=by exact fun he hs=>q9x runUnderlying126 rfl isAgg9 he rfl rfl)
 refine zI ?_
 replace hm:=hm.le ((le65).trans le112)
 replace hm:=hm.dl [1]
 have hr_:nC T e s=(truthsD.name,(kD T e.args s ([qC,qC])).2):=by simp [nC,opT,sNo,dE,truthsD, *] <;> rfl
 show _∧_;rw [hr_];exact ⟨rfl,hm⟩
 refine zI ?_
 replace hm:=hm.le (le65)
 replace hm:=hm.dl [1]
 have hr_:nC T e s=((⟨#[]⟩:ByteArray),(kD T e.args s ([qC,qC])).2):=by simp [nC,opT,sNo,dE,truthsD, *] <;> rfl
 show _∧_;rw [hr_];exact ⟨rfl,hm⟩
 refine zI ?_
 replace hm:=hm.le (le65)
 replace hm:=hm.dl [1]
 have hr_:nC T e s=((⟨#[]⟩:ByteArray),(kD T e.args s ([qC,qC])).2):=by simp [nC,opT,sNo,dE,truthsD, *] <;> rfl
 show _∧_;rw [hr_];exact ⟨rfl,hm⟩
 refine zI ?_
 replace hm:=hm.dl [0]
 have hr_:nC T e s=((⟨#[]⟩:ByteArray),s):=by simp [nC,opT,sNo,dE,truthsD, *] <;> rfl
 show _∧_;rw [hr_];exact ⟨rfl,hm⟩
end Go.Sw

namespace Go.Sw
open Go.Proofs.Tryz
open Go.Proofs
set_option maxRecDepth 20000
set_option maxHeartbeats 4000000
theorem call_ok {Φ:Fz} {K:List Res} {w:World} {p0:Addr} {T:Table} {d1:List Value} {e:Ex} {b:Nat} {s:Scope} (rpT:RTable Φ p0 T) (rpe:REx Φ d1 e) (hT:∀n f,zH T.funs n=some f→f.params.length≤1000) (ih:∀x:Ex,x.sz < e.sz→∀{Φ:Fz} {K:List Res} {w:World} {p:Addr} {d:List Value} {b:Nat} {s:Scope},RTable Φ p T→REx Φ d x→Mem Φ (.mp b (yM s)::K) w→Calls prog 134 (List.toArray [.pointer (some p),.agg d.toArray,.map (some b)]) w (fun ee w'=>ee=.returned (.string (zG T x s).1)∧Mem Φ (.mp b (yM (zG T x s).2)::K) w')) (hm:Mem Φ (.mp b (yM s)::K) w) :
  Calls prog 170 (List.toArray [.pointer (some p0),.agg d1.toArray,.map (some b)]) w (fun ee w'=>ee=.returned (.string ((aA T e s).1))∧Mem Φ (.mp b (yM (aA T e s).2)::K) w'):=by
 obtain ⟨cs17,m1,m2,m3,m4,d5,d6,d7,d8,hat18,hcl19,hcore20,ma9,mr13,ma10,mr14,ma11,mr15,ma12,mr16⟩:=rpT.ex
 obtain ⟨p23,c24,p29,c30,p35,c36,p41,c42,rfl,h22,h28,h34,h40,hm25,hn26,hm31,hn32,hm37,hn38,hm43,hn44⟩:=RCore.fm hcore20
 obtain ⟨p47,c48,p53,c54,rfl,hi57,h46,h52,hm49,hn50,hm55,hn56⟩:=REx.fm rpe
 refine zL func170 ntmps170 fun Q hQ a he =>?_
 refine Bx fun b59 w hm a he =>?_
 refine Reg [1,1,1,2,1,2,2,1,1,1,0,0,1] [0,1] fun w hm a he =>?_
 refine go fun a he =>?_
 rcases hf61:yA (d7) e.name with _ | vf62
 have hf61_:=congrArg (zF true (.agg (List.toArray [.string ⟨#[]⟩,.slice none 0 0,.string ⟨#[]⟩,.int .i64 ((0:Nat):Int),.int .i64 ((0:Nat):Int),.string ⟨#[]⟩,.slice none 0 0,.slice none 0 0]))) hf61
 refine Qq (fun a he =>?_) (o:=by exact fun he hs=>Ok.cast (yD runUnderlying115 runUnderlying9 zeroValue112 he hs rfl rfl ma11) (show zF true (.agg (List.toArray [.string ⟨#[]⟩,.slice none 0 0,.string ⟨#[]⟩,.int .i64 ((0:Nat):Int),.int .i64 ((0:Nat):Int),.string ⟨#[]⟩,.slice none 0 0,.slice none 0 0])) (yA (d7) e.name)=.tuple (List.toArray [.agg (List.toArray [.string ⟨#[]⟩,.slice none 0 0,.string ⟨#[]⟩,.int .i64 ((0:Nat):Int),.int .i64 ((0:Nat):Int),.string ⟨#[]⟩,.slice none 0 0,.slice none 0 0]),.bool false]) from hf61_))
 refine Alc fun b63 w hm a he =>?_
 refine Sto 0 fun w hm a he =>?_
 refine zI ?_
 replace hm:=hm.dl [1,0]
 have hr_:aA T e s=((⟨#[]⟩:ByteArray),s):=by
  have e_:=MapRel.none mr15 hf61
  simp [aA,sNo, *]
 show _∧_;rw [hr_];exact ⟨rfl,hm⟩
 obtain ⟨y67,hy68,cs69,rfl,hr70⟩:=mr15.get hf61
 obtain ⟨s71,b77,rfl,h72,h78⟩:=id hr70
 obtain ⟨p73,c74,rfl,hm75,hn76⟩:=h72.fm
 obtain ⟨p81,c82,p87,c88,rfl,hi91,h80,h86,hm83,hn84,hm89,hn90⟩:=REx.fm h78
 have hf61_:=congrArg (zF true (.agg (List.toArray [.string ⟨#[]⟩,.slice none 0 0,.string ⟨#[]⟩,.int .i64 ((0:Nat):Int),.int .i64 ((0:Nat):Int),.string ⟨#[]⟩,.slice none 0 0,.slice none 0 0]))) hf61
 refine Qq (fun a he =>?_) (o:=by exact fun he hs=>Ok.cast (yD runUnderlying115 runUnderlying9 zeroValue112 he hs rfl rfl ma11) (show zF true (.agg (List.toArray [.string ⟨#[]⟩,.slice none 0 0,.string ⟨#[]⟩,.int .i64 ((0:Nat):Int),.int .i64 ((0:Nat):Int),.string ⟨#[]⟩,.slice none 0 0,.slice none 0 0])) (yA (d7) e.name)=.tuple (List.toArray [.agg (List.toArray [.string y67.name,.slice p73 y67.params.length c74,.string y67.result,.int .i64 (y67.body.kind),.int .i64 (y67.body.num),.string y67.body.name,.slice p81 y67.body.args.length c82,.slice p87 y67.body.arms.length c88]),.bool true]) from hf61_))
 refine Alc fun b92 w hm a he =>?_
 refine Sto 0 fun w hm a he =>?_
 refine yK call185 (fun hB95 w hm a he =>?_) (fun hB95 w hm a he =>?_) (c:=dJ rpe hm)
 refine go fun a he =>?_
 replace hm:=hm.nilRow 9 1
 replace hm:=hm.nf
 refine go fun a he =>?_
 refine yF (he.ks [0,2,4,7,30,31]) hm (fun R mm a w=>∃(i:Nat) (u:Value) (ty:List Bs),mm=y67.params.length - i∧R Φ [(9,u),(32,.int .i64 ((i:Nat):Int))] [(0,.gs (u) 9 1 (strs ty))] a w∧(y67.params.map Param.type=ty++(y67.params.drop i).map Param.type)) (y67.params.length - 0) ⟨0,.slice none 0 0,[],rfl,⟨he.pk,hm⟩,by simp⟩ ?_
 clear hm he
 rintro mm a w ⟨i,u,ty,hmu,⟨he,hm⟩,hI100⟩ L99 hL99
 replace hm:=hm.nf
 by_cases h102:i < y67.params.length
 refine go fun a he =>?_
 obtain ⟨q106,rfl,x107,hx108,cs109,hl110,ha111,hr112⟩:=h72.el hn76 h102
 obtain rfl:=id hr112
 refine Alc fun b113 w hm a he =>?_
 refine Sto 0 fun w hm a he =>?_
 refine qW fun v114 w hm a he =>?_
 refine qL 2 pS (fun v115 w hm a he =>?_) (hb:=by have hq_:=congrArg List.length hI100;have hp_:=hT _ _ hy68;simp only [List.length_map,List.length_append,yH,List.length_cons,List.length_nil] at hq_ ⊢;omega)
 first | rw [qY] at hm | rw [← qU] at hm
 refine go fun a he =>?_
 replace hm:=hm.dl [1,0]
 refine hL99 _ _ _ (by subst hmu;omega) ⟨(i+1),(v115),((ty++[x107.type])),rfl,⟨he.pk,hm⟩,?_⟩
 rw [hI100,zA hx108];simp
 refine go fun a he =>?_
 have htyp:ty=y67.params.map Param.type:=by rw [hI100,zE h102];simp
 subst htyp
 refine go fun a he =>?_
 have hm0_:=hm
 clear hm
 obtain ⟨Ψ119,le120,hm,hrow121⟩:=hm0_.freezeRow (i:=0) rfl
 clear hm0_
 replace hat18:=hat18.mono le120
 replace rpT:=rpT.mono le120
 replace h46:=h46.up le120
 replace rpe:=REx.mono _ _ _ _ le120 rpe
 replace hr70:=RFun.mono _ _ _ _ le120 hr70
 replace h78:=REx.mono _ _ _ _ le120 h78
 replace hm:=hm.nf
 have hsl122:SliceOf RStr Ψ119 1 _ ((y67.params.map Param.type)):=SliceOf.strs.2 hrow121
 obtain ⟨p123,c124,hv_,hm125,hn126⟩:=hsl122.form (by decide)
 have hmk_:=hm
 clear hm
 subst hv_
 have hm:=hmk_
 clear hmk_
 replace hm:=hm.pl 2
 refine yK call186 (fun hB127 w hm a he =>?_) (fun hB127 w hm a he =>?_) (c:=q3t (T:=T) rpT h46 hsl122 (fun x hx=>ih x (Ex.lt_args hx)) hm)
 refine zI ?_
 replace hm:=hm.le (le120)
 replace hm:=hm.dl [2,1]
 have hr_:aA T e s=(y67.result,(kD T e.args s (y67.params.map Param.type)).2):=by
  clear hI100
  simp [aA,sNo, *]
 show _∧_;rw [hr_];exact ⟨rfl,hm⟩
 refine zI ?_
 replace hm:=hm.le (le120)
 replace hm:=hm.dl [2,1]
 have hr_:aA T e s=((⟨#[]⟩:ByteArray),(kD T e.args s (y67.params.map Param.type)).2):=by
  clear hI100
  simp [aA,sNo, *]
 show _∧_;rw [hr_];exact ⟨rfl,hm⟩
 refine zI ?_
 replace hm:=hm.dl [1,0]
 have hr_:aA T e s=((⟨#[]⟩:ByteArray),s):=by
  simp [aA,sNo, *]
 show _∧_;rw [hr_];exact ⟨rfl,hm⟩
end Go.Sw
