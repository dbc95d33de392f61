import Derived.Test.YtgkhcfjooiekkaaGreatDoorProg
import Derived.Laws.IdiomRangeMap
import Derived.Test.YtgkhcfjooiekkaaGreatDoorX03
import Derived.Test.YtgkhcfjooiekkaaGreatDoorX04
import Derived.Test.YtgkhcfjooiekkaaGreatDoorX07
import Derived.Test.YtgkhcfjooiekkaaGreatDoorX09
set_option linter.unusedVariables false
set_option linter.unusedSimpArgs false
namespace Go.Sw
open Go.Proofs.Tryz
open Go.Proofs
set_option maxRecDepth 20000
set_option maxHeartbeats 4000000
theorem run1_ok {Φ:Fz} {K:List Res} {w:World} {p:Addr} {T:Table} {d0:List Value} {c:Core} {mg:Value} {inp:List (Bs×Val)} {fuel b0 b1 b2 b3 b4 b5 b6:Nat} (rpc:RCore Φ d0 c) (rpT:RTable Φ p T) (rG:RGiven Φ mg inp) (hF:FunsOk T) (hlen:c.outputs.length≤1000) (hfu:fuel≤1000000)
  (hns:z4o ⟨T.funs,inp⟩ c.outputs fuel≠.stuck) (hm:Mem Φ (.blk b0 (ob d0 27)::.blk b1 (ob [.pointer (some p)] 89)::.blk b2 (ob [mg] 94)::.blk b3 (ob [.int .i64 ((fuel:Nat):Int)] 3)::.blk b4 (ob [.slice none 0 0] 93)::.blk b5 (ob [.slice none 0 0] 38)::.blk b6 (ob [.slice none 0 0,.int .i64 ((0:Nat):Int)] 30)::K) w) :
  Calls Tryz.prog 46 (List.toArray [.pointer (some ⟨b0,0,none⟩),.pointer (some ⟨b1,0,none⟩),.pointer (some ⟨b2,0,none⟩),.pointer (some ⟨b3,0,none⟩),.pointer (some ⟨b4,0,none⟩),.pointer (some ⟨b5,0,none⟩),.pointer (some ⟨b6,0,none⟩)]) w (fun e w'=>Out (endP (z4o ⟨T.funs,inp⟩ c.outputs fuel))
   (fun x=>∃y:Fz×Value×List Int×Value,e=.returned (.int .i64 ((0:Nat):Int))∧(Φ.Le y.1∧totalP y.2.2.1=((fuel - x.2:Nat):Int)∧y.2.2.1.length≤1000∧SliceOf RNamed y.1 4 y.2.2.2 (z7d c.outputs x.1)∧NewRow Φ y.2.2.2)∧Mem y.1 (.blk b4 (ob [y.2.1] 93)::.gs y.2.1 3 1 (ints y.2.2.1)::.blk b6 (ob [y.2.2.2,.int .i64 ((0:Nat):Int)] 30)::K) w')
   (fun c=>(e=.returned (.int .i64 ((c:Nat):Int))∨c=4∧e=.panicked (spentC ()))∧Mem Φ K w')):=by
 obtain ⟨p3,c4,p9,c10,p15,c16,p21,c22,rfl,h2,h8,h14,h20,hm5,hn6,hm11,hn12,hm17,hn18,hm23,hn24⟩:=RCore.fm rpc
 obtain ⟨cs41,m25,m26,m27,m28,d29,d30,d31,d32,hat42,hcl43,hcore44,ma33,mr37,ma34,mr38,ma35,mr39,ma36,mr40⟩:=rpT.ex
 obtain ⟨p47,c48,p53,c54,p59,c60,p65,c66,rfl,h46,h52,h58,h64,hm49,hn50,hm55,hn56,hm61,hn62,hm67,hn68⟩:=RCore.fm hcore44
 have hrow0_:=hm
 clear hrow0_
 refine z0m func46 ntmps46 fun Q hQ a he =>?_
 refine go he hm fun a he =>?_
 replace hm:=hm.nilRow 3 1
 replace hm:=hm.nf
 replace hm:=hm.nilRow 42 3
 replace hm:=hm.nf
 refine go he hm fun a he =>?_
 refine z1l (he.ks [0,1,2,3,4,5,6,16,17]) hm (fun R mm a w=>∃(Ψ72:Fz) (i:Nat) (u:Value) (cl:List Int) (uv:Value) (cs:List Value) (xs:List Val) (g1:Nat),mm=c.outputs.length - i∧R Ψ72 [(18,.int .i64 ((i:Nat):Int))] [(0,.gs (uv) 42 3 cs),(1,.gs (u) 3 1 (ints cl)),(6,.blk b4 (ob [u] 93)),(7,.blk b5 (ob [uv] 38))] a w∧(Φ.Le Ψ72∧(Chunks (RVal Ψ72) 3 cs xs∧xs.length=i∧i≤c.outputs.length∧g1≤fuel∧cl.length=i∧totalP cl=((fuel - g1:Nat):Int)∧z4o ⟨T.funs,inp⟩ c.outputs fuel=(z4o ⟨T.funs,inp⟩ (c.outputs.drop i) g1).bind fun vs g2=>.ok (xs++vs) g2))) (c.outputs.length - 0) ⟨Φ,0,.slice none 0 0,[],.slice none 0 0,[],[],fuel,rfl,⟨he.pk,hm⟩,⟨Fz.Le.refl _,⟨rfl,rfl,Nat.zero_le _,Nat.le_refl _,rfl,by simp [totalP],each_id _⟩⟩⟩ ?_
 clear hm he
 rintro mm a w ⟨Ψ72,i,u,cl,uv,cs,xs,g1,hmu,⟨he,hm⟩,hI75⟩ L74 hL74
 replace hm:=hm.nf
 obtain ⟨le73,hI75⟩:=hI75
 replace h20:=h20.up le73
 replace rpc:=RCore.mono _ _ _ _ le73 rpc
 replace rpT:=rpT.mono le73
 replace rG:=RGiven.mono le73 rG
 replace hat42:=hat42.mono le73
 replace ma35:=ma35.mono le73
 replace mr39:=mr39.up le73
 obtain ⟨hch,hxl,hil,hg1,hcl,htot,hI_⟩:=hI75
 refine go he hm fun a he =>?_
 by_cases h77:i < c.outputs.length
 refine go he hm fun a he =>?_
 obtain ⟨q81,rfl,x82,hx83,cs84,hl85,ha86,hr87⟩:=h20.el hn24 h77
 obtain rfl:cs84=[.string x82]:=hr87
 refine Alc he hm fun b89 w hm a he =>?_
 refine Sto 0 he hm fun w hm a he =>?_
 refine go he hm fun a he =>?_
 refine z2a [2,2,2,2,0,1,1,0,0] (.q 0 (.q 1 (.q 2 (.q 3 (.e2 4 7 (.q 5 (.q 6 (.e 7 (.e 8 (.done))))) (.e 4 (.q 5 (.q 6 (.e 8 (.done)))))))))) [0,1,3,4,5,6,7,8,9] he hm fun w hm =>?_
 refine go he hm fun a he =>?_
 refine d_e2 ?_ ?_
 replace hm:=hm.pl 2
 refine z0x call47 he hm (fun w hm a he =>?_) (c:=total_ok (l:=cl) (by omega) hm)
 refine Qq he hm (fun a he =>?_) (o:=by exact fun _ _ _ he hs=>z9m ((g1:Nat):Int) he rfl rfl (by rw [htot,z1m (by omega)];omega))
 refine Qq he hm (fun a he =>?_) (o:=by exact fun _ _ _ he hs=>y_build (vs:=[(0,.pointer (some p)),(1,mg),(2,.pointer (some ⟨b89,0,none⟩)),(3,.int .i64 ((g1:Nat):Int))]) (cs:=[.pointer (some p),mg,.pointer (some ⟨b89,0,none⟩),.int .i64 ((g1:Nat):Int)]) he rfl (by rcases rG with ⟨_,_,h_,_⟩ | ⟨h_,_⟩ <;> rw [h_] <;> kernel_rfl))
 refine Alc he hm fun b91 w hm a he =>?_
 refine d_e0 he rfl rfl (z2e 0 (cs:=[.pointer none,.map none,.pointer none,.int .i64 ((0:Nat):Int)]) (vs:=[.pointer (some p),mg,.pointer (some ⟨b89,0,none⟩),.int .i64 ((g1:Nat):Int)]) he hm rfl rfl rfl rfl sizeOf99 rfl (by simp only [List.all_cons,RGiven.one rG];rfl) rfl fun w hm=>⟨z9w (by kernel_rfl),fun a he =>?_⟩)
 replace hm:=hm.nf
 refine go he hm fun a he =>?_
 refine z2a [2,2,1,1,2,1,2,0,0,0] (.q 0 (.q 1 (.q 2 (.q 3 (.q 4 (.q 5 (.q 6 (.e2 7 8 (.e 8 (.e 9 (.done))) (.e 7 (.e 9 (.done))))))))))) [0,1,3,4,5,6,7,8,9,10] he hm fun w hm =>?_
 replace hm:Mem Ψ72 (.blk b91 (ob [.pointer (some p),mg,.pointer (some ⟨b89,0,none⟩),.int .i64 ((g1:Nat):Int)] 99)::.gs (u) 3 1 (ints cl)::.blk b89 (ob [.int .i64 ((g1 - g1:Nat):Int)] 3)::.gs (uv) 42 3 cs::.blk b0 (ob [.slice p3 c.datas.length c4,.slice p9 c.inputs.length c10,.slice p15 c.funs.length c16,.slice (some q81) c.outputs.length c22] 27)::.blk b1 (ob [.pointer (some p)] 89)::.blk b2 (ob [mg] 94)::.blk b3 (ob [.int .i64 ((fuel:Nat):Int)] 3)::.blk b4 (ob [u] 93)::.blk b5 (ob [uv] 38)::.blk b6 (ob [.slice none 0 0,.int .i64 ((0:Nat):Int)] 30)::K) w:=by rw [Nat.sub_self];exact hm
 refine go he hm fun a he =>?_
 rcases hf93:mget (d31) x82 with _ | vf94
 exact absurd (by rw [hI_,z0a hx83,outs_nofun (MapRel.none mr39 hf93)];rfl) hns
 obtain ⟨y95,hy96,cs97,rfl,hr98⟩:=mr39.get hf93
 obtain ⟨s99,b105,rfl,h100,h106⟩:=id hr98
 obtain ⟨p101,c102,rfl,hm103,hn104⟩:=h100.fm
 obtain ⟨p109,c110,p115,c116,rfl,hi119,h108,h114,hm111,hn112,hm117,hn118⟩:=REx.fm h106
 have hf93_:=congrArg (z0h false (.agg (List.toArray [.string ⟨#[]⟩,.slice none 0 0,.string ⟨#[]⟩,.int .i64 ((0:Nat):Int),.int .i64 ((0:Nat):Int),.string ⟨#[]⟩,.slice none 0 0,.slice none 0 0]))) hf93
 refine Qq he hm (fun a he =>?_) (o:=by exact fun _ _ _ he hs=>Ok.cast (z0p runUnderlying103 runUnderlying9 zeroValue68 he hs rfl rfl ma35) (show z0h false (.agg (List.toArray [.string ⟨#[]⟩,.slice none 0 0,.string ⟨#[]⟩,.int .i64 ((0:Nat):Int),.int .i64 ((0:Nat):Int),.string ⟨#[]⟩,.slice none 0 0,.slice none 0 0])) (mget (d31) x82)=.agg (List.toArray [.string y95.name,.slice p101 y95.params.length c102,.string y95.result,.int .i64 (y95.body.kind),.int .i64 (y95.body.num),.string y95.body.name,.slice p109 y95.body.args.length c110,.slice p115 y95.body.arms.length c116]) from hf93_))
 refine d_e2 ?_ ?_
 have hnx120:=hns
 rw [hI_,z0a hx83,z8r hy96] at hnx120
 replace hnx120:=z3a (r:=z5j (z2j ⟨T.funs,inp⟩) y95 [] g1) (z3a hnx120)
 replace hm:=hm.pl 2
 refine z4y hQ call48 he hm (fun q121 y122 w hq123 hG124 hm a he =>?_) (fun q121 w hq123 hm =>?_) (c:=call_all hF g1 rpT rG hr98 (SliceOf.nil 3) (hF _ _ hy96).1 (hF _ _ hy96).2 (Nat.le_refl _) (by omega) hnx120 hm)
 obtain ⟨z125,g126⟩:=q121
 obtain ⟨Ψ127,d128⟩:=y122
 obtain ⟨le129,hr130⟩:=hG124
 have hv131:=z6h hq123
 simp only at le129 hr130 hm he hv131
 have hlt132:=y0d hv131
 replace h20:=h20.up le129
 replace rpc:=RCore.mono _ _ _ _ le129 rpc
 replace rpT:=rpT.mono le129
 replace rG:=RGiven.mono le129 rG
 replace hat42:=hat42.mono le129
 replace ma35:=ma35.mono le129
 replace mr39:=mr39.up le129
 replace hch:=hch.mono fun _ _ h=>RVal.mono _ _ _ _ le129 h
 replace ha86:=ha86.mono le129
 replace hr98:=RFun.mono _ _ _ _ le129 hr98
 replace h106:=REx.mono _ _ _ _ le129 h106
 replace hm:=hm.nf
 obtain ⟨p135,c136,rfl,hi139,h134,hm137,hn138⟩:=RVal.fm hr130
 refine Alc he hm fun b140 w hm a he =>?_
 refine Sto 0 he hm fun w hm a he =>?_
 refine go he hm fun a he =>?_
 refine z2a [2,2,0,0,2,0,0,0,0,0] (.q 0 (.q 1 (.q 4 (.e2 2 5 (.e2 3 5 (.e 5 (.e 6 (.e 7 (.e 8 (.e 9 (.done)))))) (.e2 3 6 (.e 6 (.e 7 (.e 8 (.e 9 (.done))))) (.e 3 (.e 7 (.e 8 (.e 9 (.done))))))) (.e2 2 6 (.e2 3 6 (.e 6 (.e 7 (.e 8 (.e 9 (.done))))) (.e 3 (.e 7 (.e 8 (.e 9 (.done)))))) (.e 2 (.e 3 (.e 7 (.e 8 (.e 9 (.done))))))))))) [0,1,2,5,6,7,8,9,10,11] he hm fun w hm =>?_
 refine go he hm fun a he =>?_
 refine d_e2 ?_ ?_
 refine BldS he hm fun v141 w hm a he =>?_
 refine d_e2 ?_ ?_
 refine App_ 4 z7z he hm (fun v142 w hm a he =>?_)
 rw [← z1s] at hm
 refine d_e he rfl rfl rfl (z6y (z2b 1 (vs:=[.string z125.con,.int .i64 (z125.num),.slice p135 z125.args.length c136]) he hm.toSees rfl rfl isAgg42 sizeOf42 rfl rfl) ⟨fun _=>hm.sn (Fz.Le.refl _),fun a he =>?_⟩)
 refine BldS he hm fun v143 w hm a he =>?_
 refine App_ 6 z7f he hm (fun v144 w hm a he =>?_)
 refine Sto 11 he hm fun w hm a he =>?_
 refine Sto 12 he hm fun w hm a he =>?_
 refine go he hm fun a he =>?_
 replace hm:=hm.ar [4,3,2,1,0] [8,8,8,8,8,8,8,7,8]
 refine hL74 _ _ _ (by subst hmu;omega) ⟨(Ψ127),(i+1),(v142),((cl++[((g1 - g126:Nat):Int)])),(v144),((cs++[.string z125.con,.int .i64 (z125.num),.slice p135 z125.args.length c136])),(xs++[z125]),(g126),rfl,⟨he.pk,by exact hm⟩,?_⟩
 refine ⟨(le73).trans le129,?_⟩
 refine ⟨hch.snoc rfl hr130,by simp [hxl],by omega,by omega,by simp [hcl],?_,?_⟩
 rw [z0y,htot,z1m (by omega)];omega
 rw [hI_,z0a hx83]
 exact z0s hy96 hv131
 refine d_e he rfl rfl rfl (z6y (z2b 1 (vs:=[.string z125.con,.int .i64 (z125.num),.slice p135 z125.args.length c136]) he hm.toSees rfl rfl isAgg42 sizeOf42 rfl rfl) ⟨fun _=>hm.sn (Fz.Le.refl _),fun a he =>?_⟩)
 refine d_e2 ?_ ?_
 refine App_ 4 z7z he hm (fun v145 w hm a he =>?_)
 rw [← z1s] at hm
 refine BldS he hm fun v146 w hm a he =>?_
 refine App_ 6 z7f he hm (fun v147 w hm a he =>?_)
 refine Sto 11 he hm fun w hm a he =>?_
 refine Sto 12 he hm fun w hm a he =>?_
 refine go he hm fun a he =>?_
 replace hm:=hm.ar [4,3,2,1,0] [8,8,8,8,8,8,8,7,8]
 refine hL74 _ _ _ (by subst hmu;omega) ⟨(Ψ127),(i+1),(v145),((cl++[((g1 - g126:Nat):Int)])),(v147),((cs++[.string z125.con,.int .i64 (z125.num),.slice p135 z125.args.length c136])),(xs++[z125]),(g126),rfl,⟨he.pk,by exact hm⟩,?_⟩
 refine ⟨(le73).trans le129,?_⟩
 refine ⟨hch.snoc rfl hr130,by simp [hxl],by omega,by omega,by simp [hcl],?_,?_⟩
 rw [z0y,htot,z1m (by omega)];omega
 rw [hI_,z0a hx83]
 exact z0s hy96 hv131
 refine BldS he hm fun v148 w hm a he =>?_
 refine App_ 5 z7z he hm (fun v149 w hm a he =>?_)
 rw [← z1s] at hm
 refine App_ 6 z7f he hm (fun v150 w hm a he =>?_)
 refine Sto 11 he hm fun w hm a he =>?_
 refine Sto 12 he hm fun w hm a he =>?_
 refine go he hm fun a he =>?_
 replace hm:=hm.ar [4,3,2,1,0] [8,8,8,8,8,8,8,7,8]
 refine hL74 _ _ _ (by subst hmu;omega) ⟨(Ψ127),(i+1),(v149),((cl++[((g1 - g126:Nat):Int)])),(v150),((cs++[.string z125.con,.int .i64 (z125.num),.slice p135 z125.args.length c136])),(xs++[z125]),(g126),rfl,⟨he.pk,by exact hm⟩,?_⟩
 refine ⟨(le73).trans le129,?_⟩
 refine ⟨hch.snoc rfl hr130,by simp [hxl],by omega,by omega,by simp [hcl],?_,?_⟩
 rw [z0y,htot,z1m (by omega)];omega
 rw [hI_,z0a hx83]
 exact z0s hy96 hv131
 refine d_e he rfl rfl rfl (z6y (z2b 0 (vs:=[.string z125.con,.int .i64 (z125.num),.slice p135 z125.args.length c136]) he hm.toSees rfl rfl isAgg42 sizeOf42 rfl rfl) ⟨fun _=>hm.sn (Fz.Le.refl _),fun a he =>?_⟩)
 refine d_e2 ?_ ?_
 refine BldS he hm fun v151 w hm a he =>?_
 refine d_e2 ?_ ?_
 refine App_ 4 z7z he hm (fun v152 w hm a he =>?_)
 rw [← z1s] at hm
 refine BldS he hm fun v153 w hm a he =>?_
 refine App_ 6 z7f he hm (fun v154 w hm a he =>?_)
 refine Sto 11 he hm fun w hm a he =>?_
 refine Sto 12 he hm fun w hm a he =>?_
 refine go he hm fun a he =>?_
 replace hm:=hm.ar [4,3,2,1,0] [8,8,8,8,8,8,8,7,8]
 refine hL74 _ _ _ (by subst hmu;omega) ⟨(Ψ127),(i+1),(v152),((cl++[((g1 - g126:Nat):Int)])),(v154),((cs++[.string z125.con,.int .i64 (z125.num),.slice p135 z125.args.length c136])),(xs++[z125]),(g126),rfl,⟨he.pk,by exact hm⟩,?_⟩
 refine ⟨(le73).trans le129,?_⟩
 refine ⟨hch.snoc rfl hr130,by simp [hxl],by omega,by omega,by simp [hcl],?_,?_⟩
 rw [z0y,htot,z1m (by omega)];omega
 rw [hI_,z0a hx83]
 exact z0s hy96 hv131
 refine BldS he hm fun v155 w hm a he =>?_
 refine App_ 5 z7z he hm (fun v156 w hm a he =>?_)
 rw [← z1s] at hm
 refine App_ 6 z7f he hm (fun v157 w hm a he =>?_)
 refine Sto 11 he hm fun w hm a he =>?_
 refine Sto 12 he hm fun w hm a he =>?_
 refine go he hm fun a he =>?_
 replace hm:=hm.ar [4,3,2,1,0] [8,8,8,8,8,8,8,7,8]
 refine hL74 _ _ _ (by subst hmu;omega) ⟨(Ψ127),(i+1),(v156),((cl++[((g1 - g126:Nat):Int)])),(v157),((cs++[.string z125.con,.int .i64 (z125.num),.slice p135 z125.args.length c136])),(xs++[z125]),(g126),rfl,⟨he.pk,by exact hm⟩,?_⟩
 refine ⟨(le73).trans le129,?_⟩
 refine ⟨hch.snoc rfl hr130,by simp [hxl],by omega,by omega,by simp [hcl],?_,?_⟩
 rw [z0y,htot,z1m (by omega)];omega
 rw [hI_,z0a hx83]
 exact z0s hy96 hv131
 refine BldS he hm fun v158 w hm a he =>?_
 refine BldS he hm fun v159 w hm a he =>?_
 refine App_ 5 z7z he hm (fun v160 w hm a he =>?_)
 rw [← z1s] at hm
 refine App_ 6 z7f he hm (fun v161 w hm a he =>?_)
 refine Sto 11 he hm fun w hm a he =>?_
 refine Sto 12 he hm fun w hm a he =>?_
 refine go he hm fun a he =>?_
 replace hm:=hm.ar [4,3,2,1,0] [8,8,8,8,8,8,8,7,8]
 refine hL74 _ _ _ (by subst hmu;omega) ⟨(Ψ127),(i+1),(v160),((cl++[((g1 - g126:Nat):Int)])),(v161),((cs++[.string z125.con,.int .i64 (z125.num),.slice p135 z125.args.length c136])),(xs++[z125]),(g126),rfl,⟨he.pk,by exact hm⟩,?_⟩
 refine ⟨(le73).trans le129,?_⟩
 refine ⟨hch.snoc rfl hr130,by simp [hxl],by omega,by omega,by simp [hcl],?_,?_⟩
 rw [z0y,htot,z1m (by omega)];omega
 rw [hI_,z0a hx83]
 exact z0s hy96 hv131
 have hsp162:=z4d hq123 hnx120
 replace hm:=hm.dl [10,9,8,7,6,5,4,3,2,1,0]
 exact endOutE (endP_spent (by rw [hI_,z0a hx83];exact z9x hy96 hsp162)) ⟨.inr ⟨rfl,rfl⟩,hm.le (le73)⟩
 refine Alc he hm fun b163 w hm a he =>?_
 have hnx164:=hns
 rw [hI_,z0a hx83,z8r hy96] at hnx164
 replace hnx164:=z3a (r:=z5j (z2j ⟨T.funs,inp⟩) y95 [] g1) (z3a hnx164)
 replace hm:=hm.pl 3
 refine z4y hQ call48 he hm (fun q165 y166 w hq167 hG168 hm a he =>?_) (fun q165 w hq167 hm =>?_) (c:=call_all hF g1 rpT rG hr98 (SliceOf.nil 3) (hF _ _ hy96).1 (hF _ _ hy96).2 (Nat.le_refl _) (by omega) hnx164 hm)
 obtain ⟨z169,g170⟩:=q165
 obtain ⟨Ψ171,d172⟩:=y166
 obtain ⟨le173,hr174⟩:=hG168
 have hv175:=z6h hq167
 simp only at le173 hr174 hm he hv175
 have hlt176:=y0d hv175
 replace h20:=h20.up le173
 replace rpc:=RCore.mono _ _ _ _ le173 rpc
 replace rpT:=rpT.mono le173
 replace rG:=RGiven.mono le173 rG
 replace hat42:=hat42.mono le173
 replace ma35:=ma35.mono le173
 replace mr39:=mr39.up le173
 replace hch:=hch.mono fun _ _ h=>RVal.mono _ _ _ _ le173 h
 replace ha86:=ha86.mono le173
 replace hr98:=RFun.mono _ _ _ _ le173 hr98
 replace h106:=REx.mono _ _ _ _ le173 h106
 replace hm:=hm.nf
 obtain ⟨p179,c180,rfl,hi183,h178,hm181,hn182⟩:=RVal.fm hr174
 refine Sto 1 he hm fun w hm a he =>?_
 refine go he hm fun a he =>?_
 refine z2a [2,2,0,0,2,0,0,0,0,0] (.q 0 (.q 1 (.q 4 (.e2 2 5 (.e2 3 5 (.e 5 (.e 6 (.e 7 (.e 8 (.e 9 (.done)))))) (.e2 3 6 (.e 6 (.e 7 (.e 8 (.e 9 (.done))))) (.e 3 (.e 7 (.e 8 (.e 9 (.done))))))) (.e2 2 6 (.e2 3 6 (.e 6 (.e 7 (.e 8 (.e 9 (.done))))) (.e 3 (.e 7 (.e 8 (.e 9 (.done)))))) (.e 2 (.e 3 (.e 7 (.e 8 (.e 9 (.done))))))))))) [0,1,2,5,6,7,8,9,10,11] he hm fun w hm =>?_
 refine go he hm fun a he =>?_
 refine d_e2 ?_ ?_
 refine BldS he hm fun v184 w hm a he =>?_
 refine d_e2 ?_ ?_
 refine App_ 4 z7z he hm (fun v185 w hm a he =>?_)
 rw [← z1s] at hm
 refine d_e he rfl rfl rfl (z6y (z2b 2 (vs:=[.string z169.con,.int .i64 (z169.num),.slice p179 z169.args.length c180]) he hm.toSees rfl rfl isAgg42 sizeOf42 rfl rfl) ⟨fun _=>hm.sn (Fz.Le.refl _),fun a he =>?_⟩)
 refine BldS he hm fun v186 w hm a he =>?_
 refine App_ 6 z7f he hm (fun v187 w hm a he =>?_)
 refine Sto 11 he hm fun w hm a he =>?_
 refine Sto 12 he hm fun w hm a he =>?_
 refine go he hm fun a he =>?_
 replace hm:=hm.ar [4,3,2,1,0] [8,8,8,8,8,8,8,7,8]
 refine hL74 _ _ _ (by subst hmu;omega) ⟨(Ψ171),(i+1),(v185),((cl++[((g1 - g170:Nat):Int)])),(v187),((cs++[.string z169.con,.int .i64 (z169.num),.slice p179 z169.args.length c180])),(xs++[z169]),(g170),rfl,⟨he.pk,by exact hm⟩,?_⟩
 refine ⟨(le73).trans le173,?_⟩
 refine ⟨hch.snoc rfl hr174,by simp [hxl],by omega,by omega,by simp [hcl],?_,?_⟩
 rw [z0y,htot,z1m (by omega)];omega
 rw [hI_,z0a hx83]
 exact z0s hy96 hv175
 refine d_e he rfl rfl rfl (z6y (z2b 2 (vs:=[.string z169.con,.int .i64 (z169.num),.slice p179 z169.args.length c180]) he hm.toSees rfl rfl isAgg42 sizeOf42 rfl rfl) ⟨fun _=>hm.sn (Fz.Le.refl _),fun a he =>?_⟩)
 refine d_e2 ?_ ?_
 refine App_ 4 z7z he hm (fun v188 w hm a he =>?_)
 rw [← z1s] at hm
 refine BldS he hm fun v189 w hm a he =>?_
 refine App_ 6 z7f he hm (fun v190 w hm a he =>?_)
 refine Sto 11 he hm fun w hm a he =>?_
 refine Sto 12 he hm fun w hm a he =>?_
 refine go he hm fun a he =>?_
 replace hm:=hm.ar [4,3,2,1,0] [8,8,8,8,8,8,8,7,8]
 refine hL74 _ _ _ (by subst hmu;omega) ⟨(Ψ171),(i+1),(v188),((cl++[((g1 - g170:Nat):Int)])),(v190),((cs++[.string z169.con,.int .i64 (z169.num),.slice p179 z169.args.length c180])),(xs++[z169]),(g170),rfl,⟨he.pk,by exact hm⟩,?_⟩
 refine ⟨(le73).trans le173,?_⟩
 refine ⟨hch.snoc rfl hr174,by simp [hxl],by omega,by omega,by simp [hcl],?_,?_⟩
 rw [z0y,htot,z1m (by omega)];omega
 rw [hI_,z0a hx83]
 exact z0s hy96 hv175
 refine BldS he hm fun v191 w hm a he =>?_
 refine App_ 5 z7z he hm (fun v192 w hm a he =>?_)
 rw [← z1s] at hm
 refine App_ 6 z7f he hm (fun v193 w hm a he =>?_)
 refine Sto 11 he hm fun w hm a he =>?_
 refine Sto 12 he hm fun w hm a he =>?_
 refine go he hm fun a he =>?_
 replace hm:=hm.ar [4,3,2,1,0] [8,8,8,8,8,8,8,7,8]
 refine hL74 _ _ _ (by subst hmu;omega) ⟨(Ψ171),(i+1),(v192),((cl++[((g1 - g170:Nat):Int)])),(v193),((cs++[.string z169.con,.int .i64 (z169.num),.slice p179 z169.args.length c180])),(xs++[z169]),(g170),rfl,⟨he.pk,by exact hm⟩,?_⟩
 refine ⟨(le73).trans le173,?_⟩
 refine ⟨hch.snoc rfl hr174,by simp [hxl],by omega,by omega,by simp [hcl],?_,?_⟩
 rw [z0y,htot,z1m (by omega)];omega
 rw [hI_,z0a hx83]
 exact z0s hy96 hv175
 refine d_e he rfl rfl rfl (z6y (z2b 1 (vs:=[.string z169.con,.int .i64 (z169.num),.slice p179 z169.args.length c180]) he hm.toSees rfl rfl isAgg42 sizeOf42 rfl rfl) ⟨fun _=>hm.sn (Fz.Le.refl _),fun a he =>?_⟩)
 refine d_e2 ?_ ?_
 refine BldS he hm fun v194 w hm a he =>?_
 refine d_e2 ?_ ?_
 refine App_ 4 z7z he hm (fun v195 w hm a he =>?_)
 rw [← z1s] at hm
 refine BldS he hm fun v196 w hm a he =>?_
 refine App_ 6 z7f he hm (fun v197 w hm a he =>?_)
 refine Sto 11 he hm fun w hm a he =>?_
 refine Sto 12 he hm fun w hm a he =>?_
 refine go he hm fun a he =>?_
 replace hm:=hm.ar [4,3,2,1,0] [8,8,8,8,8,8,8,7,8]
 refine hL74 _ _ _ (by subst hmu;omega) ⟨(Ψ171),(i+1),(v195),((cl++[((g1 - g170:Nat):Int)])),(v197),((cs++[.string z169.con,.int .i64 (z169.num),.slice p179 z169.args.length c180])),(xs++[z169]),(g170),rfl,⟨he.pk,by exact hm⟩,?_⟩
 refine ⟨(le73).trans le173,?_⟩
 refine ⟨hch.snoc rfl hr174,by simp [hxl],by omega,by omega,by simp [hcl],?_,?_⟩
 rw [z0y,htot,z1m (by omega)];omega
 rw [hI_,z0a hx83]
 exact z0s hy96 hv175
 refine BldS he hm fun v198 w hm a he =>?_
 refine App_ 5 z7z he hm (fun v199 w hm a he =>?_)
 rw [← z1s] at hm
 refine App_ 6 z7f he hm (fun v200 w hm a he =>?_)
 refine Sto 11 he hm fun w hm a he =>?_
 refine Sto 12 he hm fun w hm a he =>?_
 refine go he hm fun a he =>?_
 replace hm:=hm.ar [4,3,2,1,0] [8,8,8,8,8,8,8,7,8]
 refine hL74 _ _ _ (by subst hmu;omega) ⟨(Ψ171),(i+1),(v199),((cl++[((g1 - g170:Nat):Int)])),(v200),((cs++[.string z169.con,.int .i64 (z169.num),.slice p179 z169.args.length c180])),(xs++[z169]),(g170),rfl,⟨he.pk,by exact hm⟩,?_⟩
 refine ⟨(le73).trans le173,?_⟩
 refine ⟨hch.snoc rfl hr174,by simp [hxl],by omega,by omega,by simp [hcl],?_,?_⟩
 rw [z0y,htot,z1m (by omega)];omega
 rw [hI_,z0a hx83]
 exact z0s hy96 hv175
 refine BldS he hm fun v201 w hm a he =>?_
 refine BldS he hm fun v202 w hm a he =>?_
 refine App_ 5 z7z he hm (fun v203 w hm a he =>?_)
 rw [← z1s] at hm
 refine App_ 6 z7f he hm (fun v204 w hm a he =>?_)
 refine Sto 11 he hm fun w hm a he =>?_
 refine Sto 12 he hm fun w hm a he =>?_
 refine go he hm fun a he =>?_
 replace hm:=hm.ar [4,3,2,1,0] [8,8,8,8,8,8,8,7,8]
 refine hL74 _ _ _ (by subst hmu;omega) ⟨(Ψ171),(i+1),(v203),((cl++[((g1 - g170:Nat):Int)])),(v204),((cs++[.string z169.con,.int .i64 (z169.num),.slice p179 z169.args.length c180])),(xs++[z169]),(g170),rfl,⟨he.pk,by exact hm⟩,?_⟩
 refine ⟨(le73).trans le173,?_⟩
 refine ⟨hch.snoc rfl hr174,by simp [hxl],by omega,by omega,by simp [hcl],?_,?_⟩
 rw [z0y,htot,z1m (by omega)];omega
 rw [hI_,z0a hx83]
 exact z0s hy96 hv175
 have hsp205:=z4d hq167 hnx164
 replace hm:=hm.dl [11,10,9,8,7,6,5,4,3,2,1,0]
 exact endOutE (endP_spent (by rw [hI_,z0a hx83];exact z9x hy96 hsp205)) ⟨.inr ⟨rfl,rfl⟩,hm.le (le73)⟩
 refine Alc he hm fun b206 w hm a he =>?_
 replace hm:=hm.pl 3
 refine z0x call47 he hm (fun w hm a he =>?_) (c:=total_ok (l:=cl) (by omega) hm)
 refine Qq he hm (fun a he =>?_) (o:=by exact fun _ _ _ he hs=>z9m ((g1:Nat):Int) he rfl rfl (by rw [htot,z1m (by omega)];omega))
 refine Qq he hm (fun a he =>?_) (o:=by exact fun _ _ _ he hs=>y_build (vs:=[(0,.pointer (some p)),(1,mg),(2,.pointer (some ⟨b89,0,none⟩)),(3,.int .i64 ((g1:Nat):Int))]) (cs:=[.pointer (some p),mg,.pointer (some ⟨b89,0,none⟩),.int .i64 ((g1:Nat):Int)]) he rfl (by rcases rG with ⟨_,_,h_,_⟩ | ⟨h_,_⟩ <;> rw [h_] <;> kernel_rfl))
 refine d_e0 he rfl rfl (z2e 1 (cs:=[.pointer none,.map none,.pointer none,.int .i64 ((0:Nat):Int)]) (vs:=[.pointer (some p),mg,.pointer (some ⟨b89,0,none⟩),.int .i64 ((g1:Nat):Int)]) he hm rfl rfl rfl rfl sizeOf99 rfl (by simp only [List.all_cons,RGiven.one rG];rfl) rfl fun w hm=>⟨z9w (by kernel_rfl),fun a he =>?_⟩)
 replace hm:=hm.nf
 refine go he hm fun a he =>?_
 refine z2a [2,2,1,1,2,1,2,0,0,0] (.q 0 (.q 1 (.q 2 (.q 3 (.q 4 (.q 5 (.q 6 (.e2 7 8 (.e 8 (.e 9 (.done))) (.e 7 (.e 9 (.done))))))))))) [0,1,3,4,5,6,7,8,9,10] he hm fun w hm =>?_
 replace hm:Mem Ψ72 (.gs (u) 3 1 (ints cl)::.blk b206 (ob [.pointer (some p),mg,.pointer (some ⟨b89,0,none⟩),.int .i64 ((g1:Nat):Int)] 99)::.blk b89 (ob [.int .i64 ((g1 - g1:Nat):Int)] 3)::.gs (uv) 42 3 cs::.blk b0 (ob [.slice p3 c.datas.length c4,.slice p9 c.inputs.length c10,.slice p15 c.funs.length c16,.slice (some q81) c.outputs.length c22] 27)::.blk b1 (ob [.pointer (some p)] 89)::.blk b2 (ob [mg] 94)::.blk b3 (ob [.int .i64 ((fuel:Nat):Int)] 3)::.blk b4 (ob [u] 93)::.blk b5 (ob [uv] 38)::.blk b6 (ob [.slice none 0 0,.int .i64 ((0:Nat):Int)] 30)::K) w:=by rw [Nat.sub_self];exact hm
 refine go he hm fun a he =>?_
 rcases hf208:mget (d31) x82 with _ | vf209
 exact absurd (by rw [hI_,z0a hx83,outs_nofun (MapRel.none mr39 hf208)];rfl) hns
 obtain ⟨y210,hy211,cs212,rfl,hr213⟩:=mr39.get hf208
 obtain ⟨s214,b220,rfl,h215,h221⟩:=id hr213
 obtain ⟨p216,c217,rfl,hm218,hn219⟩:=h215.fm
 obtain ⟨p224,c225,p230,c231,rfl,hi234,h223,h229,hm226,hn227,hm232,hn233⟩:=REx.fm h221
 have hf208_:=congrArg (z0h false (.agg (List.toArray [.string ⟨#[]⟩,.slice none 0 0,.string ⟨#[]⟩,.int .i64 ((0:Nat):Int),.int .i64 ((0:Nat):Int),.string ⟨#[]⟩,.slice none 0 0,.slice none 0 0]))) hf208
 refine Qq he hm (fun a he =>?_) (o:=by exact fun _ _ _ he hs=>Ok.cast (z0p runUnderlying103 runUnderlying9 zeroValue68 he hs rfl rfl ma35) (show z0h false (.agg (List.toArray [.string ⟨#[]⟩,.slice none 0 0,.string ⟨#[]⟩,.int .i64 ((0:Nat):Int),.int .i64 ((0:Nat):Int),.string ⟨#[]⟩,.slice none 0 0,.slice none 0 0])) (mget (d31) x82)=.agg (List.toArray [.string y210.name,.slice p216 y210.params.length c217,.string y210.result,.int .i64 (y210.body.kind),.int .i64 (y210.body.num),.string y210.body.name,.slice p224 y210.body.args.length c225,.slice p230 y210.body.arms.length c231]) from hf208_))
 refine d_e2 ?_ ?_
 have hnx235:=hns
 rw [hI_,z0a hx83,z8r hy211] at hnx235
 replace hnx235:=z3a (r:=z5j (z2j ⟨T.funs,inp⟩) y210 [] g1) (z3a hnx235)
 replace hm:=hm.pl 2
 refine z4y hQ call48 he hm (fun q236 y237 w hq238 hG239 hm a he =>?_) (fun q236 w hq238 hm =>?_) (c:=call_all hF g1 rpT rG hr213 (SliceOf.nil 3) (hF _ _ hy211).1 (hF _ _ hy211).2 (Nat.le_refl _) (by omega) hnx235 hm)
 obtain ⟨z240,g241⟩:=q236
 obtain ⟨Ψ242,d243⟩:=y237
 obtain ⟨le244,hr245⟩:=hG239
 have hv246:=z6h hq238
 simp only at le244 hr245 hm he hv246
 have hlt247:=y0d hv246
 replace h20:=h20.up le244
 replace rpc:=RCore.mono _ _ _ _ le244 rpc
 replace rpT:=rpT.mono le244
 replace rG:=RGiven.mono le244 rG
 replace hat42:=hat42.mono le244
 replace hch:=hch.mono fun _ _ h=>RVal.mono _ _ _ _ le244 h
 replace ha86:=ha86.mono le244
 replace hr213:=RFun.mono _ _ _ _ le244 hr213
 replace h221:=REx.mono _ _ _ _ le244 h221
 replace hm:=hm.nf
 obtain ⟨p250,c251,rfl,hi254,h249,hm252,hn253⟩:=RVal.fm hr245
 refine Alc he hm fun b255 w hm a he =>?_
 refine Sto 0 he hm fun w hm a he =>?_
 refine go he hm fun a he =>?_
 refine z2a [2,2,0,0,2,0,0,0,0,0] (.q 0 (.q 1 (.q 4 (.e2 2 5 (.e2 3 5 (.e 5 (.e 6 (.e 7 (.e 8 (.e 9 (.done)))))) (.e2 3 6 (.e 6 (.e 7 (.e 8 (.e 9 (.done))))) (.e 3 (.e 7 (.e 8 (.e 9 (.done))))))) (.e2 2 6 (.e2 3 6 (.e 6 (.e 7 (.e 8 (.e 9 (.done))))) (.e 3 (.e 7 (.e 8 (.e 9 (.done)))))) (.e 2 (.e 3 (.e 7 (.e 8 (.e 9 (.done))))))))))) [0,1,3,5,6,7,8,9,10,11] he hm fun w hm =>?_
 refine go he hm fun a he =>?_
 refine d_e2 ?_ ?_
 refine BldS he hm fun v256 w hm a he =>?_
 refine d_e2 ?_ ?_
 refine App_ 3 z7z he hm (fun v257 w hm a he =>?_)
 rw [← z1s] at hm
 refine d_e he rfl rfl rfl (z6y (z2b 1 (vs:=[.string z240.con,.int .i64 (z240.num),.slice p250 z240.args.length c251]) he hm.toSees rfl rfl isAgg42 sizeOf42 rfl rfl) ⟨fun _=>hm.sn (Fz.Le.refl _),fun a he =>?_⟩)
 refine BldS he hm fun v258 w hm a he =>?_
 refine App_ 6 z7f he hm (fun v259 w hm a he =>?_)
 refine Sto 11 he hm fun w hm a he =>?_
 refine Sto 12 he hm fun w hm a he =>?_
 refine go he hm fun a he =>?_
 replace hm:=hm.ar [5,3,2,1,0] [8,8,8,8,8,8,8,7,8]
 refine hL74 _ _ _ (by subst hmu;omega) ⟨(Ψ242),(i+1),(v257),((cl++[((g1 - g241:Nat):Int)])),(v259),((cs++[.string z240.con,.int .i64 (z240.num),.slice p250 z240.args.length c251])),(xs++[z240]),(g241),rfl,⟨he.pk,by exact hm⟩,?_⟩
 refine ⟨(le73).trans le244,?_⟩
 refine ⟨hch.snoc rfl hr245,by simp [hxl],by omega,by omega,by simp [hcl],?_,?_⟩
 rw [z0y,htot,z1m (by omega)];omega
 rw [hI_,z0a hx83]
 exact z0s hy211 hv246
 refine d_e he rfl rfl rfl (z6y (z2b 1 (vs:=[.string z240.con,.int .i64 (z240.num),.slice p250 z240.args.length c251]) he hm.toSees rfl rfl isAgg42 sizeOf42 rfl rfl) ⟨fun _=>hm.sn (Fz.Le.refl _),fun a he =>?_⟩)
 refine d_e2 ?_ ?_
 refine App_ 3 z7z he hm (fun v260 w hm a he =>?_)
 rw [← z1s] at hm
 refine BldS he hm fun v261 w hm a he =>?_
 refine App_ 6 z7f he hm (fun v262 w hm a he =>?_)
 refine Sto 11 he hm fun w hm a he =>?_
 refine Sto 12 he hm fun w hm a he =>?_
 refine go he hm fun a he =>?_
 replace hm:=hm.ar [5,3,2,1,0] [8,8,8,8,8,8,8,7,8]
 refine hL74 _ _ _ (by subst hmu;omega) ⟨(Ψ242),(i+1),(v260),((cl++[((g1 - g241:Nat):Int)])),(v262),((cs++[.string z240.con,.int .i64 (z240.num),.slice p250 z240.args.length c251])),(xs++[z240]),(g241),rfl,⟨he.pk,by exact hm⟩,?_⟩
 refine ⟨(le73).trans le244,?_⟩
 refine ⟨hch.snoc rfl hr245,by simp [hxl],by omega,by omega,by simp [hcl],?_,?_⟩
 rw [z0y,htot,z1m (by omega)];omega
 rw [hI_,z0a hx83]
 exact z0s hy211 hv246
 refine BldS he hm fun v263 w hm a he =>?_
 refine App_ 4 z7z he hm (fun v264 w hm a he =>?_)
 rw [← z1s] at hm
 refine App_ 6 z7f he hm (fun v265 w hm a he =>?_)
 refine Sto 11 he hm fun w hm a he =>?_
 refine Sto 12 he hm fun w hm a he =>?_
 refine go he hm fun a he =>?_
 replace hm:=hm.ar [5,3,2,1,0] [8,8,8,8,8,8,8,7,8]
 refine hL74 _ _ _ (by subst hmu;omega) ⟨(Ψ242),(i+1),(v264),((cl++[((g1 - g241:Nat):Int)])),(v265),((cs++[.string z240.con,.int .i64 (z240.num),.slice p250 z240.args.length c251])),(xs++[z240]),(g241),rfl,⟨he.pk,by exact hm⟩,?_⟩
 refine ⟨(le73).trans le244,?_⟩
 refine ⟨hch.snoc rfl hr245,by simp [hxl],by omega,by omega,by simp [hcl],?_,?_⟩
 rw [z0y,htot,z1m (by omega)];omega
 rw [hI_,z0a hx83]
 exact z0s hy211 hv246
 refine d_e he rfl rfl rfl (z6y (z2b 0 (vs:=[.string z240.con,.int .i64 (z240.num),.slice p250 z240.args.length c251]) he hm.toSees rfl rfl isAgg42 sizeOf42 rfl rfl) ⟨fun _=>hm.sn (Fz.Le.refl _),fun a he =>?_⟩)
 refine d_e2 ?_ ?_
 refine BldS he hm fun v266 w hm a he =>?_
 refine d_e2 ?_ ?_
 refine App_ 3 z7z he hm (fun v267 w hm a he =>?_)
 rw [← z1s] at hm
 refine BldS he hm fun v268 w hm a he =>?_
 refine App_ 6 z7f he hm (fun v269 w hm a he =>?_)
 refine Sto 11 he hm fun w hm a he =>?_
 refine Sto 12 he hm fun w hm a he =>?_
 refine go he hm fun a he =>?_
 replace hm:=hm.ar [5,3,2,1,0] [8,8,8,8,8,8,8,7,8]
 refine hL74 _ _ _ (by subst hmu;omega) ⟨(Ψ242),(i+1),(v267),((cl++[((g1 - g241:Nat):Int)])),(v269),((cs++[.string z240.con,.int .i64 (z240.num),.slice p250 z240.args.length c251])),(xs++[z240]),(g241),rfl,⟨he.pk,by exact hm⟩,?_⟩
 refine ⟨(le73).trans le244,?_⟩
 refine ⟨hch.snoc rfl hr245,by simp [hxl],by omega,by omega,by simp [hcl],?_,?_⟩
 rw [z0y,htot,z1m (by omega)];omega
 rw [hI_,z0a hx83]
 exact z0s hy211 hv246
 refine BldS he hm fun v270 w hm a he =>?_
 refine App_ 4 z7z he hm (fun v271 w hm a he =>?_)
 rw [← z1s] at hm
 refine App_ 6 z7f he hm (fun v272 w hm a he =>?_)
 refine Sto 11 he hm fun w hm a he =>?_
 refine Sto 12 he hm fun w hm a he =>?_
 refine go he hm fun a he =>?_
 replace hm:=hm.ar [5,3,2,1,0] [8,8,8,8,8,8,8,7,8]
 refine hL74 _ _ _ (by subst hmu;omega) ⟨(Ψ242),(i+1),(v271),((cl++[((g1 - g241:Nat):Int)])),(v272),((cs++[.string z240.con,.int .i64 (z240.num),.slice p250 z240.args.length c251])),(xs++[z240]),(g241),rfl,⟨he.pk,by exact hm⟩,?_⟩
 refine ⟨(le73).trans le244,?_⟩
 refine ⟨hch.snoc rfl hr245,by simp [hxl],by omega,by omega,by simp [hcl],?_,?_⟩
 rw [z0y,htot,z1m (by omega)];omega
 rw [hI_,z0a hx83]
 exact z0s hy211 hv246
 refine BldS he hm fun v273 w hm a he =>?_
 refine BldS he hm fun v274 w hm a he =>?_
 refine App_ 4 z7z he hm (fun v275 w hm a he =>?_)
 rw [← z1s] at hm
 refine App_ 6 z7f he hm (fun v276 w hm a he =>?_)
 refine Sto 11 he hm fun w hm a he =>?_
 refine Sto 12 he hm fun w hm a he =>?_
 refine go he hm fun a he =>?_
 replace hm:=hm.ar [5,3,2,1,0] [8,8,8,8,8,8,8,7,8]
 refine hL74 _ _ _ (by subst hmu;omega) ⟨(Ψ242),(i+1),(v275),((cl++[((g1 - g241:Nat):Int)])),(v276),((cs++[.string z240.con,.int .i64 (z240.num),.slice p250 z240.args.length c251])),(xs++[z240]),(g241),rfl,⟨he.pk,by exact hm⟩,?_⟩
 refine ⟨(le73).trans le244,?_⟩
 refine ⟨hch.snoc rfl hr245,by simp [hxl],by omega,by omega,by simp [hcl],?_,?_⟩
 rw [z0y,htot,z1m (by omega)];omega
 rw [hI_,z0a hx83]
 exact z0s hy211 hv246
 have hsp277:=z4d hq238 hnx235
 replace hm:=hm.dl [10,9,8,7,6,5,4,3,2,1,0]
 exact endOutE (endP_spent (by rw [hI_,z0a hx83];exact z9x hy211 hsp277)) ⟨.inr ⟨rfl,rfl⟩,hm.le (le73)⟩
 refine Alc he hm fun b278 w hm a he =>?_
 have hnx279:=hns
 rw [hI_,z0a hx83,z8r hy211] at hnx279
 replace hnx279:=z3a (r:=z5j (z2j ⟨T.funs,inp⟩) y210 [] g1) (z3a hnx279)
 replace hm:=hm.pl 3
 refine z4y hQ call48 he hm (fun q280 y281 w hq282 hG283 hm a he =>?_) (fun q280 w hq282 hm =>?_) (c:=call_all hF g1 rpT rG hr213 (SliceOf.nil 3) (hF _ _ hy211).1 (hF _ _ hy211).2 (Nat.le_refl _) (by omega) hnx279 hm)
 obtain ⟨z284,g285⟩:=q280
 obtain ⟨Ψ286,d287⟩:=y281
 obtain ⟨le288,hr289⟩:=hG283
 have hv290:=z6h hq282
 simp only at le288 hr289 hm he hv290
 have hlt291:=y0d hv290
 replace h20:=h20.up le288
 replace rpc:=RCore.mono _ _ _ _ le288 rpc
 replace rG:=RGiven.mono le288 rG
 replace hat42:=hat42.mono le288
 replace hch:=hch.mono fun _ _ h=>RVal.mono _ _ _ _ le288 h
 replace ha86:=ha86.mono le288
 replace hr213:=RFun.mono _ _ _ _ le288 hr213
 replace h221:=REx.mono _ _ _ _ le288 h221
 replace hm:=hm.nf
 obtain ⟨p294,c295,rfl,hi298,h293,hm296,hn297⟩:=RVal.fm hr289
 refine Sto 1 he hm fun w hm a he =>?_
 refine go he hm fun a he =>?_
 refine z2a [2,2,0,0,2,0,0,0,0,0] (.q 0 (.q 1 (.q 4 (.e2 2 5 (.e2 3 5 (.e 5 (.e 6 (.e 7 (.e 8 (.e 9 (.done)))))) (.e2 3 6 (.e 6 (.e 7 (.e 8 (.e 9 (.done))))) (.e 3 (.e 7 (.e 8 (.e 9 (.done))))))) (.e2 2 6 (.e2 3 6 (.e 6 (.e 7 (.e 8 (.e 9 (.done))))) (.e 3 (.e 7 (.e 8 (.e 9 (.done)))))) (.e 2 (.e 3 (.e 7 (.e 8 (.e 9 (.done))))))))))) [0,1,3,5,6,7,8,9,10,11] he hm fun w hm =>?_
 refine go he hm fun a he =>?_
 refine d_e2 ?_ ?_
 refine BldS he hm fun v299 w hm a he =>?_
 refine d_e2 ?_ ?_
 refine App_ 3 z7z he hm (fun v300 w hm a he =>?_)
 rw [← z1s] at hm
 refine d_e he rfl rfl rfl (z6y (z2b 2 (vs:=[.string z284.con,.int .i64 (z284.num),.slice p294 z284.args.length c295]) he hm.toSees rfl rfl isAgg42 sizeOf42 rfl rfl) ⟨fun _=>hm.sn (Fz.Le.refl _),fun a he =>?_⟩)
 refine BldS he hm fun v301 w hm a he =>?_
 refine App_ 6 z7f he hm (fun v302 w hm a he =>?_)
 refine Sto 11 he hm fun w hm a he =>?_
 refine Sto 12 he hm fun w hm a he =>?_
 refine go he hm fun a he =>?_
 replace hm:=hm.ar [5,3,2,1,0] [8,8,8,8,8,8,8,7,8]
 refine hL74 _ _ _ (by subst hmu;omega) ⟨(Ψ286),(i+1),(v300),((cl++[((g1 - g285:Nat):Int)])),(v302),((cs++[.string z284.con,.int .i64 (z284.num),.slice p294 z284.args.length c295])),(xs++[z284]),(g285),rfl,⟨he.pk,by exact hm⟩,?_⟩
 refine ⟨(le73).trans le288,?_⟩
 refine ⟨hch.snoc rfl hr289,by simp [hxl],by omega,by omega,by simp [hcl],?_,?_⟩
 rw [z0y,htot,z1m (by omega)];omega
 rw [hI_,z0a hx83]
 exact z0s hy211 hv290
 refine d_e he rfl rfl rfl (z6y (z2b 2 (vs:=[.string z284.con,.int .i64 (z284.num),.slice p294 z284.args.length c295]) he hm.toSees rfl rfl isAgg42 sizeOf42 rfl rfl) ⟨fun _=>hm.sn (Fz.Le.refl _),fun a he =>?_⟩)
 refine d_e2 ?_ ?_
 refine App_ 3 z7z he hm (fun v303 w hm a he =>?_)
 rw [← z1s] at hm
 refine BldS he hm fun v304 w hm a he =>?_
 refine App_ 6 z7f he hm (fun v305 w hm a he =>?_)
 refine Sto 11 he hm fun w hm a he =>?_
 refine Sto 12 he hm fun w hm a he =>?_
 refine go he hm fun a he =>?_
 replace hm:=hm.ar [5,3,2,1,0] [8,8,8,8,8,8,8,7,8]
 refine hL74 _ _ _ (by subst hmu;omega) ⟨(Ψ286),(i+1),(v303),((cl++[((g1 - g285:Nat):Int)])),(v305),((cs++[.string z284.con,.int .i64 (z284.num),.slice p294 z284.args.length c295])),(xs++[z284]),(g285),rfl,⟨he.pk,by exact hm⟩,?_⟩
 refine ⟨(le73).trans le288,?_⟩
 refine ⟨hch.snoc rfl hr289,by simp [hxl],by omega,by omega,by simp [hcl],?_,?_⟩
 rw [z0y,htot,z1m (by omega)];omega
 rw [hI_,z0a hx83]
 exact z0s hy211 hv290
 refine BldS he hm fun v306 w hm a he =>?_
 refine App_ 4 z7z he hm (fun v307 w hm a he =>?_)
 rw [← z1s] at hm
 refine App_ 6 z7f he hm (fun v308 w hm a he =>?_)
 refine Sto 11 he hm fun w hm a he =>?_
 refine Sto 12 he hm fun w hm a he =>?_
 refine go he hm fun a he =>?_
 replace hm:=hm.ar [5,3,2,1,0] [8,8,8,8,8,8,8,7,8]
 refine hL74 _ _ _ (by subst hmu;omega) ⟨(Ψ286),(i+1),(v307),((cl++[((g1 - g285:Nat):Int)])),(v308),((cs++[.string z284.con,.int .i64 (z284.num),.slice p294 z284.args.length c295])),(xs++[z284]),(g285),rfl,⟨he.pk,by exact hm⟩,?_⟩
 refine ⟨(le73).trans le288,?_⟩
 refine ⟨hch.snoc rfl hr289,by simp [hxl],by omega,by omega,by simp [hcl],?_,?_⟩
 rw [z0y,htot,z1m (by omega)];omega
 rw [hI_,z0a hx83]
 exact z0s hy211 hv290
 refine d_e he rfl rfl rfl (z6y (z2b 1 (vs:=[.string z284.con,.int .i64 (z284.num),.slice p294 z284.args.length c295]) he hm.toSees rfl rfl isAgg42 sizeOf42 rfl rfl) ⟨fun _=>hm.sn (Fz.Le.refl _),fun a he =>?_⟩)
 refine d_e2 ?_ ?_
 refine BldS he hm fun v309 w hm a he =>?_
 refine d_e2 ?_ ?_
 refine App_ 3 z7z he hm (fun v310 w hm a he =>?_)
 rw [← z1s] at hm
 refine BldS he hm fun v311 w hm a he =>?_
 refine App_ 6 z7f he hm (fun v312 w hm a he =>?_)
 refine Sto 11 he hm fun w hm a he =>?_
 refine Sto 12 he hm fun w hm a he =>?_
 refine go he hm fun a he =>?_
 replace hm:=hm.ar [5,3,2,1,0] [8,8,8,8,8,8,8,7,8]
 refine hL74 _ _ _ (by subst hmu;omega) ⟨(Ψ286),(i+1),(v310),((cl++[((g1 - g285:Nat):Int)])),(v312),((cs++[.string z284.con,.int .i64 (z284.num),.slice p294 z284.args.length c295])),(xs++[z284]),(g285),rfl,⟨he.pk,by exact hm⟩,?_⟩
 refine ⟨(le73).trans le288,?_⟩
 refine ⟨hch.snoc rfl hr289,by simp [hxl],by omega,by omega,by simp [hcl],?_,?_⟩
 rw [z0y,htot,z1m (by omega)];omega
 rw [hI_,z0a hx83]
 exact z0s hy211 hv290
 refine BldS he hm fun v313 w hm a he =>?_
 refine App_ 4 z7z he hm (fun v314 w hm a he =>?_)
 rw [← z1s] at hm
 refine App_ 6 z7f he hm (fun v315 w hm a he =>?_)
 refine Sto 11 he hm fun w hm a he =>?_
 refine Sto 12 he hm fun w hm a he =>?_
 refine go he hm fun a he =>?_
 replace hm:=hm.ar [5,3,2,1,0] [8,8,8,8,8,8,8,7,8]
 refine hL74 _ _ _ (by subst hmu;omega) ⟨(Ψ286),(i+1),(v314),((cl++[((g1 - g285:Nat):Int)])),(v315),((cs++[.string z284.con,.int .i64 (z284.num),.slice p294 z284.args.length c295])),(xs++[z284]),(g285),rfl,⟨he.pk,by exact hm⟩,?_⟩
 refine ⟨(le73).trans le288,?_⟩
 refine ⟨hch.snoc rfl hr289,by simp [hxl],by omega,by omega,by simp [hcl],?_,?_⟩
 rw [z0y,htot,z1m (by omega)];omega
 rw [hI_,z0a hx83]
 exact z0s hy211 hv290
 refine BldS he hm fun v316 w hm a he =>?_
 refine BldS he hm fun v317 w hm a he =>?_
 refine App_ 4 z7z he hm (fun v318 w hm a he =>?_)
 rw [← z1s] at hm
 refine App_ 6 z7f he hm (fun v319 w hm a he =>?_)
 refine Sto 11 he hm fun w hm a he =>?_
 refine Sto 12 he hm fun w hm a he =>?_
 refine go he hm fun a he =>?_
 replace hm:=hm.ar [5,3,2,1,0] [8,8,8,8,8,8,8,7,8]
 refine hL74 _ _ _ (by subst hmu;omega) ⟨(Ψ286),(i+1),(v318),((cl++[((g1 - g285:Nat):Int)])),(v319),((cs++[.string z284.con,.int .i64 (z284.num),.slice p294 z284.args.length c295])),(xs++[z284]),(g285),rfl,⟨he.pk,by exact hm⟩,?_⟩
 refine ⟨(le73).trans le288,?_⟩
 refine ⟨hch.snoc rfl hr289,by simp [hxl],by omega,by omega,by simp [hcl],?_,?_⟩
 rw [z0y,htot,z1m (by omega)];omega
 rw [hI_,z0a hx83]
 exact z0s hy211 hv290
 have hsp320:=z4d hq282 hnx279
 replace hm:=hm.dl [11,10,9,8,7,6,5,4,3,2,1,0]
 exact endOutE (endP_spent (by rw [hI_,z0a hx83];exact z9x hy211 hsp320)) ⟨.inr ⟨rfl,rfl⟩,hm.le (le73)⟩
 refine go he hm fun a he =>?_
 have hm0_:=hm
 clear hm
 obtain ⟨Ψ324,le325,hm,hrow326⟩:=hm0_.freezeRow (i:=0) rfl
 clear hm0_
 replace h20:=h20.up le325
 replace rpc:=RCore.mono _ _ _ _ le325 rpc
 replace rG:=RGiven.mono le325 rG
 replace hat42:=hat42.mono le325
 replace hch:=hch.mono fun _ _ h=>RVal.mono _ _ _ _ le325 h
 replace hm:=hm.nf
 have hsl327:SliceOf RVal Ψ324 3 _ (xs):=⟨_,hrow326,hch⟩
 obtain ⟨p328,c329,hv_,hm330,hn331⟩:=hsl327.form (by decide)
 have hmk_:=hm
 clear hm
 subst hv_
 have hm:=hmk_
 clear hmk_
 have hend_:z4o ⟨T.funs,inp⟩ c.outputs fuel=.ok xs g1:=by
  rw [hI_,z0g h77];exact outs_nil_ok
 refine z1u call49 he hm (fun hB332 w hm a he =>?_) (fun hB332 w hm a he =>?_) (c:=anyFunc_Val (Φ:=Ψ324) (K:=.gs (u) 3 1 (ints cl)::.blk b0 (ob [.slice p3 c.datas.length c4,.slice p9 c.inputs.length c10,.slice p15 c.funs.length c16,.slice p21 c.outputs.length c22] 27)::.blk b1 (ob [.pointer (some p)] 89)::.blk b2 (ob [mg] 94)::.blk b3 (ob [.int .i64 ((fuel:Nat):Int)] 3)::.blk b4 (ob [u] 93)::.blk b5 (ob [.slice p328 (xs).length c329] 38)::.blk b6 (ob [.slice none 0 0,.int .i64 ((0:Nat):Int)] 30)::K) (p:=z6l) (fs:=[]) (cs:=[]) hsl327 call50 (fun x c w hx hc hm=>large_ok hc hm) hm)
 refine go he hm fun a he =>?_
 replace hm:=hm.dl [7,6,5,4,3,2,1,0]
 refine Ret1 hQ he hm ?_
 exact endOutE (endP_large hend_ hB332) ⟨.inl rfl,hm.le ((le73).trans le325)⟩
 refine go he hm fun a he =>?_
 have hbig_:=hB332
 replace hm:=hm.nilRow 62 4
 replace hm:=hm.nf
 refine go he hm fun a he =>?_
 refine z1l (he.ks [0,6,48,49]) hm (fun R mm a w=>∃(Ψ336:Fz) (k:Nat) (uo:Value) (co:List Value),mm=xs.length - k∧R Ψ336 [(50,.int .i64 ((k:Nat):Int))] [(0,.gs (uo) 62 4 co),(8,.blk b6 (ob [uo,.int .i64 ((0:Nat):Int)] 30))] a w∧(Ψ324.Le Ψ336∧(Chunks (RNamed Ψ336) 4 co ((z7d c.outputs xs).take k)))) (xs.length - 0) ⟨Ψ324,0,.slice none 0 0,[],rfl,⟨he.pk,hm⟩,⟨Fz.Le.refl _,rfl⟩⟩ ?_
 clear hm he
 rintro mm a w ⟨Ψ336,k,uo,co,hmu,⟨he,hm⟩,hI339⟩ L338 hL338
 replace hm:=hm.nf
 obtain ⟨le337,hI339⟩:=hI339
 replace h20:=h20.up le337
 replace rpc:=RCore.mono _ _ _ _ le337 rpc
 replace rG:=RGiven.mono le337 rG
 replace hat42:=hat42.mono le337
 replace hsl327:=hsl327.up le337
 have hco:=hI339
 refine go he hm fun a he =>?_
 by_cases h341:k < (xs).length
 refine go he hm fun a he =>?_
 obtain ⟨q345,rfl,x346,hx347,cs348,hl349,ha350,hr351⟩:=hsl327.el hn331 h341
 obtain ⟨p354,c355,rfl,hi358,h353,hm356,hn357⟩:=RVal.fm hr351
 refine Alc he hm fun b359 w hm a he =>?_
 refine Sto 0 he hm fun w hm a he =>?_
 refine Reg [1,2,1,2,1,1,2,2,0,1,0,0,1,0] [0,2,3,4,5,6,7,8,9] he hm fun w hm a he =>?_
 refine go he hm fun a he =>?_
 have hb360:k < c.outputs.length:=by omega
 obtain ⟨q361,rfl,x362,hx363,cs364,hl365,ha366,hr367⟩:=h20.el hn24 hb360
 obtain rfl:cs364=[.string x362]:=hr367
 refine z2n call51 he hm (fun y368 w hG369 hm a he =>?_) (c:=own_ok (small_of (by have h_:=List.any_eq_false.1 hbig_ _ (List.mem_of_getElem? hx347);simpa using h_)) hr351 hm)
 obtain ⟨Ψ370,d371⟩:=y368
 obtain ⟨le372,hr373⟩:=hG369
 simp only at le372 hr373 hm he
 replace rpc:=RCore.mono _ _ _ _ le372 rpc
 replace rG:=RGiven.mono le372 rG
 replace hat42:=hat42.mono le372
 replace hco:=hco.mono fun _ _ h=>RNamed.mono _ _ _ _ le372 h
 replace ha350:=ha350.mono le372
 replace hr351:=RVal.mono _ _ _ _ le372 hr351
 replace ha366:=ha366.mono le372
 replace hm:=hm.nf
 obtain ⟨p376,c377,rfl,hi380,h375,hm378,hn379⟩:=RVal.fm hr373
 refine BldT he hm fun a he =>?_
 refine BldS he hm fun v381 w hm a he =>?_
 refine App_ 2 rt_28 he hm (fun v382 w hm a he =>?_) (hb:=by have h_:=hco.length;have h2_:((z7d c.outputs xs).take k).length≤xs.length:=(by simp [z7d];omega);rw [h_];simp only [List.length_cons,List.length_nil];omega)
 refine Sto 10 he hm fun w hm a he =>?_
 refine go he hm fun a he =>?_
 replace hm:=hm.dl [1,0]
 refine hL338 _ _ _ (by subst hmu;omega) ⟨(Ψ370),(k+1),(v382),((co++[.string x362,.string x346.con,.int .i64 (x346.num),.slice p376 x346.args.length c377])),rfl,⟨he.pk,by exact hm⟩,?_⟩
 refine ⟨(le337).trans le372,?_⟩
 rw [take_snoc (names_get hx363 hx347)];exact hco.snoc rfl (show RNamed Ψ370 [.string x362,.string x346.con,.int .i64 (x346.num),.slice p376 x346.args.length c377] (⟨x362,x346⟩:Named) from ⟨_,rfl,hr373⟩)
 refine go he hm fun a he =>?_
 rw [names_all h341] at hco
 have hm0_:=hm
 clear hm
 obtain ⟨Ψ385,le386,hm,hrow387,hnw_⟩:=hm0_.freezeRowN (i:=0) rfl
 clear hm0_
 replace rpc:=RCore.mono _ _ _ _ le386 rpc
 replace rG:=RGiven.mono le386 rG
 replace hat42:=hat42.mono le386
 replace hco:=hco.mono fun _ _ h=>RNamed.mono _ _ _ _ le386 h
 replace hm:=hm.nf
 have hsl388:SliceOf RNamed Ψ385 4 _ ((z7d c.outputs xs)):=⟨_,hrow387,hco⟩
 obtain ⟨p389,c390,hv_,hm391,hn392⟩:=hsl388.form (by decide)
 have hmk_:=hm
 clear hm
 subst hv_
 have hm:=hmk_
 clear hmk_
 replace hnw_:=hnw_.anti (((le73).trans le325).trans le337)
 refine go he hm fun a he =>?_
 replace hm:=hm.ar [6,4,3,2,1] [2,1,2]
 refine Ret1 hQ he hm ?_
 exact endOut (endP_ok hend_ hbig_) ⟨(Ψ385,u,cl,.slice p389 ((z7d c.outputs xs)).length c390),rfl,⟨(((le73).trans le325).trans le337).trans le386,by rw [htot],(show cl.length≤1000 by omega),hsl388,hnw_⟩,hm⟩
end Go.Sw

namespace Go.Sw
open Go.Proofs
theorem z5a {c:Core} (h:z2c c=0):z5x c=false∧z2f c=true:=by
 unfold z2c at h
 split at h
 ·cases h
 split at h
 ·cases h
 split at h
 ·rename_i h2 hr;exact ⟨by simpa using h2,hr⟩
 ·cases h
theorem look_funs {c:Core} (h:z2c c=0):FunsOk (z0i c):=by
 obtain ⟨hl,hr⟩:=z5a h
 have ht:z7m c=true:=by simp only [z2f,Bool.and_eq_true] at hr;exact hr.1.1.1.1.1
 intro n f hf
 exact ⟨table_params hl ht n f hf,y0r hl (z9c ht hf)⟩
theorem look_outs {c:Core} (h:z2c c=0):c.outputs.length≤1000:=by
 have hl:=(z5a h).1
 simp only [z5x,Bool.or_eq_false_iff,decide_eq_false_iff_not] at hl
 omega
theorem run_ns {c:Core} (h:z2c c=0) {l:List Named} (hg:givenP (z0i c) l c.inputs=true) (g:Nat):z4o ⟨(z0i c).funs,inpP l⟩ c.outputs g≠.stuck :=
 (outs_ok (z6c h) (given_closed (z6c h) hg) (fun _ h=>h) g).1
theorem endP_err {r:Ev (List Val)} {c:Nat} (h:endP r=.error c):c≠0:=by
 cases r with
 | ok vs g =>
  simp only [endP] at h
  split at h
  ·cases h;decide
  ·cases h
 | spent=>cases h;decide
 | stuck=>cases h;decide
section
variable {P:Program} {n:Nat} {E:List (Nat×Value)} {D:List Deferred} {a:Act} {Φ:Fz} {K:List Res} {w:World}
variable {Kn:Value→World→Prop} {Qp:List PanicEntry→World→Prop} {dst:Option Tmp} {ty:TypeId} {pos:String} {aft:Array Edge} {g:Option (Nat×Bool)}
theorem eff_callW {α β ε:Type} {f:FuncId} {xs:Array Operand} {ts:Array TypeId} {vs:List Value} {r:Except ε α} {X:α→β→Value} {Z:ε→Value} {F1:α→β→Fz} {Φ2:Fz} {KO:α→β→List Res} {KE:List Res} {G:α→β→Prop}
  (he:EnvR n E D a) (hx:evs E xs.toList=some vs) (hf:∀args w,(callFunc f args).run P w=.ok (.enter f args) w)
  (hc:Calls P f vs.toArray w (fun e w'=>Out r (fun x=>∃y,e=.returned (X x y)∧G x y∧Mem (F1 x y) (KO x y) w') (fun c=>e=.returned (Z c)∧Mem Φ2 KE w')))
  (k:∀x y w',r=.ok x→G x y→Mem (F1 x y) (KO x y) w'→Kn (X x y) w') (kp:∀c w',r=.error c→Mem Φ2 KE w'→Kn (Z c) w') :
  Oper.eff P ⟨dst,.call { callee:=.value (.func f),args:=xs,argTypes:=ts },ty,pos,aft,g⟩ a w Kn Qp:=by
 refine z7t he hx hf hc (fun v w' h =>?_) (fun c w' h =>?_) (fun w' h =>?_)
 ·cases r with
  | ok x=>obtain ⟨y,h1,h2,h3⟩:=h;cases h1;exact k _ _ _ rfl h2 h3
  | error c=>obtain ⟨h1,h2⟩:=h;cases h1;exact kp _ _ rfl h2
 ·cases r with
  | ok x=>obtain ⟨y,h1,_⟩:=h;cases h1
  | error c=>obtain ⟨h1,h2⟩:=h;cases h1
 ·cases r with
  | ok x=>obtain ⟨y,h1,_⟩:=h;cases h1
  | error c=>obtain ⟨h1,_⟩:=h;cases h1
theorem retcA2 {fn:Func} {R:Ending→World→Prop} {t u T b k i:Nat} {cs:List Value} {T0:TypeId} {x:Value} (he:EnvR n E [] a) (hm:Sees Φ K w) (hr:fn.results=#[.cell t T,.tmp u]) (hv:get E t=some (.pointer (some ⟨b,0,none⟩)))
  (hk:kget K i=some (.blk b (ob cs T0))) (hT:AggT P T) (hS:SizeT P T k) (hl:cs.length=k) (hx:get E u=some x) (h:R (.returned (.tuple (List.toArray [.agg cs.toArray,x]))) w):bodyPost P fn R .ret a w:=by
 refine ⟨he.defs,_,?_,h⟩
 have h2:=cellA (P:=P) he hm hv hk hT hS hl
 simp [results,hr,Array.getD_eq_getD_getElem?,he.env t _ hv,he.env u _ hx,asAddr,h2,Sem.run_bind,Result.andThen]
theorem z8v {fn:Func} {R:Ending→World→Prop} {t u u2 T b k i:Nat} {cs:List Value} {T0:TypeId} {x x2:Value} (he:EnvR n E [] a) (hm:Sees Φ K w) (hr:fn.results=#[.cell t T,.tmp u,.tmp u2]) (hv:get E t=some (.pointer (some ⟨b,0,none⟩)))
  (hk:kget K i=some (.blk b (ob cs T0))) (hT:AggT P T) (hS:SizeT P T k) (hl:cs.length=k) (hx:get E u=some x) (hx2:get E u2=some x2) (h:R (.returned (.tuple (List.toArray [.agg cs.toArray,x,x2]))) w):bodyPost P fn R .ret a w:=by
 refine ⟨he.defs,_,?_,h⟩
 have h2:=cellA (P:=P) he hm hv hk hT hS hl
 simp [results,hr,Array.getD_eq_getD_getElem?,he.env t _ hv,he.env u _ hx,he.env u2 _ hx2,asAddr,h2,Sem.run_bind,Result.andThen]
end
theorem run_within {Φ:Fz} {K:List Res} {w:World} {p:Addr} {T:Table} {d0:List Value} {c:Core} {mg:Value} {inp:List (Bs×Val)} {fuel b0 b1 b2 b3 b4 b5 b6:Nat} (rpc:RCore Φ d0 c) (rpT:RTable Φ p T) (rG:RGiven Φ mg inp) (hF:FunsOk T) (hlen:c.outputs.length≤1000) (hfu:fuel≤1000000)
  (hns:z4o ⟨T.funs,inp⟩ c.outputs fuel≠.stuck)
  (hm:Mem Φ (.blk b0 (ob d0 27)::.blk b1 (ob [.pointer (some p)] 89)::.blk b2 (ob [mg] 94)::.blk b3 (ob [.int .i64 ((fuel:Nat):Int)] 3)::.blk b4 (ob [.slice none 0 0] 93)::.blk b5 (ob [.slice none 0 0] 38)::.blk b6 (ob [.slice none 0 0,.int .i64 ((0:Nat):Int)] 30)::K) w) :
  Calls Tryz.prog 45 (List.toArray [.func (.func 46) (List.toArray []) (List.toArray [.pointer (some ⟨b0,0,none⟩),.pointer (some ⟨b1,0,none⟩),.pointer (some ⟨b2,0,none⟩),.pointer (some ⟨b3,0,none⟩),.pointer (some ⟨b4,0,none⟩),.pointer (some ⟨b5,0,none⟩),.pointer (some ⟨b6,0,none⟩)])]) w (fun e w'=>Out (endP (z4o ⟨T.funs,inp⟩ c.outputs fuel))
   (fun x=>∃y:Fz×Value×List Int×Value,e=.returned (.int .i64 ((0:Nat):Int))∧(Φ.Le y.1∧totalP y.2.2.1=((fuel - x.2:Nat):Int)∧y.2.2.1.length≤1000∧SliceOf RNamed y.1 4 y.2.2.2 (z7d c.outputs x.1)∧NewRow Φ y.2.2.2)∧Mem y.1 (.blk b4 (ob [y.2.1] 93)::.gs y.2.1 3 1 (ints y.2.2.1)::.blk b6 (ob [y.2.2.2,.int .i64 ((0:Nat):Int)] 30)::K) w')
   (fun c=>e=.returned (.int .i64 ((c:Nat):Int))∧Mem Φ K w')):=by
 refine within_ok (α:=List Val×Nat) (β:=Fz×Value×List Int×Value) (F:=fun _ y=>y.1) (KO:=fun _ y=>.blk b4 (ob [y.2.1] 93)::.gs y.2.1 3 1 (ints y.2.2.1)::.blk b6 (ob [y.2.2.2,.int .i64 ((0:Nat):Int)] 30)::K)
  (G:=fun (x:List Val×Nat) y=>Φ.Le y.1∧totalP y.2.2.1=((fuel - x.2:Nat):Int)∧y.2.2.1.length≤1000∧SliceOf RNamed y.1 4 y.2.2.2 (z7d c.outputs x.1)∧NewRow Φ y.2.2.2) Tryz.call46 (fun b w hm =>?_) hm
 have hm:=((((((hm.pull (i:=7) rfl).pull (i:=7) rfl).pull (i:=7) rfl).pull (i:=7) rfl).pull (i:=7) rfl).pull (i:=7) rfl).pull (i:=7) rfl
 refine (run1_ok (K:=.blk b (ob [.int .i64 ((0:Nat):Int)] 31)::K) rpc rpT rG hF hlen hfu hns hm).mono fun e w' h =>?_
 cases hr:endP (z4o ⟨T.funs,inp⟩ c.outputs fuel) with
 | ok x =>
  rw [hr] at h
  obtain ⟨y,h1,h2,h3⟩:=h
  exact ⟨y,h1,h2,h3.pull (i:=3) rfl⟩
 | error c' =>
  rw [hr] at h
  exact h
end Go.Sw

namespace Go.Sw
def z5m (es:Array MapEntry) (seen:Array Nat):List MapEntry:=es.toList.filter fun e => !seen.contains e.born
theorem leftE_nil (es:Array MapEntry):z5m es #[]=es.toList:=by simp [z5m]
theorem leftE_mem {es:Array MapEntry} {seen:Array Nat} {e:MapEntry}:e∈z5m es seen↔e∈es.toList∧e.born∉seen:=by simp [z5m]
theorem leftE_push {es:Array MapEntry} {seen:Array Nat} {e x:MapEntry}:x∈z5m es (seen.push e.born)↔x∈z5m es seen∧x.born≠e.born:=by
 simp only [leftE_mem,Array.mem_push,not_or,and_assoc]
theorem leftE_lt {es:Array MapEntry} {seen:Array Nat} {e:MapEntry} (h:e∈z5m es seen):(z5m es (seen.push e.born)).length < (z5m es seen).length :=
 filter_lt (fun x:MapEntry => !seen.contains x.born) (fun x:MapEntry => !(seen.push e.born).contains x.born) (fun x hx=>by simp at hx ⊢;exact hx.1) e (by have:=(leftE_mem.1 h).2;simpa using this) (by simp) es.toList (leftE_mem.1 h).1
section
variable {P:Program} {n:Nat} {E:List (Nat×Value)} {D:List Deferred} {a:Act} {Φ:Fz} {K:List Res} {w:World}
variable {Kn:Value→World→Prop} {Qp:List PanicEntry→World→Prop} {dst:Option Tmp} {ty:TypeId} {pos:String} {aft:Array Edge} {g:Option (Nat×Bool)}
theorem eff_range (i:Nat) {t kt et:TypeId} {x:Operand} {b:Nat} {m:List (Bs×Value)} (ht:Under P t (.map kt et)) (he:EnvR n E D a) (hm:Mem Φ K w) (hx:ev E x=some (.map (some b))) (hK:kget K i=some (.mp b m))
  (k:∀r es clock w',MapOk es clock m→Mem Φ (.blk r (.mapIter (some b) clock #[] clock)::kset K i (.blk b (.map es clock))) w'→Kn (.pointer (some ⟨r,0,none⟩)) w'):Oper.eff P ⟨dst,.range t x,ty,pos,aft,g⟩ a w Kn Qp:=by
 obtain ⟨es,clock,hb,hok⟩:=hm.own _ (z1c hK)
 have h1:(getObj b).run P w=.ok (.map es clock) w:=by simp [getObj,Sem.run,hb]
 have hm2:Mem Φ (kset K i (.blk b (.map es clock))) w:=hm.upd hK rfl rfl (fun _ _ _=>rfl) hb (.inl rfl)
 unfold Oper.eff
 have:(execOp a.eval ⟨dst,.range t x,ty,pos,aft,g⟩).run P w=.ok (.value (.pointer (some ⟨w.heap.size,0,none⟩))) { w with heap:=w.heap.push (.mapIter (some b) clock #[] clock) }:=by
  simp only [execOp,he.ev hx,Instr.range,Sem.run_bind,ht w,Result.andThen_ok,h1]
  simp [newObj,Sem.run,Sem.run_bind,Result.andThen]
 rw [this]
 exact k _ _ _ _ hok (hm2.push _)
theorem eff_next (i j:Nat) {x:Operand} {r b clock:Nat} {es:Array MapEntry} {seen:Array Nat} {m:List (Bs×Value)} (he:EnvR n E D a) (hm:Mem Φ K w) (hx:ev E x=some (.pointer (some ⟨r,0,none⟩)))
  (hK:kget K i=some (.blk r (.mapIter (some b) clock seen clock))) (hJ:kget K j=some (.blk b (.map es clock))) (hok:MapOk es clock m)
  (k0:z5m es seen=[]→∀w',Mem Φ K w'→Kn (.tuple (List.toArray [.bool false])) w')
  (k1:∀e w',e∈z5m es seen→Mem Φ (kset K i (.blk r (.mapIter (some b) clock (seen.push e.born) clock))) w'→Kn (.tuple (List.toArray [.bool true,e.key,e.val])) w') :
  Oper.eff P ⟨dst,.next x false,ty,pos,aft,g⟩ a w Kn Qp:=by
 have hr:w.heap[r]? = some (.mapIter (some b) clock seen clock):=hm.own _ (z1c hK)
 have hb:w.heap[b]? = some (.map es clock):=hm.own _ (z1c hJ)
 have htest:(!seen.isEmpty && !es.isEmpty&&es.all (fun x=>decide (x.born≥clock)))=false:=next_test_false seen es clock clock hok.old (Nat.le_refl _)
 have hold:∀e∈es.toList,e.born < clock:=hok.old
 have e1:((es.filter fun e => !seen.contains e.born).filter (fun x=>decide (x.born < clock)))=es.filter fun e => !seen.contains e.born :=
  Array.filter_eq_self.2 (fun x hx=>by
   have:=hold x (by simp at hx ⊢;exact hx.1)
   simpa using this)
 have e2:((es.filter fun e => !seen.contains e.born).filter (fun x=>decide (x.born≥clock)))=#[]:=by
  rw [Array.filter_eq_empty_iff]
  intro x hx
  have:=hold x (by simp at hx ⊢;exact hx.1)
  simp only [ge_iff_le,decide_eq_true_eq,Nat.not_le];omega
 have hleft:z5m es seen=(es.filter fun e => !seen.contains e.born).toList:=by simp [z5m]
 unfold Oper.eff
 simp only [execOp,he.ev hx,Instr.next,getObj,Sem.run_bind,Sem.run,hr,hb,Result.andThen,htest,Bool.false_eq_true,if_false,e1,e2,Array.append_empty]
 generalize hL:(es.filter fun e => !seen.contains e.born)=L at *
 by_cases h0:L.size=0
 ·have:L=#[]:=Array.eq_empty_of_size_eq_zero h0
  subst this
  simp only [Array.isEmpty,Array.size_empty,decide_true,if_true]
  simp only [choose,Sem.run,Question.forced]
  simp
  exact k0 (by rw [hleft]) _ hm
 ·have hne:L.isEmpty=false:=by simp [Array.isEmpty,h0]
  simp only [hne,Bool.false_eq_true,if_false,Array.empty_append,Array.size_map]
  have hch:∃(q:Nat) (w1:World),q < L.size∧Mem Φ K w1∧w1.heap=w.heap∧(choose (Question.mapNext L.size)).run P w=.ok q w1:=by
   by_cases hf:L.size≤1
   ·exact ⟨0,w,by omega,hm,rfl,by simp [choose,Sem.run,Question.forced,hf]⟩
   ·exact ⟨_,w.drew,Nat.mod_lt _ (by omega),hm.drew,rfl,by
     simp only [choose,Sem.run,Question.forced,decide_eq_true_eq,hf,if_false,Question.cut]
     rfl⟩
  obtain ⟨q,w1,hq,hm1,hw1,hrun⟩:=hch
  have hset:∀o,(setObj r o).run P w1=.ok () { w1 with heap:=w1.heap.setIfInBounds r o }:=fun o=>by simp only [setObj,Sem.run,hw1,hr]
  have hlt:r < w1.heap.size:=by rw [hw1];exact (Array.getElem?_eq_some_iff.1 hr).1
  have hmem:L[q]∈z5m es seen:=by rw [hleft];simp
  have hrun':=hrun
  simp only [hrun',Sem.run_bind,Result.andThen,Array.getElem?_map,Array.getElem?_eq_getElem hq,Option.map_some,hset,Sem.run_pure]
  simp [Sem.run_bind,hset,Result.andThen,z6g]
  refine k1 _ _ hmem (hm1.upd hK rfl rfl (fun c hc hne =>?_) ?_ (.inl rfl))
  ·simp only;rw [Array.getElem?_setIfInBounds_ne (fun e=>hne (by simp [Res.foot,e]))]
  ·simp [Res.sat,hlt]
theorem y_entry {x:Operand} {i j:Nat} {r b clock:Nat} {es:Array MapEntry} {seen:Array Nat} {m:List (Bs×Value)} {e:MapEntry} (he:EnvR n E D a) (hm:Sees Φ K w) (hx:ev E x=some (.pointer (some ⟨r,0,none⟩)))
  (hK:kget K i=some (.blk r (.mapIter (some b) clock (seen.push e.born) clock))) (hJ:kget K j=some (.blk b (.map es clock))) (hok:MapOk es clock m) (hl:e∈z5m es seen) :
  Ok P a (.entry x) ty w (.tuple (List.toArray [e.key,e.val])):=fun _ _ _ _=>by
 have hr:w.heap[r]? = some (.mapIter (some b) clock (seen.push e.born) clock):=hm.own _ (z1c hK)
 have hb:w.heap[b]? = some (.map es clock):=hm.own _ (z1c hJ)
 have hf:es.find? (·.born==e.born)=some e:=by rw [← Array.find?_toList];exact find_born e es.toList hok.nodup (leftE_mem.1 hl).1
 simp only [execOp,he.ev hx,Instr.entry,getObj,Sem.run_bind,Sem.run,hr,hb,Result.andThen,Array.back?_push,bne_self_eq_false,Bool.false_eq_true,if_false,hf]
 rfl
theorem entry_key {es:Array MapEntry} {clock:Nat} {m:List (Bs×Value)} {e:MapEntry} (hok:MapOk es clock m) (h:e∈es.toList):∃s v,e.key=.string s∧e.val=v∧(s,v)∈m:=by
 have h1:(e.key,e.val)∈m.map (fun p=>(Value.string p.1,p.2)):=by rw [← hok.eq];exact List.mem_map.2 ⟨e,h,rfl⟩
 obtain ⟨p,hp,h2⟩:=List.mem_map.1 h1
 simp only [Prod.mk.injEq] at h2
 exact ⟨p.1,p.2,h2.1.symm,h2.2.symm,hp⟩
theorem key_entry {es:Array MapEntry} {clock:Nat} {m:List (Bs×Value)} {s:Bs} {v:Value} (hok:MapOk es clock m) (h:(s,v)∈m):∃e∈es.toList,e.key=.string s:=by
 have h1:(Value.string s,v)∈es.toList.map (fun e=>(e.key,e.val)):=by rw [hok.eq];exact List.mem_map.2 ⟨(s,v),h,rfl⟩
 obtain ⟨e,he,h2⟩:=List.mem_map.1 h1
 simp only [Prod.mk.injEq] at h2
 exact ⟨e,he,h2.1⟩
end
end Go.Sw

namespace Go.Sw
structure QAt (off cap:Nat) (arr:Array Value) (l:List Bs):Prop where
 room:off+cap≤arr.size
 fits:l.length≤cap
 max:cap≤maxLen
 cells:∀(j:Nat) s,l[j]? = some s→arr[off+j]? = some (.string s)
abbrev qblk (b:Nat) (arr:Array Value):Res:=.blk b (.cells arr 9 (0,0))
abbrev qval (b off cap:Nat) (l:List Bs):Value:=.slice (some ⟨b,off,none⟩) l.length cap
def qoff (off cap:Nat):Nat:=if cap=1 then off else off+1
theorem QAt.tail {off cap:Nat} {arr:Array Value} {l:List Bs} (h:QAt off cap arr l) (h0:0 < l.length):QAt (qoff off cap) (cap - 1) arr (l.drop 1):=by
 have:=h.fits;have:=h.room;have:=h.max
 refine ⟨?_,?_,by omega,fun j s hj =>?_⟩
 ·unfold qoff;split <;> omega
 ·rw [List.length_drop];omega
 ·rw [List.getElem?_drop] at hj
  have h1:=h.cells _ _ hj
  have hlt:=(List.getElem?_eq_some_iff.1 hj).1
  unfold qoff
  rw [if_neg (by omega)]
  rw [show off+1+j=off+(1+j) by omega];exact h1
theorem add_off (b off j:Nat):(⟨b,off,none⟩:Addr).add j=⟨b,off+j,none⟩:=by
 unfold Addr.add;split <;> simp_all
section
variable {P:Program} {n:Nat} {E:List (Nat×Value)} {D:List Deferred} {a:Act} {Φ:Fz} {K:List Res} {w:World} {ty:TypeId}
theorem y_load_q (i:Nat) {x:Operand} {b off cap:Nat} {arr:Array Value} {l:List Bs} {T:TypeId} {s:Bs} (he:EnvR n E D a) (hm:Sees Φ K w) (hq:QAt off cap arr l) (hx:ev E x=some (.pointer (some ((⟨b,off,none⟩:Addr).add (0 * 1)))))
  (hk:kget K i=some (qblk b arr)) (hs:l[0]? = some s) (hT:Scalar P T):Ok P a (.load T x) ty w (.string s):=fun _ _ _ _=>by
 have h1:w.heap[b]? = some (.cells arr 9 (0,0)):=hm.own _ (z1c hk)
 have h2:w.cell? ⟨b,off,none⟩=some (.string s):=by simp [World.cell?,h1];exact hq.cells 0 s hs
 have h3:((⟨b,off,none⟩:Addr).add (0 * 1))=⟨b,off,none⟩:=by simp [Addr.add]
 rw [h3] at hx
 simp only [execOp,he.ev hx]
 simp [Instr.loadAt,Instr.sureAddr,loadVar,Sem.run_bind,hT w,Result.andThen,load,Sem.run,h2]
theorem y_slice_q {x lo:Operand} {t e:TypeId} {b off cap:Nat} {arr:Array Value} {l:List Bs} (he:EnvR n E D a) (hq:QAt off cap arr l) (hx:ev E x=some (qval b off cap l)) (hlo:ev E lo=some (.int .i64 ((1:Nat):Int)))
  (ht:Under P t (.slice e)) (hs:SizeT P e 1) (h0:0 < l.length):Ok P a (.slice t x (some lo) none none) ty w (qval b (qoff off cap) (cap - 1) (l.drop 1)):=fun _ _ _ _=>by
 have hf:=hq.fits
 have h1:(1:Nat)≤cap:=by omega
 have h2:(1:Int)≤(l.length:Int):=by omega
 have hv:(if cap=1 then some (⟨b,off,none⟩:Addr) else some (Addr.add ⟨b,off,none⟩ 1))=some ⟨b,qoff off cap,none⟩:=by
  unfold qoff;split <;> simp [Addr.add]
 simp only [execOp,he.ev hx,Option.map_some,Option.map_none,he.ev hlo,Instr.sliceAt]
 simp [Sem.run_bind,ht w,hs w,Instr.slice,Instr.sliceBounds,Instr.sliceBound,asIntOf,h2,hf,h1,Result.andThen,qval,hv]
theorem eff_append_q (i:Nat) {dst:Option Tmp} {pos:String} {aft:Array Edge} {g:Option (Nat×Bool)} {Kn:Value→World→Prop} {Qp:List PanicEntry→World→Prop} {x y:Operand} {t bytes:TypeId} {b off cap:Nat} {arr:Array Value} {l:List Bs} {v:Value} {s:Bs} (hT:RowT P t 9 1 bytes) (he:EnvR n E D a) (hm:Mem Φ K w) (hq:QAt off cap arr l)
  (hx:ev E x=some (qval b off cap l)) (hk:kget K i=some (qblk b arr)) (hy:ev E y=some v) (hr:RowIn w v 1 [.string s]) (hb:(l.length+1) * bytes≤140737488355328)
  (k:∀b' off' cap' arr' w',QAt off' cap' arr' (l++[s])→Mem Φ (kset K i (qblk b' arr')) w'→Kn (qval b' off' cap' (l++[s])) w') :
  Oper.eff P ⟨dst,.call { callee:=.builtin .append,args:=#[x,y],argTypes:=#[t,t] },ty,pos,aft,g⟩ a w Kn Qp:=by
 obtain ⟨inf,z,hi,hz,hsz,hby,hzs⟩:=hT.info
 have hg:w.heap[b]? = some (.cells arr 9 (0,0)):=hm.own _ (z1c hk)
 have hfin:∀v' w',(Builtin.append_ #[t,t] ty #[qval b off cap l,v]).run P w=.ok v' w'→Kn v' w' →
   Oper.eff P ⟨dst,.call { callee:=.builtin .append,args:=#[x,y],argTypes:=#[t,t] },ty,pos,aft,g⟩ a w Kn Qp:=by
  intro v' w' hrun hK
  unfold Oper.eff
  have:(execOp a.eval ⟨dst,.call { callee:=.builtin .append,args:=#[x,y],argTypes:=#[t,t] },ty,pos,aft,g⟩).run P w=.ok (.value v') w':=by
   simp only [execOp,resolve,invoke,builtin,Sem.run_bind,Sem.run_pure,Result.andThen_ok,List.map_toArray,List.map_cons,List.map_nil,he.ev hx,he.ev hy,hrun]
  rw [this]
  exact hK
 rcases hr with ⟨_,h⟩ | ⟨q,m',c,rfl,hl,hat⟩
 ·cases h
 have hm1:m'=1:=by simpa using hl.symm
 subst hm1
 have hbb:l.length+1≤140737488355328:=Nat.le_trans (Nat.le_mul_of_pos_right _ hT.bpos) hb
 have hroom':=hq.room
 have hlen:(l++[s]).length=l.length+1:=by simp
 by_cases hroom:l.length+1≤cap
 ·have hst:=run_storeCells_at P b (off+l.length) 9 [.string s] 0 arr w hg (by simp only [List.length_cons,List.length_nil];omega) (by simp [Value.oneCell'])
  have hf:=run_firstCells_some (P:=P) w 1 1 q 1 c [.string s] (by simp) hat
  have hrun:(Builtin.append_ #[t,t] ty #[qval b off cap l,.slice (some q) 1 c]).run P w=.ok (qval b off cap (l++[s])) (w.setRow b (arr.toList.take (off+l.length)++[Value.string s]++arr.toList.drop (off+l.length+1)).toArray):=by
   simp only [Nat.add_zero,List.length_cons,List.length_nil,Nat.zero_add] at hst
   simp [Builtin.append_,run_underlying hT.under,sizeOf,typeInfo,hi,hsz,Builtin.lenOf,hroom,hf,add_off,qval,hst]
  refine hfin _ _ hrun (k b off cap _ _ ⟨?_,?_,hq.max,?_⟩ (hm.upd hk rfl rfl (fun c hc hne=>setRow_other w b c _ (fun e=>hne (by simp [Res.foot,e]))) (setRow_heap w b _ _ 9 _ hg) (.inl rfl)))
  ·simp;omega
  ·rw [hlen];exact hroom
  ·intro j u hj
   have hjl:j < l.length+1:=by rw [← hlen];exact (List.getElem?_eq_some_iff.1 hj).1
   have harr:off+l.length < arr.size:=by omega
   simp only [List.getElem?_toArray]
   by_cases hjn:j < l.length
   ·rw [List.append_assoc,List.getElem?_append_left (by simp;omega),List.getElem?_take_of_lt (by omega),Array.getElem?_toList]
    rw [List.getElem?_append_left hjn] at hj
    exact hq.cells _ _ hj
   ·have:j=l.length:=by omega
    subst this
    simp at hj
    subst hj
    rw [List.append_assoc,List.getElem?_append_right (by simp;omega)]
    simp [Nat.min_eq_left (Nat.le_of_lt harr)]
 ·have holds:∀j u,(strs l)[j]? = some u→w.cell? ((⟨b,off,none⟩:Addr).add j)=some u:=fun j u hj=>by
   simp only [strs,List.getElem?_map,Option.map_eq_some_iff] at hj
   obtain ⟨s',h1,rfl⟩:=hj
   have h2:=hq.cells _ _ h1
   rw [add_off];simp [World.cell?,hg,h2]
  have hf':=hq.fits
  have hr:=run_append_grow (P:=P) w t ty 9 inf z hT.under hi hz ⟨b,off,none⟩ l.length cap (strs l) (by rw [hsz];simp [strs]) holds q 1 c [.string s] (by rw [hsz];rfl) hat (by omega) (by omega) (by rw [hby];exact growslice_fits (by omega) (by simpa using hb))
  have hge:=grownCap_ge w (l.length+1) cap 9
  rw [show Value.slice (some (Addr.mk w.heap.size 0 none)) (l.length+1) (grownCap w (l.length+1) cap 9)=qval w.heap.size 0 (grownCap w (l.length+1) cap 9) (l++[s]) by simp [qval]] at hr
  refine hfin _ _ hr (k w.heap.size 0 _ ((strs l).toArray++#[Value.string s]++Builtin.zeroCells z.cells (grownCap w (l.length+1) cap 9 - (l.length+1))) _ ⟨?_,?_,?_,?_⟩ (hm.upd hk rfl rfl (fun c hc hne =>?_) ?_ (.inr fun c hc=>by simp [Res.foot] at hc;omega)))
  ·simp [size_zeroCells,hzs,strs];omega
  ·rw [hlen];exact hge
  ·exact grownCap_le_maxLen w _ _ _ (by simp only [maxLen];omega)
  ·intro j u hj
   have hjl:j < l.length+1:=by rw [← hlen];exact (List.getElem?_eq_some_iff.1 hj).1
   rw [Nat.zero_add,Array.getElem?_append_left (by simp [strs];omega)]
   have:((strs l).toArray++[Value.string s].toArray)[j]? = (strs (l++[s]))[j]? := by rw [z2g];simp [strs]
   rw [this]
   simp only [strs,List.getElem?_map,hj];rfl
  ·show (w.heap.push _)[c]? = _
   rw [Array.getElem?_push_lt hc,Array.getElem?_eq_getElem hc]
  ·show (w.heap.push _)[w.heap.size]? = _
   simp
end
end Go.Sw

namespace Go.Sw
def ex0:Ex:=.mk 0 0 ⟨#[]⟩ [] []
def fbody (T:Table) (n:Bs):Ex:=match lget T.funs n with | some f=>f.body | none=>ex0
def z3d (T:Table) (n:Bs):List Bs:=z1v (fbody T n)
theorem y0o {T:Table} {n:Bs} {f:Fun} (h:lget T.funs n=some f):fbody T n=f.body:=by simp [fbody,h]
theorem fbody_none {T:Table} {n:Bs} (h:lget T.funs n=none):fbody T n=ex0:=by simp [fbody,h]
theorem rex0 {Φ:Fz}:REx Φ [.int .i64 0,.int .i64 0,.string ⟨#[]⟩,.slice none 0 0,.slice none 0 0] ex0:=REx.iff.2 ⟨_,_,rfl,⟨by decide,by decide⟩,SliceOf.nil 5,SliceOf.nil 7⟩
theorem mput_keys:∀(m:List (Bs×Value)) (k:Bs) (x:Value) (s:Bs),(∃v,(s,v)∈mput m k x)↔s=k∨∃v,(s,v)∈m
 | [],k,x,s=>by simp [mput]
 | (k',y)::m,k,x,s=>by
  simp only [mput]
  split
  ·rename_i h;subst h
   simp only [List.mem_cons,Prod.mk.injEq]
   constructor
   ·rintro ⟨v,h | h⟩
    ·exact .inl h.1
    ·exact .inr ⟨v,.inr h⟩
   ·rintro (h | ⟨v,h | h⟩)
    ·exact ⟨x,.inl ⟨h,rfl⟩⟩
    ·exact ⟨x,.inl ⟨h.1,rfl⟩⟩
    ·exact ⟨v,.inr h⟩
  ·simp only [List.mem_cons,Prod.mk.injEq]
   have:=mput_keys m k x s
   constructor
   ·rintro ⟨v,h | h⟩
    ·exact .inr ⟨v,.inl h⟩
    ·rcases this.1 ⟨v,h⟩ with h | ⟨v,h⟩
     ·exact .inl h
     ·exact .inr ⟨v,.inr h⟩
   ·rintro (h | ⟨v,h | h⟩)
    ·obtain ⟨v,h⟩:=this.2 (.inl h);exact ⟨v,.inr h⟩
    ·exact ⟨v,.inl h⟩
    ·obtain ⟨v,h⟩:=this.2 (.inr ⟨v,h⟩);exact ⟨v,.inr h⟩
theorem mput_len:∀(m:List (Bs×Value)) (k:Bs) (x:Value),(mput m k x).length≤m.length+1
 | [],k,x=>by simp [mput]
 | (k',y)::m,k,x=>by
  simp only [mput]
  split
  ·simp
  ·have:=mput_len m k x;simp only [List.length_cons];omega
theorem foldT_keys:∀(l:List Bs) (m:List (Bs×Value)) (s:Bs),(∃v,(s,v)∈l.foldl (fun m s=>mput m s (.bool true)) m)↔s∈l∨∃v,(s,v)∈m
 | [],m,s=>by simp
 | x::l,m,s=>by
  rw [List.foldl_cons,foldT_keys l,mput_keys];simp only [List.mem_cons]
  constructor
  ·rintro (h | h | h)
   ·exact .inl (.inr h)
   ·exact .inl (.inl h)
   ·exact .inr h
  ·rintro ((h | h) | h)
   ·exact .inr (.inl h)
   ·exact .inl h
   ·exact .inr (.inr h)
theorem foldT_len:∀(l:List Bs) (m:List (Bs×Value)),(l.foldl (fun m s=>mput m s (.bool true)) m).length≤l.length+m.length
 | [],m=>by simp
 | x::l,m=>by
  have:=foldT_len l (mput m x (.bool true));have:=mput_len m x (.bool true)
  simp only [List.foldl_cons,List.length_cons];omega
theorem seenM_keys (l:List Bs) (s:Bs):(∃v,(s,v)∈z3i l)↔s∈l:=by rw [z3i,foldT_keys];simp
theorem seenM_len (l:List Bs):(z3i l).length≤l.length:=by have:=foldT_len l [];simpa [z3i] using this
theorem has_mem {l:List Bs} {s:Bs}:has l s=true↔s∈l:=by simp [has]
theorem nodup_le {α:Type}:∀{l U:List α},l.Nodup→(∀x∈l,x∈U)→l.length≤U.length
 | [],_,_,_=>Nat.zero_le _
 | x::l,U,hn,hs=>by
  obtain ⟨U1,U2,rfl⟩:=List.append_of_mem (hs x List.mem_cons_self)
  have hn':=List.nodup_cons.1 hn
  have:=nodup_le (l:=l) (U:=U1++U2) hn'.2 (fun y hy=>by
   have:=hs y (List.mem_cons_of_mem _ hy)
   simp only [List.mem_append,List.mem_cons] at this ⊢
   rcases this with h | rfl | h
   ·exact .inl h
   ·exact absurd hy hn'.1
   ·exact .inr h)
  simp only [List.length_append,List.length_cons] at this ⊢;omega
structure RInv (T:Table) (U start ds l:List Bs):Prop where
 nodup:ds.Nodup
 dU:∀x∈ds,x∈U
 lU:∀x∈l,x∈U
 len:l.length≤1000+ds.length * 6000
 starts:∀x∈start,x∈ds∨x∈l
 closed:∀x∈ds,∀y∈z3d T x,y∈ds∨y∈l
 least:∀Q:Bs→Prop,(∀x∈start,Q x)→(∀x,Q x→∀y∈z3d T x,Q y)→(∀x∈ds,Q x)∧∀x∈l,Q x
structure Reached (T:Table) (start ds:List Bs):Prop where
 starts:∀x∈start,x∈ds
 closed:∀x∈ds,∀y∈z3d T x,y∈ds
 least:∀Q:Bs→Prop,(∀x∈start,Q x)→(∀x,Q x→∀y∈z3d T x,Q y)→∀x∈ds,Q x
def muR (U ds l:List Bs):Nat:=(U.length - ds.length) * 6001+l.length
theorem RInv.start {T:Table} {U start:List Bs} (hU:∀x∈start,x∈U) (hl:start.length≤1000):RInv T U start [] start :=
 ⟨List.nodup_nil,by simp,hU,by simpa using hl,fun x h=>.inr h,by simp,fun Q h1 h2=>⟨by simp,h1⟩⟩
theorem RInv.fin {T:Table} {U start ds:List Bs} (h:RInv T U start ds []):Reached T start ds :=
 ⟨fun x hx=>(h.starts x hx).resolve_right (by simp),fun x hx y hy=>(h.closed x hx y hy).resolve_right (by simp),fun Q h1 h2=>(h.least Q h1 h2).1⟩
theorem RInv.skip {T:Table} {U start ds l:List Bs} {n:Bs} (h:RInv T U start ds l) (h0:l[0]? = some n) (hd:n∈ds):RInv T U start ds (l.drop 1)∧muR U ds (l.drop 1) < muR U ds l:=by
 obtain ⟨rest,rfl⟩:∃rest,l=n::rest:=by cases l with | nil=>simp at h0 | cons a r=>simp at h0;exact ⟨r,by rw [h0]⟩
 simp only [List.drop_succ_cons,List.drop_zero]
 refine ⟨⟨h.nodup,h.dU,fun x hx=>h.lU x (List.mem_cons_of_mem _ hx),?_,?_,?_,fun Q h1 h2=>⟨(h.least Q h1 h2).1,fun x hx=>(h.least Q h1 h2).2 x (List.mem_cons_of_mem _ hx)⟩⟩,?_⟩
 ·have:=h.len;simp only [List.length_cons] at this;omega
 ·intro x hx
  rcases h.starts x hx with h | h
  ·exact .inl h
  ·rcases List.mem_cons.1 h with rfl | h
   ·exact .inl hd
   ·exact .inr h
 ·intro x hx y hy
  rcases h.closed x hx y hy with h | h
  ·exact .inl h
  ·rcases List.mem_cons.1 h with rfl | h
   ·exact .inl hd
   ·exact .inr h
 ·simp only [muR,List.length_cons];omega
structure RIn (T:Table) (n:Bs) (rest:List Bs) (es:Array MapEntry) (seen:Array Nat) (l:List Bs):Prop where
 new:∀x∈l,x∈rest∨x∈z3d T n
 old:∀x∈rest,x∈l
 all:∀e∈es.toList,e∈z5m es seen∨∃s,e.key=.string s∧s∈l
 len:l.length+(z5m es seen).length≤rest.length+es.size
theorem RIn.start {T:Table} {n:Bs} {rest:List Bs} {es:Array MapEntry}:RIn T n rest es #[] rest :=
 ⟨fun x h=>.inl h,fun x h=>h,fun e h=>.inl (by rw [leftE_nil];exact h),by rw [leftE_nil];simp⟩
theorem RIn.next {T:Table} {n s:Bs} {v:Value} {rest l:List Bs} {es:Array MapEntry} {seen:Array Nat} {clock:Nat} {e:MapEntry} (h:RIn T n rest es seen l) (hok:MapOk es clock (z3i (z3d T n))) (he:e∈z5m es seen)
  (hk:e.key=.string s) (hm:(s,v)∈z3i (z3d T n)):RIn T n rest es (seen.push e.born) (l++[s]):=by
 refine ⟨?_,fun x hx=>List.mem_append_left _ (h.old x hx),?_,?_⟩
 ·intro x hx
  rcases List.mem_append.1 hx with hx | hx
  ·exact h.new x hx
  ·rw [List.mem_singleton] at hx;subst hx
   exact .inr ((seenM_keys _ _).1 ⟨v,hm⟩)
 ·intro x hx
  rcases h.all x hx with h1 | ⟨s',h1,h2⟩
  ·by_cases hb:x.born=e.born
   ·have h3:x=e:=by
     have a1:=find_born x es.toList hok.nodup hx
     have a2:=find_born e es.toList hok.nodup (leftE_mem.1 he).1
     rw [hb] at a1;rw [a1] at a2;exact Option.some.inj a2
    subst h3
    exact .inr ⟨s,hk,by simp⟩
   ·exact .inl (leftE_push.2 ⟨h1,hb⟩)
  ·exact .inr ⟨s',h1,List.mem_append_left _ h2⟩
 ·have:=leftE_lt he;have:=h.len;simp only [List.length_append,List.length_cons,List.length_nil];omega
theorem RInv.mark {T:Table} {U start ds l l':List Bs} {n:Bs} {es:Array MapEntry} {seen:Array Nat} {clock:Nat} (h:RInv T U start ds l) (h0:l[0]? = some n) (hd:n∉ds) (hM:∀x,(z3d T x).length≤6000) (hC:∀x,∀y∈z3d T x,y∈U)
  (hok:MapOk es clock (z3i (z3d T n))) (hi:RIn T n (l.drop 1) es seen l') (hl:z5m es seen=[]):RInv T U start (ds++[n]) l'∧muR U (ds++[n]) l' < muR U ds l:=by
 obtain ⟨rest,rfl⟩:∃rest,l=n::rest:=by cases l with | nil=>simp at h0 | cons a r=>simp at h0;exact ⟨r,by rw [h0]⟩
 simp only [List.drop_succ_cons,List.drop_zero] at hi
 have hes:es.size≤6000:=by
  have h1:=congrArg List.length hok.eq
  simp only [List.length_map,Array.length_toList] at h1
  have:=seenM_len (z3d T n);have:=hM n;omega
 have hlen:=hi.len
 rw [hl] at hlen
 simp only [List.length_nil,Nat.add_zero] at hlen
 have hall:∀y∈z3d T n,y∈l':=fun y hy=>by
  obtain ⟨v,hv⟩:=(seenM_keys (z3d T n) y).2 hy
  obtain ⟨e,he,hk⟩:=key_entry hok hv
  rcases hi.all e he with h1 | ⟨s,h1,h2⟩
  ·rw [hl] at h1;cases h1
  ·rw [hk] at h1;cases h1;exact h2
 have hn:n∈U:=h.lU n List.mem_cons_self
 have hnd:(ds++[n]).Nodup:=by
  rw [List.nodup_append]
  exact ⟨h.nodup,by simp,fun a ha b hb=>by rw [List.mem_singleton] at hb;subst hb;intro e;subst e;exact hd ha⟩
 have hdU:∀x∈ds++[n],x∈U:=fun x hx=>by
  rcases List.mem_append.1 hx with hx | hx
  ·exact h.dU x hx
  ·rw [List.mem_singleton] at hx;subst hx;exact hn
 have hle:(ds++[n]).length≤U.length:=nodup_le hnd hdU
 simp only [List.length_append,List.length_cons,List.length_nil] at hle
 refine ⟨⟨hnd,hdU,?_,?_,?_,?_,?_⟩,?_⟩
 ·intro x hx
  rcases hi.new x hx with h1 | h1
  ·exact h.lU x (List.mem_cons_of_mem _ h1)
  ·exact hC n x h1
 ·have:=h.len;simp only [List.length_cons,List.length_append,List.length_nil] at this ⊢;omega
 ·intro x hx
  rcases h.starts x hx with h1 | h1
  ·exact .inl (List.mem_append_left _ h1)
  ·rcases List.mem_cons.1 h1 with rfl | h1
   ·exact .inl (by simp)
   ·exact .inr (hi.old x h1)
 ·intro x hx y hy
  rcases List.mem_append.1 hx with hx | hx
  ·rcases h.closed x hx y hy with h1 | h1
   ·exact .inl (List.mem_append_left _ h1)
   ·rcases List.mem_cons.1 h1 with rfl | h1
    ·exact .inl (by simp)
    ·exact .inr (hi.old y h1)
  ·rw [List.mem_singleton] at hx;subst hx
   exact .inr (hall y hy)
 ·intro Q h1 h2
  have h3:=h.least Q h1 h2
  have hQn:Q n:=h3.2 n List.mem_cons_self
  refine ⟨fun x hx =>?_,fun x hx =>?_⟩
  ·rcases List.mem_append.1 hx with hx | hx
   ·exact h3.1 x hx
   ·rw [List.mem_singleton] at hx;subst hx;exact hQn
  ·rcases hi.new x hx with h4 | h4
   ·exact h3.2 x (List.mem_cons_of_mem _ h4)
   ·exact h2 n hQn x h4
 ·simp only [muR,List.length_append,List.length_cons,List.length_nil]
  have:U.length - ds.length=(U.length - (ds.length+1))+1:=by omega
  rw [this,Nat.add_mul];omega
theorem gs_queue {Φ:Fz} {K:List Res} {w:World} {i:Nat} {v:Value} {l:List Bs} (hm:Mem Φ K w) (hk:kget K i=some (.gs v 9 1 (strs l))) (hl:l≠[]):∃b cap arr,v=qval b 0 cap l∧QAt 0 cap arr l∧Mem Φ (kset K i (qblk b arr)) w:=by
 obtain ⟨n,h1,h2⟩:=hm.own _ (z1c hk)
 have hn:l.length=n:=by simpa [strs] using h1
 rcases h2 with ⟨_,h0⟩ | ⟨b,cap,cur,rfl,_,h4,h5,h6,h7,h8⟩
 ·exact absurd (List.eq_nil_of_length_eq_zero (by omega)) hl
 ·subst hn
  refine ⟨b,cap,cur,rfl,⟨by omega,h5,h6,fun j s hj =>?_⟩,hm.upd hk rfl rfl (fun _ _ _=>rfl) h4 (.inl rfl)⟩
  have hlt:=(List.getElem?_eq_some_iff.1 hj).1
  have h9:(cur.toList.take (l.length * 1))[j]? = some (.string s):=by rw [h8];simp only [strs,List.getElem?_map,hj];rfl
  rw [List.getElem?_take_of_lt (by omega),Array.getElem?_toList] at h9
  rw [Nat.zero_add];exact h9
theorem y_fieldA {P:Program} {n:Nat} {E:List (Nat×Value)} {D:List Deferred} {a:Act} {w:World} {ty:TypeId} (off:Nat) {x:Operand} {t:TypeId} {fs:Array Field} {i k:Nat} {fd:Field} {cs vs:List Value} (ht:Under P t (.struct fs)) (hf:fs[i]? = some fd) (hT:AggT P fd.type) (hS:SizeT P fd.type k)
  (he:EnvR n E D a) (hx:ev E x=some (.agg cs.toArray)) (ho:fd.offset=off) (hv:ltake (ldrop cs off) k=vs):Ok P a (.field t x i) ty w (.agg vs.toArray):=fun _ _ _ _=>by
 rw [ltake_eq,ldrop_eq] at hv
 subst ho
 simp only [execOp,he.ev hx]
 simp [Instr.field,Sem.run_bind,ht w,hf,asAgg,part,hT w,hS w,Result.andThen,← hv]
theorem es_size {es:Array MapEntry} {clock:Nat} {l:List Bs} (hok:MapOk es clock (z3i l)) (h:l.length≤6000):es.size≤6000:=by
 have h1:=congrArg List.length hok.eq
 simp only [List.length_map,Array.length_toList] at h1
 have:=seenM_len l;omega
theorem not_has {l:List Bs} {s:Bs} (h:has l s=false):s∉l:=fun hm=>by rw [has_mem.2 hm] at h;cases h
end Go.Sw

namespace Go.Sw
mutual
theorem calledP_len:∀(e:Ex) (l:Int),(meas e l).1=false→((z1v e).length:Int)≤l - (meas e l).2
 | .mk k n s args arms,l=>by
  intro h
  simp only [meas] at h ⊢
  split at h
  ·cases h
  ·rename_i hl
   rw [if_neg hl]
   cases hm:meass args (l - 1) with
   | mk b q =>
    rw [hm] at h
    cases b with
    | true=>cases h
    | false =>
     have k1:=calledPs_len args (l - 1) (by rw [hm])
     have k2:=calledPa_len arms q h
     rw [hm] at k1
     simp only [z1v,List.length_append] at k1 ⊢
     have k3:(if k=5 then [s] else []).length≤1:=by split <;> simp
     omega
theorem calledPs_len:∀(es:List Ex) (l:Int),(meass es l).1=false→((calledPs es).length:Int)≤l - (meass es l).2
 | [],l=>by intro _;simp [calledPs,meass]
 | e::es,l=>by
  intro h
  simp only [meass] at h ⊢
  cases hm:meas e l with
  | mk b q =>
   rw [hm] at h
   cases b with
   | true=>cases h
   | false =>
    have k1:=calledP_len e l (by rw [hm])
    have k2:=calledPs_len es q h
    rw [hm] at k1
    simp only [calledPs,List.length_append] at k1 ⊢
    omega
theorem calledPa_len:∀(es:List Arm) (l:Int),(measa es l).1=false→((calledPa es).length:Int)≤l - (measa es l).2
 | [],l=>by intro _;simp [calledPa,measa]
 | .mk c vs b::es,l=>by
  intro h
  simp only [measa] at h ⊢
  split at h
  ·cases h
  ·rename_i hv
   rw [if_neg hv]
   cases hm:meas b l with
   | mk q0 q =>
    rw [hm] at h
    cases q0 with
    | true=>cases h
    | false =>
     have k1:=calledP_len b l (by rw [hm])
     have k2:=calledPa_len es q h
     rw [hm] at k1
     simp only [calledPa,List.length_append] at k1 ⊢
     omega
end
theorem short_called {e:Ex} (h:Short e):(z1v e).length≤6000:=by
 obtain ⟨l,h1,h2⟩:=h
 have:=calledP_len e l h2
 have:=(z8o e l h2).1
 omega
inductive Reach (T:Table) (s:Bs):Bs→Prop
 | refl:Reach T s s
 | step {x y:Bs}:Reach T s x→y∈z3d T x→Reach T s y
def z5t (T:Table) (n:Bs):Prop:=∃x,Reach T n x∧z4a (fbody T x)=true
theorem Reached.mem {T:Table} {n:Bs} {ds:List Bs} (h:Reached T [n] ds) {x:Bs} (hx:Reach T n x):x∈ds:=by
 induction hx with
 | refl=>exact h.starts n (by simp)
 | step _ hy ih=>exact h.closed _ ih _ hy
theorem Reached.reach {T:Table} {n:Bs} {ds:List Bs} (h:Reached T [n] ds) {x:Bs} (hx:x∈ds):Reach T n x :=
 h.least (Reach T n) (by simp;exact .refl) (fun _ h1 _ h2=>.step h1 h2) x hx
def z5i (r:Nat→Ev Val) (fu:Nat):Except Nat (Val×Nat) :=
 if fu < 1 then .error 4 else match r (fu - 1) with
  | .ok v g=>if z6l v then .error 7 else .ok (v,g)
  | _=>.error 4
theorem callEnd_zero {r:Nat→Ev Val} {fu:Nat} (h:fu < 1):z5i r fu=.error 4:=by simp [z5i,h]
theorem callEnd_large {r:Nat→Ev Val} {fu:Nat} (h:¬fu < 1) {v:Val} {g:Nat} (hr:r (fu - 1)=.ok v g) (hl:z6l v=true):z5i r fu=.error 7:=by simp [z5i,h,hr,hl]
theorem callEnd_ok {r:Nat→Ev Val} {fu:Nat} (h:¬fu < 1) {v:Val} {g:Nat} (hr:r (fu - 1)=.ok v g) (hl:z6l v=false):z5i r fu=.ok (v,g):=by simp [z5i,h,hr,hl]
theorem callEnd_spent {r:Nat→Ev Val} {fu:Nat} (h:¬fu < 1) (hr:r (fu - 1)=.spent):z5i r fu=.error 4:=by simp [z5i,h,hr]
theorem callEnd_err {r:Nat→Ev Val} {fu c:Nat} (h:z5i r fu=.error c):c≠0:=by
 unfold z5i at h
 split at h
 ·cases h;decide
 ·split at h
  ·split at h
   ·cases h;decide
   ·cases h
  ·cases h;decide
theorem outE {α ε:Type} {r:Except ε α} {x:α} {A:α→Prop} {B:ε→Prop} (h:r=.ok x) (hA:A x):Out r A B:=by subst h;exact hA
theorem outEE {α ε:Type} {r:Except ε α} {x:ε} {A:α→Prop} {B:ε→Prop} (h:r=.error x) (hB:B x):Out r A B:=by subst h;exact hB
open Classical in
noncomputable def z1k (c:Core) (name:Bs) (args:List Val) (fuel:Int):Val×Int×Int :=
 if z2c c≠0 then (v0,0,z2c c)
 else if fuel < 0∨200000 < fuel then (v0,0,1)
 else match lget (z0i c).funs name with
  | none=>(v0,0,3)
  | some f =>
   if givenA (z0i c) args f.params=false then (v0,0,8)
   else if z5t (z0i c) name then (v0,0,8)
   else match z5i (z5j (z2j ⟨(z0i c).funs,[]⟩) f args) fuel.toNat with
    | .ok (v,g)=>(v,((fuel.toNat - g:Nat):Int),0)
    | .error e=>(v0,0,((e:Nat):Int))
def univ (c:Core) (n:Bs):List Bs:=n::c.funs.flatMap fun f=>z1v f.body
theorem flat_len {α β:Type} {f:α→List β} {M:Nat}:∀{l:List α},(∀x∈l,(f x).length≤M)→(l.flatMap f).length≤l.length * M
 | [],_=>by simp
 | x::l,h=>by
  have h1:=h x List.mem_cons_self
  have h2:=flat_len (l:=l) (fun y hy=>h y (List.mem_cons_of_mem _ hy))
  simp only [List.flatMap_cons,List.length_append,List.length_cons,Nat.add_mul];omega
theorem look_calls {c:Core} (h:z2c c=0):(∀x,(z3d (z0i c) x).length≤6000)∧(∀n x,∀y∈z3d (z0i c) x,y∈univ c n)∧∀n,(univ c n).length≤2000000:=by
 obtain ⟨hl,hr⟩:=z5a h
 have ht:z7m c=true:=by simp only [z2f,Bool.and_eq_true] at hr;exact hr.1.1.1.1.1
 have hn:c.funs.length≤300:=by
  simp only [z5x,Bool.or_eq_false_iff,decide_eq_false_iff_not] at hl
  omega
 refine ⟨fun x =>?_,fun n x y hy =>?_,fun n =>?_⟩
 ·unfold z3d fbody
  cases hf:lget (z0i c).funs x with
  | none=>simp [ex0,z1v,calledPs,calledPa]
  | some f=>exact short_called (y0r hl (z9c ht hf))
 ·unfold z3d fbody at hy
  cases hf:lget (z0i c).funs x with
  | none=>rw [hf] at hy;simp [ex0,z1v,calledPs,calledPa] at hy
  | some f =>
   rw [hf] at hy
   exact List.mem_cons_of_mem _ (List.mem_flatMap.2 ⟨f,z9c ht hf,hy⟩)
 ·have:=flat_len (l:=c.funs) (f:=fun f=>z1v f.body) (M:=6000) (fun f hf=>short_called (y0r hl hf))
  simp only [univ,List.length_cons]
  have:c.funs.length * 6000≤300 * 6000:=Nat.mul_le_mul_right _ hn
  omega
structure RNo (T:Table) (es:Array MapEntry) (seen:Array Nat):Prop where
 no:∀e∈es.toList,e∈z5m es seen∨∃s,e.key=.string s∧z4a (fbody T s)=false
theorem RNo.start {T:Table} {es:Array MapEntry}:RNo T es #[]:=⟨fun e h=>.inl (by rw [leftE_nil];exact h)⟩
theorem RNo.next {T:Table} {es:Array MapEntry} {seen:Array Nat} {clock:Nat} {m:List (Bs×Value)} {e:MapEntry} {s:Bs} (h:RNo T es seen) (hok:MapOk es clock m) (he:e∈z5m es seen) (hk:e.key=.string s) (hr:z4a (fbody T s)=false):RNo T es (seen.push e.born) :=
 ⟨fun x hx=>by
  rcases h.no x hx with h1 | h1
  ·by_cases hb:x.born=e.born
   ·have a1:=find_born x es.toList hok.nodup hx
    have a2:=find_born e es.toList hok.nodup (leftE_mem.1 he).1
    rw [hb] at a1;rw [a1] at a2
    have:=Option.some.inj a2
    subst this
    exact .inr ⟨s,hk,hr⟩
   ·exact .inl (leftE_push.2 ⟨h1,hb⟩)
  ·exact .inr h1⟩
theorem RNo.none {T:Table} {n:Bs} {ds:List Bs} {es:Array MapEntry} {seen:Array Nat} {clock:Nat} (h:RNo T es seen) (hok:MapOk es clock (z3i ds)) (hd:Reached T [n] ds) (hl:z5m es seen=[]):¬z5t T n:=by
 rintro ⟨x,h1,h2⟩
 obtain ⟨v,hv⟩:=(seenM_keys ds x).2 (hd.mem h1)
 obtain ⟨e,he,hk⟩:=key_entry hok hv
 rcases h.no e he with h3 | ⟨s,h3,h4⟩
 ·rw [hl] at h3;cases h3
 ·rw [hk] at h3;cases h3;rw [h2] at h4;cases h4
theorem reads_any {T:Table} {n s:Bs} {v:Value} {ds:List Bs} (hd:Reached T [n] ds) (hm:(s,v)∈z3i ds) (hr:z4a (fbody T s)=true):z5t T n :=
 ⟨s,hd.reach ((seenM_keys ds s).1 ⟨v,hm⟩),hr⟩
end Go.Sw

namespace Go.Sw
open Go.Proofs.Tryz
open Go.Proofs
set_option maxRecDepth 20000
set_option maxHeartbeats 4000000
theorem runAllN_ok {Φ:Fz} {K:List Res} {w:World} {d0:List Value} {v1:Value} {c:Core} {l:List Named} {fuel:Int} (rpc:RCore Φ d0 c) (rl:SliceOf RNamed Φ 4 v1 l) (G:Glob Φ) (hm:Mem Φ K w) :
  Calls Tryz.prog 15 (List.toArray [.agg d0.toArray,v1,.int .i64 fuel]) w (fun ee w'=>∃y:Fz×List Value,ee=.returned (.tuple (List.toArray [.agg y.2.toArray,.int .i64 (runP c l fuel).2]))∧(Φ.Le y.1∧ROutcome y.1 y.2 (runP c l fuel).1∧∀v s,y.2=[v,s]→NewRow Φ v)∧Mem y.1 K w'):=by
 obtain ⟨p3,c4,p9,c10,p15,c16,p21,c22,rfl,h2,h8,h14,h20,hm5,hn6,hm11,hn12,hm17,hn18,hm23,hn24⟩:=RCore.fm rpc
 obtain ⟨p1,c1,rfl,hm1,hn1⟩:=rl.fm
 refine z0m func15 ntmps15 fun Q hQ a he =>?_
 refine Bx he hm fun b26 w hm a he =>?_
 refine Bx he hm fun b27 w hm a he =>?_
 refine Alc he hm fun b28 w hm a he =>?_
 refine z2n call43 he hm (fun y30 w hG31 hm a he =>?_) (c:=look_ok rpc G hm)
 obtain ⟨Ψ32,p33⟩:=y30
 obtain ⟨le34,hT35⟩:=hG31
 simp only at le34 hT35 hm he
 replace rpc:=RCore.mono _ _ _ _ le34 rpc
 replace G:=G.mono le34
 replace rl:=rl.up le34
 replace hm:=hm.nf
 by_cases hlk36:z2c c=0
 obtain ⟨hT37,hlong38⟩:=hT35 hlk36
 rw [if_pos hlk36,hlk36] at he
 refine Alc he hm fun b39 w hm a he =>?_
 refine Sto 0 he hm fun w hm a he =>?_
 refine Qq he hm (fun a he =>?_) (o:=by exact fun _ _ _ he hs=>y_ineq false he rfl rfl rfl)
 refine go he hm fun a he =>?_
 by_cases h43:fuel < 0
 refine z1n he hm fun a he =>?_
 refine Sto 1 he hm fun w hm a he =>?_
 refine go he hm fun a he =>?_
 have hmr:=hm
 replace hm:=hm.dl [3,2,1,0]
 refine hQ _ _ _ (retcA2 (i:=1) (cs:=[.slice none 0 0,.int .i64 ((0:Nat):Int)]) he hmr.toSees results15 rfl rfl isAgg30 sizeOf30 rfl rfl ?_)
 have hr_:runP c l (fuel)=(out0,1):=by
  simp only [runP,if_neg (not_not_intro hlk36)];rw [if_pos (by have h_:=h43;omega)] <;> rfl
 rw [hr_]
 exact ⟨(Ψ32,_),rfl,⟨le34,⟨_,rfl,SliceOf.nil 4⟩,fun _ _ e_=>by cases e_;exact NewRow.nil⟩,hm⟩
 refine go he hm fun a he =>?_
 by_cases h45:200000 < fuel
 refine z1n he hm fun a he =>?_
 refine Sto 1 he hm fun w hm a he =>?_
 refine go he hm fun a he =>?_
 have hmr:=hm
 replace hm:=hm.dl [3,2,1,0]
 refine hQ _ _ _ (retcA2 (i:=1) (cs:=[.slice none 0 0,.int .i64 ((0:Nat):Int)]) he hmr.toSees results15 rfl rfl isAgg30 sizeOf30 rfl rfl ?_)
 have hr_:runP c l (fuel)=(out0,1):=by
  simp only [runP,if_neg (not_not_intro hlk36)];rw [if_pos (by have h_:=h45;omega)] <;> rfl
 rw [hr_]
 exact ⟨(Ψ32,_),rfl,⟨le34,⟨_,rfl,SliceOf.nil 4⟩,fun _ _ e_=>by cases e_;exact NewRow.nil⟩,hm⟩
 refine z1u call44 he hm (fun hB48 w hm a he =>?_) (fun hB48 w hm a he =>?_) (c:=given_ok hT37 rl hm)
 refine go he hm fun a he =>?_
 have hgv_:givenP (z0i c) l c.inputs=true:=hB48
 have hfu_:fuel≤200000:=by have h_:=h45;omega
 have hf0_:0≤fuel:=by have h_:=h43;omega
 have hmk_:=hm
 have hek_:=he
 clear hm he
 obtain ⟨fu,rfl⟩:=Int.eq_ofNat_of_zero_le hf0_
 have hm:=hmk_
 have he:=hek_
 clear hmk_ hek_
 refine Alc he hm fun b50 w hm a he =>?_
 refine Alc he hm fun b52 w hm a he =>?_
 refine Alc he hm fun b54 w hm a he =>?_
 refine MkM he hm fun b56 w hm a he =>?_
 refine Alc he hm fun b57 w hm a he =>?_
 refine Sto 0 he hm fun w hm a he =>?_
 refine go he hm fun a he =>?_
 refine z1l (he.ks [3,5,6,8,10,11,12,13,41,42]) hm (fun R mm a w=>∃(i:Nat) (mv:List (Bs×Value)) (lv:List (Bs×Val)),mm=l.length - i∧R Ψ32 [(43,.int .i64 ((i:Nat):Int))] [(1,.mp b56 mv)] a w∧(inpP l=(l.drop i).foldl (fun m x=>lput m x.name x.value) lv∧MapRel (RVa RVal Ψ32) mv lv)) (l.length - 0) ⟨0,[],[],rfl,⟨he.pk,hm⟩,⟨rfl,MapRel.nil⟩⟩ ?_
 clear hm he
 rintro mm a w ⟨i,mv,lv,hmu,⟨he,hm⟩,hI61⟩ L60 hL60
 replace hm:=hm.nf
 obtain ⟨hI61,rv⟩:=hI61
 refine go he hm fun a he =>?_
 by_cases h63:i < l.length
 refine go he hm fun a he =>?_
 obtain ⟨q67,rfl,x68,hx69,cs70,hl71,ha72,hr73⟩:=rl.el hn1 h63
 obtain ⟨b74,rfl,h75⟩:=id hr73
 obtain ⟨p78,c79,rfl,hi82,h77,hm80,hn81⟩:=RVal.fm h75
 refine Alc he hm fun b83 w hm a he =>?_
 refine Sto 0 he hm fun w hm a he =>?_
 refine MapU 2 runUnderlying94 runUnderlying9 he hm fun w hm a he =>?_
 refine go he hm fun a he =>?_
 replace hm:=hm.dl [0]
 refine hL60 _ _ _ (by subst hmu;omega) ⟨(i+1),((mput mv x68.name (.agg (List.toArray [.string x68.value.con,.int .i64 (x68.value.num),.slice p78 x68.value.args.length c79])))),((lput lv x68.name x68.value)),rfl,⟨he.pk,hm⟩,?_⟩
 refine ⟨?_,(rv.put ⟨_,rfl,h75⟩)⟩
 rw [hI61,z0a hx69];rfl
 refine go he hm fun a he =>?_
 have hm0_:=hm
 clear hm
 obtain ⟨Ψ86,le87,hm,hma88⟩:=hm0_.freezeMap (i:=1) rfl
 clear hm0_
 replace rpc:=RCore.mono _ _ _ _ le87 rpc
 replace G:=G.mono le87
 replace hT37:=hT37.mono le87
 replace rv:=rv.up le87
 replace hm:=hm.nf
 have rG_:RGiven Ψ86 (.map (some b56)) (inpP l):=by
  have e_:inpP l=lv:=by rw [hI61,z0g h63];rfl
  rw [e_];exact .inl ⟨_,_,rfl,hma88,rv⟩
 replace hm:=hm.nf
 refine go he hm fun a he =>?_
 replace hm:=hm.ar [] [3,2,3,6,4,5,7]
 refine st he rfl rfl rfl (eff_callW he rfl call45 (run_within (inp:=inpP l) rpc hT37 rG_ (look_funs hlk36) (look_outs hlk36) (by omega) (run_ns hlk36 hgv_ fu) hm) (fun q89 y90 w hq91 hG92 hm a he =>?_) (fun q89 w hq91 hm a he =>?_))
 obtain ⟨xs93,g94⟩:=q89
 obtain ⟨Ψ95,u96,cl97,vo98⟩:=y90
 obtain ⟨le99,htot100,hcl101,hsl102,hnw103⟩:=hG92
 simp only at le99 htot100 hcl101 hsl102 hnw103 hm he
 replace hnw103:=hnw103.anti ((le34).trans le87)
 obtain ⟨p104,c105,rfl,hmx106,hnx107⟩:=hsl102.fm
 replace rpc:=RCore.mono _ _ _ _ le99 rpc
 replace G:=G.mono le99
 replace rG_:=RGiven.mono le99 rG_
 replace hm:=hm.nf
 refine Qq he hm (fun a he =>?_) (o:=by exact fun _ _ _ he hs=>y_ineq false he rfl rfl rfl)
 replace hm:=hm.pl 1
 refine z0x call47 he hm (fun w hm a he =>?_) (c:=total_ok (l:=cl97) (by have h_:=hcl101;omega) hm)
 refine Sto 2 he hm fun w hm a he =>?_
 refine Sto 3 he hm fun w hm a he =>?_
 refine go he hm fun a he =>?_
 have hmr:=hm
 replace hm:=hm.dl [3,2,1,0]
 refine hQ _ _ _ (retcA2 (i:=3) (cs:=[.slice p104 (z7d c.outputs xs93).length c105,.int .i64 ((totalP cl97))]) he hmr.toSees results15 rfl rfl isAgg30 sizeOf30 rfl rfl ?_)
 have hr_:runP c l (((fu:Nat):Int))=(⟨z7d c.outputs xs93,((fu - g94:Nat):Int)⟩,((0:Nat):Int)):=by
  simp only [runP,if_neg (not_not_intro hlk36)]
  rw [if_neg (by omega),if_neg (by rw [hgv_];decide),Int.toNat_natCast,hq91] <;> rfl
 rw [hr_]
 exact ⟨(Ψ95,_),rfl,⟨((le34).trans le87).trans le99,⟨_,by rw [show (⟨z7d c.outputs xs93,((fu - g94:Nat):Int)⟩:Outcome).steps=totalP cl97 from htot100.symm],hsl102⟩,fun _ _ e_=>by cases e_;exact hnw103⟩,hm⟩
 have hc112:=endP_err hq91
 replace hm:=hm.nf
 refine z1n he hm fun a he =>?_
 refine Sto 0 he hm fun w hm a he =>?_
 refine go he hm fun a he =>?_
 have hmr:=hm
 replace hm:=hm.dl [0]
 refine hQ _ _ _ (retcA2 (i:=0) (cs:=[.slice none 0 0,.int .i64 ((0:Nat):Int)]) he hmr.toSees results15 rfl rfl isAgg30 sizeOf30 rfl rfl ?_)
 have hr_:runP c l (((fu:Nat):Int))=(out0,((q89:Nat):Int)):=by
  simp only [runP,if_neg (not_not_intro hlk36)]
  rw [if_neg (by omega),if_neg (by rw [hgv_];decide),Int.toNat_natCast,hq91] <;> rfl
 rw [hr_]
 exact ⟨(Ψ86,_),rfl,⟨(le34).trans le87,⟨_,rfl,SliceOf.nil 4⟩,fun _ _ e_=>by cases e_;exact NewRow.nil⟩,hm⟩
 refine z1n he hm fun a he =>?_
 refine Sto 1 he hm fun w hm a he =>?_
 refine go he hm fun a he =>?_
 have hmr:=hm
 replace hm:=hm.dl [3,2,1,0]
 refine hQ _ _ _ (retcA2 (i:=1) (cs:=[.slice none 0 0,.int .i64 ((0:Nat):Int)]) he hmr.toSees results15 rfl rfl isAgg30 sizeOf30 rfl rfl ?_)
 have hr_:runP c l (fuel)=(out0,8):=by
  simp only [runP,if_neg (not_not_intro hlk36)];rw [if_neg (by have h1_:=h45;have h2_:=h43;omega),if_pos (show givenP (z0i c) l c.inputs=false from hB48)] <;> rfl
 rw [hr_]
 exact ⟨(Ψ32,_),rfl,⟨le34,⟨_,rfl,SliceOf.nil 4⟩,fun _ _ e_=>by cases e_;exact NewRow.nil⟩,hm⟩
 rw [if_neg hlk36] at he
 refine Alc he hm fun b117 w hm a he =>?_
 refine Sto 0 he hm fun w hm a he =>?_
 refine z1n he hm fun a he =>?_
 refine Sto 1 he hm fun w hm a he =>?_
 refine go he hm fun a he =>?_
 have hmr:=hm
 replace hm:=hm.dl [3,2,1,0]
 refine hQ _ _ _ (retcA2 (i:=1) (cs:=[.slice none 0 0,.int .i64 ((0:Nat):Int)]) he hmr.toSees results15 rfl rfl isAgg30 sizeOf30 rfl rfl ?_)
 have hr_:runP c l (fuel)=(out0,z2c c):=by
  simp only [runP,if_pos hlk36]
 rw [hr_]
 exact ⟨(Ψ32,_),rfl,⟨le34,⟨_,rfl,SliceOf.nil 4⟩,fun _ _ e_=>by cases e_;exact NewRow.nil⟩,hm⟩
theorem runAll_ok {Φ:Fz} {K:List Res} {w:World} {d0:List Value} {v1:Value} {c:Core} {l:List Named} {fuel:Int} (rpc:RCore Φ d0 c) (rl:SliceOf RNamed Φ 4 v1 l) (G:Glob Φ) (hm:Mem Φ K w) :
  Calls Tryz.prog 15 (List.toArray [.agg d0.toArray,v1,.int .i64 fuel]) w (fun ee w'=>∃y:Fz×List Value,ee=.returned (.tuple (List.toArray [.agg y.2.toArray,.int .i64 (runP c l fuel).2]))∧(Φ.Le y.1∧ROutcome y.1 y.2 (runP c l fuel).1)∧Mem y.1 K w'):=by
 refine (runAllN_ok rpc rl G hm).mono fun ee w' h =>?_
 obtain ⟨y,h1,⟨h2,h3,_⟩,h4⟩:=h
 exact ⟨y,h1,⟨h2,h3⟩,h4⟩
end Go.Sw

namespace Go.Sw
open Go.Proofs.Tryz
open Go.Proofs
set_option maxRecDepth 20000
set_option maxHeartbeats 4000000
theorem called_step {Φ:Fz} {K:List Res} {w:World} {d:List Value} {e:Ex} {b:Nat} {ds:List Bs} (re:REx Φ d e) (ih:∀x:Ex,x.sz < e.sz→∀{Φ:Fz} {K:List Res} {w:World} {d:List Value} {b:Nat} {ds:List Bs},REx Φ d x→Mem Φ (.mp b (z3i ds)::K) w→Calls Tryz.prog 93 (List.toArray [.agg d.toArray,.map (some b)]) w (fun ee w'=>ee=.returned (.tuple #[])∧Mem Φ (.mp b (z3i (ds++z1v x))::K) w')) (hm:Mem Φ (.mp b (z3i ds)::K) w) :
  Calls Tryz.prog 93 (List.toArray [.agg d.toArray,.map (some b)]) w (fun ee w'=>ee=.returned (.tuple #[])∧Mem Φ (.mp b (z3i (ds++z1v e))::K) w'):=by
 obtain ⟨p3,c4,p9,c10,rfl,hi13,h2,h8,hm5,hn6,hm11,hn12⟩:=REx.fm re
 refine z0m func93 ntmps93 fun Q hQ a he =>?_
 refine Bx he hm fun b15 w hm a he =>?_
 refine go he hm fun a he =>?_
 by_cases h18:e.kind=5
 refine MapU 1 runUnderlying121 runUnderlying9 he hm fun w hm a he =>?_
 rw [← seenM_snoc] at hm
 refine go he hm fun a he =>?_
 refine z1l (he.ks [1,2,15,16]) hm (fun R mm a w=>∃(i:Nat) (d1:List Bs),mm=e.args.length - i∧R Φ [(17,.int .i64 ((i:Nat):Int))] [(1,.mp b (z3i d1))] a w∧(ds++z1v e=d1++(calledPs (e.args.drop i)++calledPa e.arms))) (e.args.length - 0) ⟨0,(ds++[e.name]),rfl,⟨he.pk,hm⟩,by rw [y0j];simp [*]⟩ ?_
 clear hm he
 rintro mm a w ⟨i,d1,hmu,⟨he,hm⟩,hI22⟩ L21 hL21
 replace hm:=hm.nf
 refine go he hm fun a he =>?_
 by_cases h24:i < e.args.length
 refine go he hm fun a he =>?_
 obtain ⟨q28,rfl,x29,hx30,cs31,hl32,ha33,hr34⟩:=h2.el hn6 h24
 obtain ⟨p37,c38,p43,c44,rfl,hi47,h36,h42,hm39,hn40,hm45,hn46⟩:=REx.fm hr34
 refine Alc he hm fun b48 w hm a he =>?_
 refine Sto 0 he hm fun w hm a he =>?_
 replace hm:=hm.pl 2
 refine z0x call93 he hm (fun w hm a he =>?_) (c:=ih _ (Ex.lt_args (List.mem_of_getElem? hx30)) hr34 hm)
 refine go he hm fun a he =>?_
 replace hm:=hm.ar [1] [1]
 refine hL21 _ _ _ (by subst hmu;omega) ⟨(i+1),((d1++z1v x29)),rfl,⟨he.pk,hm⟩,?_⟩
 rw [hI22,z0a hx30];simp [calledPs]
 refine go he hm fun a he =>?_
 refine z1l (he.ks [1,26,27]) hm (fun R mm a w=>∃(k:Nat) (d2:List Bs),mm=e.arms.length - k∧R Φ [(28,.int .i64 ((k:Nat):Int))] [(1,.mp b (z3i d2))] a w∧(ds++z1v e=d2++calledPa (e.arms.drop k))) (e.arms.length - 0) ⟨0,d1,rfl,⟨he.pk,hm⟩,by rw [hI22,z0g h24];simp [calledPs]⟩ ?_
 clear hm he
 rintro mm a w ⟨k,d2,hmu,⟨he,hm⟩,hI52⟩ L51 hL51
 replace hm:=hm.nf
 refine go he hm fun a he =>?_
 by_cases h54:k < e.arms.length
 refine go he hm fun a he =>?_
 obtain ⟨q58,rfl,x59,hx60,cs61,hl62,ha63,hr64⟩:=h8.el hn12 h54
 obtain ⟨s65,b71,rfl,h66,h72⟩:=RArm.iff.1 hr64
 obtain ⟨p67,c68,rfl,hm69,hn70⟩:=h66.fm
 obtain ⟨p75,c76,p81,c82,rfl,hi85,h74,h80,hm77,hn78,hm83,hn84⟩:=REx.fm h72
 refine Alc he hm fun b86 w hm a he =>?_
 refine Sto 0 he hm fun w hm a he =>?_
 replace hm:=hm.pl 2
 refine z0x call93 he hm (fun w hm a he =>?_) (c:=ih _ (Ex.lt_arms (List.mem_of_getElem? hx60)) h72 hm)
 refine go he hm fun a he =>?_
 replace hm:=hm.ar [1] [1]
 refine hL51 _ _ _ (by subst hmu;omega) ⟨(k+1),((d2++z1v x59.body)),rfl,⟨he.pk,hm⟩,?_⟩
 rw [hI52,z0a hx60,y1n];simp
 refine go he hm fun a he =>?_
 replace hm:=hm.dl [0]
 refine hQ _ _ _ (ret0N he results93 ?_)
 rw [show ds++z1v e=d2 by rw [hI52,z0g h54];simp [calledPa]]
 exact ⟨rfl,hm⟩
 refine go he hm fun a he =>?_
 refine z1l (he.ks [1,2,15,16]) hm (fun R mm a w=>∃(i:Nat) (d1:List Bs),mm=e.args.length - i∧R Φ [(17,.int .i64 ((i:Nat):Int))] [(1,.mp b (z3i d1))] a w∧(ds++z1v e=d1++(calledPs (e.args.drop i)++calledPa e.arms))) (e.args.length - 0) ⟨0,ds,rfl,⟨he.pk,hm⟩,by rw [y0j];simp [*]⟩ ?_
 clear hm he
 rintro mm a w ⟨i,d1,hmu,⟨he,hm⟩,hI91⟩ L90 hL90
 replace hm:=hm.nf
 refine go he hm fun a he =>?_
 by_cases h93:i < e.args.length
 refine go he hm fun a he =>?_
 obtain ⟨q97,rfl,x98,hx99,cs100,hl101,ha102,hr103⟩:=h2.el hn6 h93
 obtain ⟨p106,c107,p112,c113,rfl,hi116,h105,h111,hm108,hn109,hm114,hn115⟩:=REx.fm hr103
 refine Alc he hm fun b117 w hm a he =>?_
 refine Sto 0 he hm fun w hm a he =>?_
 replace hm:=hm.pl 2
 refine z0x call93 he hm (fun w hm a he =>?_) (c:=ih _ (Ex.lt_args (List.mem_of_getElem? hx99)) hr103 hm)
 refine go he hm fun a he =>?_
 replace hm:=hm.ar [1] [1]
 refine hL90 _ _ _ (by subst hmu;omega) ⟨(i+1),((d1++z1v x98)),rfl,⟨he.pk,hm⟩,?_⟩
 rw [hI91,z0a hx99];simp [calledPs]
 refine go he hm fun a he =>?_
 refine z1l (he.ks [1,26,27]) hm (fun R mm a w=>∃(k:Nat) (d2:List Bs),mm=e.arms.length - k∧R Φ [(28,.int .i64 ((k:Nat):Int))] [(1,.mp b (z3i d2))] a w∧(ds++z1v e=d2++calledPa (e.arms.drop k))) (e.arms.length - 0) ⟨0,d1,rfl,⟨he.pk,hm⟩,by rw [hI91,z0g h93];simp [calledPs]⟩ ?_
 clear hm he
 rintro mm a w ⟨k,d2,hmu,⟨he,hm⟩,hI121⟩ L120 hL120
 replace hm:=hm.nf
 refine go he hm fun a he =>?_
 by_cases h123:k < e.arms.length
 refine go he hm fun a he =>?_
 obtain ⟨q127,rfl,x128,hx129,cs130,hl131,ha132,hr133⟩:=h8.el hn12 h123
 obtain ⟨s134,b140,rfl,h135,h141⟩:=RArm.iff.1 hr133
 obtain ⟨p136,c137,rfl,hm138,hn139⟩:=h135.fm
 obtain ⟨p144,c145,p150,c151,rfl,hi154,h143,h149,hm146,hn147,hm152,hn153⟩:=REx.fm h141
 refine Alc he hm fun b155 w hm a he =>?_
 refine Sto 0 he hm fun w hm a he =>?_
 replace hm:=hm.pl 2
 refine z0x call93 he hm (fun w hm a he =>?_) (c:=ih _ (Ex.lt_arms (List.mem_of_getElem? hx129)) h141 hm)
 refine go he hm fun a he =>?_
 replace hm:=hm.ar [1] [1]
 refine hL120 _ _ _ (by subst hmu;omega) ⟨(k+1),((d2++z1v x128.body)),rfl,⟨he.pk,hm⟩,?_⟩
 rw [hI121,z0a hx129,y1n];simp
 refine go he hm fun a he =>?_
 replace hm:=hm.dl [0]
 refine hQ _ _ _ (ret0N he results93 ?_)
 rw [show ds++z1v e=d2 by rw [hI121,z0g h123];simp [calledPa]]
 exact ⟨rfl,hm⟩
theorem called_ok {Φ:Fz} {K:List Res} {w:World} {d:List Value} {e:Ex} {b:Nat} {ds:List Bs} (re:REx Φ d e) (hm:Mem Φ (.mp b (z3i ds)::K) w) :
  Calls Tryz.prog 93 (List.toArray [.agg d.toArray,.map (some b)]) w (fun ee w'=>ee=.returned (.tuple #[])∧Mem Φ (.mp b (z3i (ds++z1v e))::K) w'):=by
 suffices H:∀n (e:Ex),e.sz < n→∀{Φ:Fz} {K:List Res} {w:World} {d:List Value} {b:Nat} {ds:List Bs},REx Φ d e→Mem Φ (.mp b (z3i ds)::K) w →
   Calls Tryz.prog 93 (List.toArray [.agg d.toArray,.map (some b)]) w (fun ee w'=>ee=.returned (.tuple #[])∧Mem Φ (.mp b (z3i (ds++z1v e))::K) w') from H _ e (Nat.lt_succ_self _) re hm
 intro n
 induction n with
 | zero=>intro e h;omega
 | succ n ih=>intro e h Φ K w d b ds re hm;exact called_step re (fun x hx _ _ _ _ _ _ r m=>ih x (by omega) r m) hm
end Go.Sw
