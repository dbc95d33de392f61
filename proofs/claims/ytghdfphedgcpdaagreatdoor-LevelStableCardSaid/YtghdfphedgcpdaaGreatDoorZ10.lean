import Derived.Test.YtghdfphedgcpdaaGreatDoorProg
import Derived.Laws.IdiomRangeMap
import Derived.Lib.AppendStr
import Derived.Lib.UnsafeStr
import Derived.Shelf.Strings.Builder1
import Derived.Lib.MakeNoZero
import Derived.Laws.IdiomStrings
import Derived.Scope
import Derived.Laws.RangeAny
import Derived.Laws.Runes
import Derived.OrdersIn
import Derived.Test.YtghdfphedgcpdaaGreatDoorZ01
import Derived.Test.YtghdfphedgcpdaaGreatDoorZ02
import Derived.Test.YtghdfphedgcpdaaGreatDoorZ03
import Derived.Test.YtghdfphedgcpdaaGreatDoorZ04
import Derived.Test.YtghdfphedgcpdaaGreatDoorZ06
import Derived.Test.YtghdfphedgcpdaaGreatDoorZ07
import Derived.Test.YtghdfphedgcpdaaGreatDoorZ09
set_option linter.unusedVariables false
set_option linter.unusedSimpArgs false
namespace Go.Sw
open Go.Proofs.Tryz
open Go.Proofs
set_option maxRecDepth 20000
set_option maxHeartbeats 4000000
theorem run1_ok {Φ:Fz} {K:List Res} {w:World} {p:Addr} {T:Table} {d0:List Value} {c:Core} {mg:Value} {inp:List (Bs×Val)} {fuel b0 b1 b2 b3 b4 b5 b6:Nat} (rpc:RCore Φ d0 c) (rpT:RTable Φ p T) (rG:RGiven Φ mg inp) (hF:z3o T) (hlen:c.outputs.length≤1000) (hfu:fuel≤1000000)
  (hns:vB ⟨T.funs,inp⟩ c.outputs fuel≠.stuck) (hm:Mem Φ (.blk b0 (ob d0 27)::.blk b1 (ob [.pointer (some p)] 96)::.blk b2 (ob [mg] 100)::.blk b3 (ob [.int .i64 ((fuel:Nat):Int)] 3)::.blk b4 (ob [.slice none 0 0] 84)::.blk b5 (ob [.slice none 0 0] 56)::.blk b6 (ob [.slice none 0 0,.int .i64 ((0:Nat):Int)] 53)::K) w) :
  Calls prog 56 (List.toArray [.pointer (some ⟨b0,0,none⟩),.pointer (some ⟨b1,0,none⟩),.pointer (some ⟨b2,0,none⟩),.pointer (some ⟨b3,0,none⟩),.pointer (some ⟨b4,0,none⟩),.pointer (some ⟨b5,0,none⟩),.pointer (some ⟨b6,0,none⟩)]) w (fun e w'=>Out (z4a (vB ⟨T.funs,inp⟩ c.outputs fuel))
   (fun x=>∃y:Fz×Value×List Int×Value,e=.returned (.int .i64 ((0:Nat):Int))∧(Φ.Le y.1∧aK y.2.2.1=((fuel - x.2:Nat):Int)∧y.2.2.1.length≤1000∧SliceOf RNamed y.1 4 y.2.2.2 (kH c.outputs x.1)∧NewRow Φ y.2.2.2)∧Mem y.1 (.blk b4 (ob [y.2.1] 84)::.gs y.2.1 3 1 (uY y.2.2.1)::.blk b6 (ob [y.2.2.2,.int .i64 ((0:Nat):Int)] 53)::K) w')
   (fun c=>(e=.returned (.int .i64 ((c:Nat):Int))∨c=4∧e=.panicked (sB ()))∧Mem Φ K w')):=by
 obtain ⟨p3,c4,p9,c10,p15,c16,p21,c22,rfl,h2,h8,h14,h20,hm5,hn6,hm11,hn12,hm17,hn18,hm23,hn24⟩:=RCore.fm rpc
 obtain ⟨cs41,m25,m26,m27,m28,d29,d30,d31,d32,hat42,hcl43,hcore44,ma33,mr37,ma34,mr38,ma35,mr39,ma36,mr40⟩:=rpT.ex
 obtain ⟨p47,c48,p53,c54,p59,c60,p65,c66,rfl,h46,h52,h58,h64,hm49,hn50,hm55,hn56,hm61,hn62,hm67,hn68⟩:=RCore.fm hcore44
 have hrow0_:=hm
 clear hrow0_
 refine zL func56 ntmps56 fun Q hQ a he =>?_
 refine go fun a he =>?_
 replace hm:=hm.nilRow 3 1
 replace hm:=hm.nf
 replace hm:=hm.nilRow 58 3
 replace hm:=hm.nf
 refine go fun a he =>?_
 refine yF (he.ks [0,1,2,3,4,5,6,16,17]) hm (fun R mm a w=>∃(Ψ72:Fz) (i:Nat) (u:Value) (cl:List Int) (uv:Value) (cs:List Value) (xs:List Val) (g1:Nat),mm=c.outputs.length - i∧R Ψ72 [(18,.int .i64 ((i:Nat):Int))] [(0,.gs (uv) 58 3 cs),(1,.gs (u) 3 1 (uY cl)),(6,.blk b4 (ob [u] 84)),(7,.blk b5 (ob [uv] 56))] a w∧(Φ.Le Ψ72∧(Chunks (RVal Ψ72) 3 cs xs∧xs.length=i∧i≤c.outputs.length∧g1≤fuel∧cl.length=i∧aK cl=((fuel - g1:Nat):Int)∧vB ⟨T.funs,inp⟩ c.outputs fuel=(vB ⟨T.funs,inp⟩ (c.outputs.drop i) g1).bind fun vs g2=>.ok (xs++vs) g2))) (c.outputs.length - 0) ⟨Φ,0,.slice none 0 0,[],.slice none 0 0,[],[],fuel,rfl,⟨he.pk,hm⟩,⟨Fz.Le.refl _,⟨rfl,rfl,Nat.zero_le _,Nat.le_refl _,rfl,by simp [aK],q8r _⟩⟩⟩ ?_
 clear hm he
 rintro mm a w ⟨Ψ72,i,u,cl,uv,cs,xs,g1,hmu,⟨he,hm⟩,hI75⟩ L74 hL74
 replace hm:=hm.nf
 obtain ⟨le73,hI75⟩:=hI75
 replace h20:=h20.up le73
 replace rpc:=RCore.mono _ _ _ _ le73 rpc
 replace rpT:=rpT.mono le73
 replace rG:=RGiven.mono le73 rG
 replace hat42:=hat42.mono le73
 replace ma35:=ma35.mono le73
 replace mr39:=mr39.up le73
 obtain ⟨hch,hxl,hil,hg1,hcl,htot,hI_⟩:=hI75
 by_cases h77:i < c.outputs.length
 refine go fun a he =>?_
 obtain ⟨q81,rfl,x82,hx83,cs84,hl85,ha86,hr87⟩:=h20.el hn24 h77
 obtain rfl:cs84=[.string x82]:=hr87
 refine Alc fun b89 w hm a he =>?_
 refine Sto 0 fun w hm a he =>?_
 refine go fun a he =>?_
 refine qB [2,2,2,2,0,1,1,0,0] (.q 0 (.q 1 (.q 2 (.q 3 (.e2 4 7 (.q 5 (.q 6 (.e 7 (.e 8 (.done))))) (.e 4 (.q 5 (.q 6 (.e 8 (.done)))))))))) [0,1,3,4,5,6,7,8,9] he hm fun w hm =>?_
 refine go fun a he =>?_
 refine vQ ?_ ?_
 replace hm:=hm.pl 2
 refine zZ call57 (fun w hm a he =>?_) (c:=y2s (l:=cl) (by omega) hm)
 refine Qq (fun a he =>?_) (o:=by exact fun he hs=>pY ((g1:Nat):Int) he rfl rfl (by rw [htot,yX (by omega)];omega))
 refine Qq (fun a he =>?_) (o:=by exact fun he hs=>aY (vs:=[(0,.pointer (some p)),(1,mg),(2,.pointer (some ⟨b89,0,none⟩)),(3,.int .i64 ((g1:Nat):Int))]) (cs:=[.pointer (some p),mg,.pointer (some ⟨b89,0,none⟩),.int .i64 ((g1:Nat):Int)]) he rfl (by rcases rG with ⟨_,_,h_,_⟩ | ⟨h_,_⟩ <;> rw [h_] <;> kernel_rfl))
 refine Alc fun b91 w hm a he =>?_
 refine vM he rfl rfl (zP 0 (cs:=[.pointer none,.map none,.pointer none,.int .i64 ((0:Nat):Int)]) (vs:=[.pointer (some p),mg,.pointer (some ⟨b89,0,none⟩),.int .i64 ((g1:Nat):Int)]) he hm rfl rfl rfl rfl sizeOf105 rfl (by simp only [List.all_cons,RGiven.one rG];rfl) rfl fun w hm=>⟨zY (by kernel_rfl),fun a he =>?_⟩)
 replace hm:=hm.nf
 refine go fun a he =>?_
 refine qB [2,2,1,1,2,1,2,0,0,0] (.q 0 (.q 1 (.q 2 (.q 3 (.q 4 (.q 5 (.q 6 (.e2 7 8 (.e 8 (.e 9 (.done))) (.e 7 (.e 9 (.done))))))))))) [0,1,3,4,5,6,7,8,9,10] he hm fun w hm =>?_
 replace hm:Mem Ψ72 (.blk b91 (ob [.pointer (some p),mg,.pointer (some ⟨b89,0,none⟩),.int .i64 ((g1:Nat):Int)] 105)::.gs (u) 3 1 (uY cl)::.blk b89 (ob [.int .i64 ((g1 - g1:Nat):Int)] 3)::.gs (uv) 58 3 cs::.blk b0 (ob [.slice p3 c.datas.length c4,.slice p9 c.inputs.length c10,.slice p15 c.funs.length c16,.slice (some q81) c.outputs.length c22] 27)::.blk b1 (ob [.pointer (some p)] 96)::.blk b2 (ob [mg] 100)::.blk b3 (ob [.int .i64 ((fuel:Nat):Int)] 3)::.blk b4 (ob [u] 84)::.blk b5 (ob [uv] 56)::.blk b6 (ob [.slice none 0 0,.int .i64 ((0:Nat):Int)] 53)::K) w:=by rw [Nat.sub_self];exact hm
 refine go fun a he =>?_
 rcases hf93:yA (d31) x82 with _ | vf94
 exact absurd (by rw [hI_,zA hx83,y1h (MapRel.none mr39 hf93)];rfl) hns
 obtain ⟨y95,hy96,cs97,rfl,hr98⟩:=mr39.get hf93
 obtain ⟨s99,b105,rfl,h100,h106⟩:=id hr98
 obtain ⟨p101,c102,rfl,hm103,hn104⟩:=h100.fm
 obtain ⟨p109,c110,p115,c116,rfl,hi119,h108,h114,hm111,hn112,hm117,hn118⟩:=REx.fm h106
 have hf93_:=congrArg (zF false (.agg (List.toArray [.string ⟨#[]⟩,.slice none 0 0,.string ⟨#[]⟩,.int .i64 ((0:Nat):Int),.int .i64 ((0:Nat):Int),.string ⟨#[]⟩,.slice none 0 0,.slice none 0 0]))) hf93
 refine Qq (fun a he =>?_) (o:=by exact fun he hs=>Ok.cast (yD runUnderlying115 runUnderlying9 zeroValue112 he hs rfl rfl ma35) (show zF false (.agg (List.toArray [.string ⟨#[]⟩,.slice none 0 0,.string ⟨#[]⟩,.int .i64 ((0:Nat):Int),.int .i64 ((0:Nat):Int),.string ⟨#[]⟩,.slice none 0 0,.slice none 0 0])) (yA (d31) x82)=.agg (List.toArray [.string y95.name,.slice p101 y95.params.length c102,.string y95.result,.int .i64 (y95.body.kind),.int .i64 (y95.body.num),.string y95.body.name,.slice p109 y95.body.args.length c110,.slice p115 y95.body.arms.length c116]) from hf93_))
 refine vQ ?_ ?_
 have hnx120:=hns
 rw [hI_,zA hx83,cC hy96] at hnx120
 replace hnx120:=jT (r:=pI (jJ ⟨T.funs,inp⟩) y95 [] g1) (jT hnx120)
 replace hm:=hm.pl 2
 refine xW call58 (fun q121 y122 w hq123 hG124 hm a he =>?_) (fun q121 w hq123 hm =>?_) (c:=z1o hF g1 rpT rG hr98 (SliceOf.nil 3) (hF _ _ hy96).1 (hF _ _ hy96).2 (Nat.le_refl _) (by omega) hnx120 hm)
 obtain ⟨z125,g126⟩:=q121
 obtain ⟨Ψ127,d128⟩:=y122
 obtain ⟨le129,hr130⟩:=hG124
 have hv131:=wJ hq123
 simp only at le129 hr130 hm he hv131
 have hlt132:=z1p hv131
 replace h20:=h20.up le129
 replace rpc:=RCore.mono _ _ _ _ le129 rpc
 replace rpT:=rpT.mono le129
 replace rG:=RGiven.mono le129 rG
 replace hat42:=hat42.mono le129
 replace ma35:=ma35.mono le129
 replace mr39:=mr39.up le129
 replace hch:=hch.mono fun _ _ h=>RVal.mono _ _ _ _ le129 h
 replace ha86:=ha86.mono le129
 replace hr98:=RFun.mono _ _ _ _ le129 hr98
 replace h106:=REx.mono _ _ _ _ le129 h106
 replace hm:=hm.nf
 obtain ⟨p135,c136,rfl,hi139,h134,hm137,hn138⟩:=RVal.fm hr130
 refine Alc fun b140 w hm a he =>?_
 refine Sto 0 fun w hm a he =>?_
 refine go fun a he =>?_
 refine qB [2,2,0,0,2,0,0,0,0,0] (.q 0 (.q 1 (.q 4 (.e2 2 5 (.e2 3 5 (.e 5 (.e 6 (.e 7 (.e 8 (.e 9 (.done)))))) (.e2 3 6 (.e 6 (.e 7 (.e 8 (.e 9 (.done))))) (.e 3 (.e 7 (.e 8 (.e 9 (.done))))))) (.e2 2 6 (.e2 3 6 (.e 6 (.e 7 (.e 8 (.e 9 (.done))))) (.e 3 (.e 7 (.e 8 (.e 9 (.done)))))) (.e 2 (.e 3 (.e 7 (.e 8 (.e 9 (.done))))))))))) [0,1,2,5,6,7,8,9,10,11] he hm fun w hm =>?_
 refine go fun a he =>?_
 refine vQ ?_ ?_
 refine qW fun v141 w hm a he =>?_
 refine vQ ?_ ?_
 refine qL 4 wO (fun v142 w hm a he =>?_)
 rw [← qE] at hm
 refine d_e he rfl rfl rfl (vN (yU 1 (vs:=[.string z125.con,.int .i64 (z125.num),.slice p135 z125.args.length c136]) he hm.toSees rfl rfl isAgg58 sizeOf58 rfl rfl) ⟨fun _=>hm.sn (Fz.Le.refl _),fun a he =>?_⟩)
 refine qW fun v143 w hm a he =>?_
 refine qL 6 kQ (fun v144 w hm a he =>?_)
 refine Sto 11 fun w hm a he =>?_
 refine Sto 12 fun w hm a he =>?_
 refine go fun a he =>?_
 replace hm:=hm.ar [4,3,2,1,0] [8,8,8,8,8,8,8,7,8]
 refine hL74 _ _ _ (by subst hmu;omega) ⟨(Ψ127),(i+1),(v142),((cl++[((g1 - g126:Nat):Int)])),(v144),((cs++[.string z125.con,.int .i64 (z125.num),.slice p135 z125.args.length c136])),(xs++[z125]),(g126),rfl,⟨he.pk,by exact hm⟩,?_⟩
 refine ⟨(le73).trans le129,?_⟩
 refine ⟨hch.snoc rfl hr130,by simp [hxl],by omega,by omega,by simp [hcl],?_,?_⟩
 rw [yI,htot,yX (by omega)];omega
 rw [hI_,zA hx83]
 exact yE hy96 hv131
 refine d_e he rfl rfl rfl (vN (yU 1 (vs:=[.string z125.con,.int .i64 (z125.num),.slice p135 z125.args.length c136]) he hm.toSees rfl rfl isAgg58 sizeOf58 rfl rfl) ⟨fun _=>hm.sn (Fz.Le.refl _),fun a he =>?_⟩)
 refine vQ ?_ ?_
 refine qL 4 wO (fun v145 w hm a he =>?_)
 rw [← qE] at hm
 refine qW fun v146 w hm a he =>?_
 refine qL 6 kQ (fun v147 w hm a he =>?_)
 refine Sto 11 fun w hm a he =>?_
 refine Sto 12 fun w hm a he =>?_
 refine go fun a he =>?_
 replace hm:=hm.ar [4,3,2,1,0] [8,8,8,8,8,8,8,7,8]
 refine hL74 _ _ _ (by subst hmu;omega) ⟨(Ψ127),(i+1),(v145),((cl++[((g1 - g126:Nat):Int)])),(v147),((cs++[.string z125.con,.int .i64 (z125.num),.slice p135 z125.args.length c136])),(xs++[z125]),(g126),rfl,⟨he.pk,by exact hm⟩,?_⟩
 refine ⟨(le73).trans le129,?_⟩
 refine ⟨hch.snoc rfl hr130,by simp [hxl],by omega,by omega,by simp [hcl],?_,?_⟩
 rw [yI,htot,yX (by omega)];omega
 rw [hI_,zA hx83]
 exact yE hy96 hv131
 refine qW fun v148 w hm a he =>?_
 refine qL 5 wO (fun v149 w hm a he =>?_)
 rw [← qE] at hm
 refine qL 6 kQ (fun v150 w hm a he =>?_)
 refine Sto 11 fun w hm a he =>?_
 refine Sto 12 fun w hm a he =>?_
 refine go fun a he =>?_
 replace hm:=hm.ar [4,3,2,1,0] [8,8,8,8,8,8,8,7,8]
 refine hL74 _ _ _ (by subst hmu;omega) ⟨(Ψ127),(i+1),(v149),((cl++[((g1 - g126:Nat):Int)])),(v150),((cs++[.string z125.con,.int .i64 (z125.num),.slice p135 z125.args.length c136])),(xs++[z125]),(g126),rfl,⟨he.pk,by exact hm⟩,?_⟩
 refine ⟨(le73).trans le129,?_⟩
 refine ⟨hch.snoc rfl hr130,by simp [hxl],by omega,by omega,by simp [hcl],?_,?_⟩
 rw [yI,htot,yX (by omega)];omega
 rw [hI_,zA hx83]
 exact yE hy96 hv131
 refine d_e he rfl rfl rfl (vN (yU 0 (vs:=[.string z125.con,.int .i64 (z125.num),.slice p135 z125.args.length c136]) he hm.toSees rfl rfl isAgg58 sizeOf58 rfl rfl) ⟨fun _=>hm.sn (Fz.Le.refl _),fun a he =>?_⟩)
 refine vQ ?_ ?_
 refine qW fun v151 w hm a he =>?_
 refine vQ ?_ ?_
 refine qL 4 wO (fun v152 w hm a he =>?_)
 rw [← qE] at hm
 refine qW fun v153 w hm a he =>?_
 refine qL 6 kQ (fun v154 w hm a he =>?_)
 refine Sto 11 fun w hm a he =>?_
 refine Sto 12 fun w hm a he =>?_
 refine go fun a he =>?_
 replace hm:=hm.ar [4,3,2,1,0] [8,8,8,8,8,8,8,7,8]
 refine hL74 _ _ _ (by subst hmu;omega) ⟨(Ψ127),(i+1),(v152),((cl++[((g1 - g126:Nat):Int)])),(v154),((cs++[.string z125.con,.int .i64 (z125.num),.slice p135 z125.args.length c136])),(xs++[z125]),(g126),rfl,⟨he.pk,by exact hm⟩,?_⟩
 refine ⟨(le73).trans le129,?_⟩
 refine ⟨hch.snoc rfl hr130,by simp [hxl],by omega,by omega,by simp [hcl],?_,?_⟩
 rw [yI,htot,yX (by omega)];omega
 rw [hI_,zA hx83]
 exact yE hy96 hv131
 refine qW fun v155 w hm a he =>?_
 refine qL 5 wO (fun v156 w hm a he =>?_)
 rw [← qE] at hm
 refine qL 6 kQ (fun v157 w hm a he =>?_)
 refine Sto 11 fun w hm a he =>?_
 refine Sto 12 fun w hm a he =>?_
 refine go fun a he =>?_
 replace hm:=hm.ar [4,3,2,1,0] [8,8,8,8,8,8,8,7,8]
 refine hL74 _ _ _ (by subst hmu;omega) ⟨(Ψ127),(i+1),(v156),((cl++[((g1 - g126:Nat):Int)])),(v157),((cs++[.string z125.con,.int .i64 (z125.num),.slice p135 z125.args.length c136])),(xs++[z125]),(g126),rfl,⟨he.pk,by exact hm⟩,?_⟩
 refine ⟨(le73).trans le129,?_⟩
 refine ⟨hch.snoc rfl hr130,by simp [hxl],by omega,by omega,by simp [hcl],?_,?_⟩
 rw [yI,htot,yX (by omega)];omega
 rw [hI_,zA hx83]
 exact yE hy96 hv131
 refine qW fun v158 w hm a he =>?_
 refine qW fun v159 w hm a he =>?_
 refine qL 5 wO (fun v160 w hm a he =>?_)
 rw [← qE] at hm
 refine qL 6 kQ (fun v161 w hm a he =>?_)
 refine Sto 11 fun w hm a he =>?_
 refine Sto 12 fun w hm a he =>?_
 refine go fun a he =>?_
 replace hm:=hm.ar [4,3,2,1,0] [8,8,8,8,8,8,8,7,8]
 refine hL74 _ _ _ (by subst hmu;omega) ⟨(Ψ127),(i+1),(v160),((cl++[((g1 - g126:Nat):Int)])),(v161),((cs++[.string z125.con,.int .i64 (z125.num),.slice p135 z125.args.length c136])),(xs++[z125]),(g126),rfl,⟨he.pk,by exact hm⟩,?_⟩
 refine ⟨(le73).trans le129,?_⟩
 refine ⟨hch.snoc rfl hr130,by simp [hxl],by omega,by omega,by simp [hcl],?_,?_⟩
 rw [yI,htot,yX (by omega)];omega
 rw [hI_,zA hx83]
 exact yE hy96 hv131
 have hsp162:=vK hq123 hnx120
 replace hm:=hm.dl [10,9,8,7,6,5,4,3,2,1,0]
 exact z1v (oK (by rw [hI_,zA hx83];exact aV hy96 hsp162)) ⟨.inr ⟨rfl,rfl⟩,hm.le (le73)⟩
 refine Alc fun b163 w hm a he =>?_
 have hnx164:=hns
 rw [hI_,zA hx83,cC hy96] at hnx164
 replace hnx164:=jT (r:=pI (jJ ⟨T.funs,inp⟩) y95 [] g1) (jT hnx164)
 replace hm:=hm.pl 3
 refine xW call58 (fun q165 y166 w hq167 hG168 hm a he =>?_) (fun q165 w hq167 hm =>?_) (c:=z1o hF g1 rpT rG hr98 (SliceOf.nil 3) (hF _ _ hy96).1 (hF _ _ hy96).2 (Nat.le_refl _) (by omega) hnx164 hm)
 obtain ⟨z169,g170⟩:=q165
 obtain ⟨Ψ171,d172⟩:=y166
 obtain ⟨le173,hr174⟩:=hG168
 have hv175:=wJ hq167
 simp only at le173 hr174 hm he hv175
 have hlt176:=z1p hv175
 replace h20:=h20.up le173
 replace rpc:=RCore.mono _ _ _ _ le173 rpc
 replace rpT:=rpT.mono le173
 replace rG:=RGiven.mono le173 rG
 replace hat42:=hat42.mono le173
 replace ma35:=ma35.mono le173
 replace mr39:=mr39.up le173
 replace hch:=hch.mono fun _ _ h=>RVal.mono _ _ _ _ le173 h
 replace ha86:=ha86.mono le173
 replace hr98:=RFun.mono _ _ _ _ le173 hr98
 replace h106:=REx.mono _ _ _ _ le173 h106
 replace hm:=hm.nf
 obtain ⟨p179,c180,rfl,hi183,h178,hm181,hn182⟩:=RVal.fm hr174
 refine Sto 1 fun w hm a he =>?_
 refine go fun a he =>?_
 refine qB [2,2,0,0,2,0,0,0,0,0] (.q 0 (.q 1 (.q 4 (.e2 2 5 (.e2 3 5 (.e 5 (.e 6 (.e 7 (.e 8 (.e 9 (.done)))))) (.e2 3 6 (.e 6 (.e 7 (.e 8 (.e 9 (.done))))) (.e 3 (.e 7 (.e 8 (.e 9 (.done))))))) (.e2 2 6 (.e2 3 6 (.e 6 (.e 7 (.e 8 (.e 9 (.done))))) (.e 3 (.e 7 (.e 8 (.e 9 (.done)))))) (.e 2 (.e 3 (.e 7 (.e 8 (.e 9 (.done))))))))))) [0,1,2,5,6,7,8,9,10,11] he hm fun w hm =>?_
 refine go fun a he =>?_
 refine vQ ?_ ?_
 refine qW fun v184 w hm a he =>?_
 refine vQ ?_ ?_
 refine qL 4 wO (fun v185 w hm a he =>?_)
 rw [← qE] at hm
 refine d_e he rfl rfl rfl (vN (yU 2 (vs:=[.string z169.con,.int .i64 (z169.num),.slice p179 z169.args.length c180]) he hm.toSees rfl rfl isAgg58 sizeOf58 rfl rfl) ⟨fun _=>hm.sn (Fz.Le.refl _),fun a he =>?_⟩)
 refine qW fun v186 w hm a he =>?_
 refine qL 6 kQ (fun v187 w hm a he =>?_)
 refine Sto 11 fun w hm a he =>?_
 refine Sto 12 fun w hm a he =>?_
 refine go fun a he =>?_
 replace hm:=hm.ar [4,3,2,1,0] [8,8,8,8,8,8,8,7,8]
 refine hL74 _ _ _ (by subst hmu;omega) ⟨(Ψ171),(i+1),(v185),((cl++[((g1 - g170:Nat):Int)])),(v187),((cs++[.string z169.con,.int .i64 (z169.num),.slice p179 z169.args.length c180])),(xs++[z169]),(g170),rfl,⟨he.pk,by exact hm⟩,?_⟩
 refine ⟨(le73).trans le173,?_⟩
 refine ⟨hch.snoc rfl hr174,by simp [hxl],by omega,by omega,by simp [hcl],?_,?_⟩
 rw [yI,htot,yX (by omega)];omega
 rw [hI_,zA hx83]
 exact yE hy96 hv175
 refine d_e he rfl rfl rfl (vN (yU 2 (vs:=[.string z169.con,.int .i64 (z169.num),.slice p179 z169.args.length c180]) he hm.toSees rfl rfl isAgg58 sizeOf58 rfl rfl) ⟨fun _=>hm.sn (Fz.Le.refl _),fun a he =>?_⟩)
 refine vQ ?_ ?_
 refine qL 4 wO (fun v188 w hm a he =>?_)
 rw [← qE] at hm
 refine qW fun v189 w hm a he =>?_
 refine qL 6 kQ (fun v190 w hm a he =>?_)
 refine Sto 11 fun w hm a he =>?_
 refine Sto 12 fun w hm a he =>?_
 refine go fun a he =>?_
 replace hm:=hm.ar [4,3,2,1,0] [8,8,8,8,8,8,8,7,8]
 refine hL74 _ _ _ (by subst hmu;omega) ⟨(Ψ171),(i+1),(v188),((cl++[((g1 - g170:Nat):Int)])),(v190),((cs++[.string z169.con,.int .i64 (z169.num),.slice p179 z169.args.length c180])),(xs++[z169]),(g170),rfl,⟨he.pk,by exact hm⟩,?_⟩
 refine ⟨(le73).trans le173,?_⟩
 refine ⟨hch.snoc rfl hr174,by simp [hxl],by omega,by omega,by simp [hcl],?_,?_⟩
 rw [yI,htot,yX (by omega)];omega
 rw [hI_,zA hx83]
 exact yE hy96 hv175
 refine qW fun v191 w hm a he =>?_
 refine qL 5 wO (fun v192 w hm a he =>?_)
 rw [← qE] at hm
 refine qL 6 kQ (fun v193 w hm a he =>?_)
 refine Sto 11 fun w hm a he =>?_
 refine Sto 12 fun w hm a he =>?_
 refine go fun a he =>?_
 replace hm:=hm.ar [4,3,2,1,0] [8,8,8,8,8,8,8,7,8]
 refine hL74 _ _ _ (by subst hmu;omega) ⟨(Ψ171),(i+1),(v192),((cl++[((g1 - g170:Nat):Int)])),(v193),((cs++[.string z169.con,.int .i64 (z169.num),.slice p179 z169.args.length c180])),(xs++[z169]),(g170),rfl,⟨he.pk,by exact hm⟩,?_⟩
 refine ⟨(le73).trans le173,?_⟩
 refine ⟨hch.snoc rfl hr174,by simp [hxl],by omega,by omega,by simp [hcl],?_,?_⟩
 rw [yI,htot,yX (by omega)];omega
 rw [hI_,zA hx83]
 exact yE hy96 hv175
 refine d_e he rfl rfl rfl (vN (yU 1 (vs:=[.string z169.con,.int .i64 (z169.num),.slice p179 z169.args.length c180]) he hm.toSees rfl rfl isAgg58 sizeOf58 rfl rfl) ⟨fun _=>hm.sn (Fz.Le.refl _),fun a he =>?_⟩)
 refine vQ ?_ ?_
 refine qW fun v194 w hm a he =>?_
 refine vQ ?_ ?_
 refine qL 4 wO (fun v195 w hm a he =>?_)
 rw [← qE] at hm
 refine qW fun v196 w hm a he =>?_
 refine qL 6 kQ (fun v197 w hm a he =>?_)
 refine Sto 11 fun w hm a he =>?_
 refine Sto 12 fun w hm a he =>?_
 refine go fun a he =>?_
 replace hm:=hm.ar [4,3,2,1,0] [8,8,8,8,8,8,8,7,8]
 refine hL74 _ _ _ (by subst hmu;omega) ⟨(Ψ171),(i+1),(v195),((cl++[((g1 - g170:Nat):Int)])),(v197),((cs++[.string z169.con,.int .i64 (z169.num),.slice p179 z169.args.length c180])),(xs++[z169]),(g170),rfl,⟨he.pk,by exact hm⟩,?_⟩
 refine ⟨(le73).trans le173,?_⟩
 refine ⟨hch.snoc rfl hr174,by simp [hxl],by omega,by omega,by simp [hcl],?_,?_⟩
 rw [yI,htot,yX (by omega)];omega
 rw [hI_,zA hx83]
 exact yE hy96 hv175
 refine qW fun v198 w hm a he =>?_
 refine qL 5 wO (fun v199 w hm a he =>?_)
 rw [← qE] at hm
 refine qL 6 kQ (fun v200 w hm a he =>?_)
 refine Sto 11 fun w hm a he =>?_
 refine Sto 12 fun w hm a he =>?_
 refine go fun a he =>?_
 replace hm:=hm.ar [4,3,2,1,0] [8,8,8,8,8,8,8,7,8]
 refine hL74 _ _ _ (by subst hmu;omega) ⟨(Ψ171),(i+1),(v199),((cl++[((g1 - g170:Nat):Int)])),(v200),((cs++[.string z169.con,.int .i64 (z169.num),.slice p179 z169.args.length c180])),(xs++[z169]),(g170),rfl,⟨he.pk,by exact hm⟩,?_⟩
 refine ⟨(le73).trans le173,?_⟩
 refine ⟨hch.snoc rfl hr174,by simp [hxl],by omega,by omega,by simp [hcl],?_,?_⟩
 rw [yI,htot,yX (by omega)];omega
 rw [hI_,zA hx83]
 exact yE hy96 hv175
 refine qW fun v201 w hm a he =>?_
 refine qW fun v202 w hm a he =>?_
 refine qL 5 wO (fun v203 w hm a he =>?_)
 rw [← qE] at hm
 refine qL 6 kQ (fun v204 w hm a he =>?_)
 refine Sto 11 fun w hm a he =>?_
 refine Sto 12 fun w hm a he =>?_
 refine go fun a he =>?_
 replace hm:=hm.ar [4,3,2,1,0] [8,8,8,8,8,8,8,7,8]
 refine hL74 _ _ _ (by subst hmu;omega) ⟨(Ψ171),(i+1),(v203),((cl++[((g1 - g170:Nat):Int)])),(v204),((cs++[.string z169.con,.int .i64 (z169.num),.slice p179 z169.args.length c180])),(xs++[z169]),(g170),rfl,⟨he.pk,by exact hm⟩,?_⟩
 refine ⟨(le73).trans le173,?_⟩
 refine ⟨hch.snoc rfl hr174,by simp [hxl],by omega,by omega,by simp [hcl],?_,?_⟩
 rw [yI,htot,yX (by omega)];omega
 rw [hI_,zA hx83]
 exact yE hy96 hv175
 have hsp205:=vK hq167 hnx164
 replace hm:=hm.dl [11,10,9,8,7,6,5,4,3,2,1,0]
 exact z1v (oK (by rw [hI_,zA hx83];exact aV hy96 hsp205)) ⟨.inr ⟨rfl,rfl⟩,hm.le (le73)⟩
 refine Alc fun b206 w hm a he =>?_
 replace hm:=hm.pl 3
 refine zZ call57 (fun w hm a he =>?_) (c:=y2s (l:=cl) (by omega) hm)
 refine Qq (fun a he =>?_) (o:=by exact fun he hs=>pY ((g1:Nat):Int) he rfl rfl (by rw [htot,yX (by omega)];omega))
 refine Qq (fun a he =>?_) (o:=by exact fun he hs=>aY (vs:=[(0,.pointer (some p)),(1,mg),(2,.pointer (some ⟨b89,0,none⟩)),(3,.int .i64 ((g1:Nat):Int))]) (cs:=[.pointer (some p),mg,.pointer (some ⟨b89,0,none⟩),.int .i64 ((g1:Nat):Int)]) he rfl (by rcases rG with ⟨_,_,h_,_⟩ | ⟨h_,_⟩ <;> rw [h_] <;> kernel_rfl))
 refine vM he rfl rfl (zP 1 (cs:=[.pointer none,.map none,.pointer none,.int .i64 ((0:Nat):Int)]) (vs:=[.pointer (some p),mg,.pointer (some ⟨b89,0,none⟩),.int .i64 ((g1:Nat):Int)]) he hm rfl rfl rfl rfl sizeOf105 rfl (by simp only [List.all_cons,RGiven.one rG];rfl) rfl fun w hm=>⟨zY (by kernel_rfl),fun a he =>?_⟩)
 replace hm:=hm.nf
 refine go fun a he =>?_
 refine qB [2,2,1,1,2,1,2,0,0,0] (.q 0 (.q 1 (.q 2 (.q 3 (.q 4 (.q 5 (.q 6 (.e2 7 8 (.e 8 (.e 9 (.done))) (.e 7 (.e 9 (.done))))))))))) [0,1,3,4,5,6,7,8,9,10] he hm fun w hm =>?_
 replace hm:Mem Ψ72 (.gs (u) 3 1 (uY cl)::.blk b206 (ob [.pointer (some p),mg,.pointer (some ⟨b89,0,none⟩),.int .i64 ((g1:Nat):Int)] 105)::.blk b89 (ob [.int .i64 ((g1 - g1:Nat):Int)] 3)::.gs (uv) 58 3 cs::.blk b0 (ob [.slice p3 c.datas.length c4,.slice p9 c.inputs.length c10,.slice p15 c.funs.length c16,.slice (some q81) c.outputs.length c22] 27)::.blk b1 (ob [.pointer (some p)] 96)::.blk b2 (ob [mg] 100)::.blk b3 (ob [.int .i64 ((fuel:Nat):Int)] 3)::.blk b4 (ob [u] 84)::.blk b5 (ob [uv] 56)::.blk b6 (ob [.slice none 0 0,.int .i64 ((0:Nat):Int)] 53)::K) w:=by rw [Nat.sub_self];exact hm
 refine go fun a he =>?_
 rcases hf208:yA (d31) x82 with _ | vf209
 exact absurd (by rw [hI_,zA hx83,y1h (MapRel.none mr39 hf208)];rfl) hns
 obtain ⟨y210,hy211,cs212,rfl,hr213⟩:=mr39.get hf208
 obtain ⟨s214,b220,rfl,h215,h221⟩:=id hr213
 obtain ⟨p216,c217,rfl,hm218,hn219⟩:=h215.fm
 obtain ⟨p224,c225,p230,c231,rfl,hi234,h223,h229,hm226,hn227,hm232,hn233⟩:=REx.fm h221
 have hf208_:=congrArg (zF false (.agg (List.toArray [.string ⟨#[]⟩,.slice none 0 0,.string ⟨#[]⟩,.int .i64 ((0:Nat):Int),.int .i64 ((0:Nat):Int),.string ⟨#[]⟩,.slice none 0 0,.slice none 0 0]))) hf208
 refine Qq (fun a he =>?_) (o:=by exact fun he hs=>Ok.cast (yD runUnderlying115 runUnderlying9 zeroValue112 he hs rfl rfl ma35) (show zF false (.agg (List.toArray [.string ⟨#[]⟩,.slice none 0 0,.string ⟨#[]⟩,.int .i64 ((0:Nat):Int),.int .i64 ((0:Nat):Int),.string ⟨#[]⟩,.slice none 0 0,.slice none 0 0])) (yA (d31) x82)=.agg (List.toArray [.string y210.name,.slice p216 y210.params.length c217,.string y210.result,.int .i64 (y210.body.kind),.int .i64 (y210.body.num),.string y210.body.name,.slice p224 y210.body.args.length c225,.slice p230 y210.body.arms.length c231]) from hf208_))
 refine vQ ?_ ?_
 have hnx235:=hns
 rw [hI_,zA hx83,cC hy211] at hnx235
 replace hnx235:=jT (r:=pI (jJ ⟨T.funs,inp⟩) y210 [] g1) (jT hnx235)
 replace hm:=hm.pl 2
 refine xW call58 (fun q236 y237 w hq238 hG239 hm a he =>?_) (fun q236 w hq238 hm =>?_) (c:=z1o hF g1 rpT rG hr213 (SliceOf.nil 3) (hF _ _ hy211).1 (hF _ _ hy211).2 (Nat.le_refl _) (by omega) hnx235 hm)
 obtain ⟨z240,g241⟩:=q236
 obtain ⟨Ψ242,d243⟩:=y237
 obtain ⟨le244,hr245⟩:=hG239
 have hv246:=wJ hq238
 simp only at le244 hr245 hm he hv246
 have hlt247:=z1p hv246
 replace h20:=h20.up le244
 replace rpc:=RCore.mono _ _ _ _ le244 rpc
 replace rpT:=rpT.mono le244
 replace rG:=RGiven.mono le244 rG
 replace hat42:=hat42.mono le244
 replace hch:=hch.mono fun _ _ h=>RVal.mono _ _ _ _ le244 h
 replace ha86:=ha86.mono le244
 replace hr213:=RFun.mono _ _ _ _ le244 hr213
 replace h221:=REx.mono _ _ _ _ le244 h221
 replace hm:=hm.nf
 obtain ⟨p250,c251,rfl,hi254,h249,hm252,hn253⟩:=RVal.fm hr245
 refine Alc fun b255 w hm a he =>?_
 refine Sto 0 fun w hm a he =>?_
 refine go fun a he =>?_
 refine qB [2,2,0,0,2,0,0,0,0,0] (.q 0 (.q 1 (.q 4 (.e2 2 5 (.e2 3 5 (.e 5 (.e 6 (.e 7 (.e 8 (.e 9 (.done)))))) (.e2 3 6 (.e 6 (.e 7 (.e 8 (.e 9 (.done))))) (.e 3 (.e 7 (.e 8 (.e 9 (.done))))))) (.e2 2 6 (.e2 3 6 (.e 6 (.e 7 (.e 8 (.e 9 (.done))))) (.e 3 (.e 7 (.e 8 (.e 9 (.done)))))) (.e 2 (.e 3 (.e 7 (.e 8 (.e 9 (.done))))))))))) [0,1,3,5,6,7,8,9,10,11] he hm fun w hm =>?_
 refine go fun a he =>?_
 refine vQ ?_ ?_
 refine qW fun v256 w hm a he =>?_
 refine vQ ?_ ?_
 refine qL 3 wO (fun v257 w hm a he =>?_)
 rw [← qE] at hm
 refine d_e he rfl rfl rfl (vN (yU 1 (vs:=[.string z240.con,.int .i64 (z240.num),.slice p250 z240.args.length c251]) he hm.toSees rfl rfl isAgg58 sizeOf58 rfl rfl) ⟨fun _=>hm.sn (Fz.Le.refl _),fun a he =>?_⟩)
 refine qW fun v258 w hm a he =>?_
 refine qL 6 kQ (fun v259 w hm a he =>?_)
 refine Sto 11 fun w hm a he =>?_
 refine Sto 12 fun w hm a he =>?_
 refine go fun a he =>?_
 replace hm:=hm.ar [5,3,2,1,0] [8,8,8,8,8,8,8,7,8]
 refine hL74 _ _ _ (by subst hmu;omega) ⟨(Ψ242),(i+1),(v257),((cl++[((g1 - g241:Nat):Int)])),(v259),((cs++[.string z240.con,.int .i64 (z240.num),.slice p250 z240.args.length c251])),(xs++[z240]),(g241),rfl,⟨he.pk,by exact hm⟩,?_⟩
 refine ⟨(le73).trans le244,?_⟩
 refine ⟨hch.snoc rfl hr245,by simp [hxl],by omega,by omega,by simp [hcl],?_,?_⟩
 rw [yI,htot,yX (by omega)];omega
 rw [hI_,zA hx83]
 exact yE hy211 hv246
 refine d_e he rfl rfl rfl (vN (yU 1 (vs:=[.string z240.con,.int .i64 (z240.num),.slice p250 z240.args.length c251]) he hm.toSees rfl rfl isAgg58 sizeOf58 rfl rfl) ⟨fun _=>hm.sn (Fz.Le.refl _),fun a he =>?_⟩)
 refine vQ ?_ ?_
 refine qL 3 wO (fun v260 w hm a he =>?_)
 rw [← qE] at hm
 refine qW fun v261 w hm a he =>?_
 refine qL 6 kQ (fun v262 w hm a he =>?_)
 refine Sto 11 fun w hm a he =>?_
 refine Sto 12 fun w hm a he =>?_
 refine go fun a he =>?_
 replace hm:=hm.ar [5,3,2,1,0] [8,8,8,8,8,8,8,7,8]
 refine hL74 _ _ _ (by subst hmu;omega) ⟨(Ψ242),(i+1),(v260),((cl++[((g1 - g241:Nat):Int)])),(v262),((cs++[.string z240.con,.int .i64 (z240.num),.slice p250 z240.args.length c251])),(xs++[z240]),(g241),rfl,⟨he.pk,by exact hm⟩,?_⟩
 refine ⟨(le73).trans le244,?_⟩
 refine ⟨hch.snoc rfl hr245,by simp [hxl],by omega,by omega,by simp [hcl],?_,?_⟩
 rw [yI,htot,yX (by omega)];omega
 rw [hI_,zA hx83]
 exact yE hy211 hv246
 refine qW fun v263 w hm a he =>?_
 refine qL 4 wO (fun v264 w hm a he =>?_)
 rw [← qE] at hm
 refine qL 6 kQ (fun v265 w hm a he =>?_)
 refine Sto 11 fun w hm a he =>?_
 refine Sto 12 fun w hm a he =>?_
 refine go fun a he =>?_
 replace hm:=hm.ar [5,3,2,1,0] [8,8,8,8,8,8,8,7,8]
 refine hL74 _ _ _ (by subst hmu;omega) ⟨(Ψ242),(i+1),(v264),((cl++[((g1 - g241:Nat):Int)])),(v265),((cs++[.string z240.con,.int .i64 (z240.num),.slice p250 z240.args.length c251])),(xs++[z240]),(g241),rfl,⟨he.pk,by exact hm⟩,?_⟩
 refine ⟨(le73).trans le244,?_⟩
 refine ⟨hch.snoc rfl hr245,by simp [hxl],by omega,by omega,by simp [hcl],?_,?_⟩
 rw [yI,htot,yX (by omega)];omega
 rw [hI_,zA hx83]
 exact yE hy211 hv246
 refine d_e he rfl rfl rfl (vN (yU 0 (vs:=[.string z240.con,.int .i64 (z240.num),.slice p250 z240.args.length c251]) he hm.toSees rfl rfl isAgg58 sizeOf58 rfl rfl) ⟨fun _=>hm.sn (Fz.Le.refl _),fun a he =>?_⟩)
 refine vQ ?_ ?_
 refine qW fun v266 w hm a he =>?_
 refine vQ ?_ ?_
 refine qL 3 wO (fun v267 w hm a he =>?_)
 rw [← qE] at hm
 refine qW fun v268 w hm a he =>?_
 refine qL 6 kQ (fun v269 w hm a he =>?_)
 refine Sto 11 fun w hm a he =>?_
 refine Sto 12 fun w hm a he =>?_
 refine go fun a he =>?_
 replace hm:=hm.ar [5,3,2,1,0] [8,8,8,8,8,8,8,7,8]
 refine hL74 _ _ _ (by subst hmu;omega) ⟨(Ψ242),(i+1),(v267),((cl++[((g1 - g241:Nat):Int)])),(v269),((cs++[.string z240.con,.int .i64 (z240.num),.slice p250 z240.args.length c251])),(xs++[z240]),(g241),rfl,⟨he.pk,by exact hm⟩,?_⟩
 refine ⟨(le73).trans le244,?_⟩
 refine ⟨hch.snoc rfl hr245,by simp [hxl],by omega,by omega,by simp [hcl],?_,?_⟩
 rw [yI,htot,yX (by omega)];omega
 rw [hI_,zA hx83]
 exact yE hy211 hv246
 refine qW fun v270 w hm a he =>?_
 refine qL 4 wO (fun v271 w hm a he =>?_)
 rw [← qE] at hm
 refine qL 6 kQ (fun v272 w hm a he =>?_)
 refine Sto 11 fun w hm a he =>?_
 refine Sto 12 fun w hm a he =>?_
 refine go fun a he =>?_
 replace hm:=hm.ar [5,3,2,1,0] [8,8,8,8,8,8,8,7,8]
 refine hL74 _ _ _ (by subst hmu;omega) ⟨(Ψ242),(i+1),(v271),((cl++[((g1 - g241:Nat):Int)])),(v272),((cs++[.string z240.con,.int .i64 (z240.num),.slice p250 z240.args.length c251])),(xs++[z240]),(g241),rfl,⟨he.pk,by exact hm⟩,?_⟩
 refine ⟨(le73).trans le244,?_⟩
 refine ⟨hch.snoc rfl hr245,by simp [hxl],by omega,by omega,by simp [hcl],?_,?_⟩
 rw [yI,htot,yX (by omega)];omega
 rw [hI_,zA hx83]
 exact yE hy211 hv246
 refine qW fun v273 w hm a he =>?_
 refine qW fun v274 w hm a he =>?_
 refine qL 4 wO (fun v275 w hm a he =>?_)
 rw [← qE] at hm
 refine qL 6 kQ (fun v276 w hm a he =>?_)
 refine Sto 11 fun w hm a he =>?_
 refine Sto 12 fun w hm a he =>?_
 refine go fun a he =>?_
 replace hm:=hm.ar [5,3,2,1,0] [8,8,8,8,8,8,8,7,8]
 refine hL74 _ _ _ (by subst hmu;omega) ⟨(Ψ242),(i+1),(v275),((cl++[((g1 - g241:Nat):Int)])),(v276),((cs++[.string z240.con,.int .i64 (z240.num),.slice p250 z240.args.length c251])),(xs++[z240]),(g241),rfl,⟨he.pk,by exact hm⟩,?_⟩
 refine ⟨(le73).trans le244,?_⟩
 refine ⟨hch.snoc rfl hr245,by simp [hxl],by omega,by omega,by simp [hcl],?_,?_⟩
 rw [yI,htot,yX (by omega)];omega
 rw [hI_,zA hx83]
 exact yE hy211 hv246
 have hsp277:=vK hq238 hnx235
 replace hm:=hm.dl [10,9,8,7,6,5,4,3,2,1,0]
 exact z1v (oK (by rw [hI_,zA hx83];exact aV hy211 hsp277)) ⟨.inr ⟨rfl,rfl⟩,hm.le (le73)⟩
 refine Alc fun b278 w hm a he =>?_
 have hnx279:=hns
 rw [hI_,zA hx83,cC hy211] at hnx279
 replace hnx279:=jT (r:=pI (jJ ⟨T.funs,inp⟩) y210 [] g1) (jT hnx279)
 replace hm:=hm.pl 3
 refine xW call58 (fun q280 y281 w hq282 hG283 hm a he =>?_) (fun q280 w hq282 hm =>?_) (c:=z1o hF g1 rpT rG hr213 (SliceOf.nil 3) (hF _ _ hy211).1 (hF _ _ hy211).2 (Nat.le_refl _) (by omega) hnx279 hm)
 obtain ⟨z284,g285⟩:=q280
 obtain ⟨Ψ286,d287⟩:=y281
 obtain ⟨le288,hr289⟩:=hG283
 have hv290:=wJ hq282
 simp only at le288 hr289 hm he hv290
 have hlt291:=z1p hv290
 replace h20:=h20.up le288
 replace rpc:=RCore.mono _ _ _ _ le288 rpc
 replace rG:=RGiven.mono le288 rG
 replace hat42:=hat42.mono le288
 replace hch:=hch.mono fun _ _ h=>RVal.mono _ _ _ _ le288 h
 replace ha86:=ha86.mono le288
 replace hr213:=RFun.mono _ _ _ _ le288 hr213
 replace h221:=REx.mono _ _ _ _ le288 h221
 replace hm:=hm.nf
 obtain ⟨p294,c295,rfl,hi298,h293,hm296,hn297⟩:=RVal.fm hr289
 refine Sto 1 fun w hm a he =>?_
 refine go fun a he =>?_
 refine qB [2,2,0,0,2,0,0,0,0,0] (.q 0 (.q 1 (.q 4 (.e2 2 5 (.e2 3 5 (.e 5 (.e 6 (.e 7 (.e 8 (.e 9 (.done)))))) (.e2 3 6 (.e 6 (.e 7 (.e 8 (.e 9 (.done))))) (.e 3 (.e 7 (.e 8 (.e 9 (.done))))))) (.e2 2 6 (.e2 3 6 (.e 6 (.e 7 (.e 8 (.e 9 (.done))))) (.e 3 (.e 7 (.e 8 (.e 9 (.done)))))) (.e 2 (.e 3 (.e 7 (.e 8 (.e 9 (.done))))))))))) [0,1,3,5,6,7,8,9,10,11] he hm fun w hm =>?_
 refine go fun a he =>?_
 refine vQ ?_ ?_
 refine qW fun v299 w hm a he =>?_
 refine vQ ?_ ?_
 refine qL 3 wO (fun v300 w hm a he =>?_)
 rw [← qE] at hm
 refine d_e he rfl rfl rfl (vN (yU 2 (vs:=[.string z284.con,.int .i64 (z284.num),.slice p294 z284.args.length c295]) he hm.toSees rfl rfl isAgg58 sizeOf58 rfl rfl) ⟨fun _=>hm.sn (Fz.Le.refl _),fun a he =>?_⟩)
 refine qW fun v301 w hm a he =>?_
 refine qL 6 kQ (fun v302 w hm a he =>?_)
 refine Sto 11 fun w hm a he =>?_
 refine Sto 12 fun w hm a he =>?_
 refine go fun a he =>?_
 replace hm:=hm.ar [5,3,2,1,0] [8,8,8,8,8,8,8,7,8]
 refine hL74 _ _ _ (by subst hmu;omega) ⟨(Ψ286),(i+1),(v300),((cl++[((g1 - g285:Nat):Int)])),(v302),((cs++[.string z284.con,.int .i64 (z284.num),.slice p294 z284.args.length c295])),(xs++[z284]),(g285),rfl,⟨he.pk,by exact hm⟩,?_⟩
 refine ⟨(le73).trans le288,?_⟩
 refine ⟨hch.snoc rfl hr289,by simp [hxl],by omega,by omega,by simp [hcl],?_,?_⟩
 rw [yI,htot,yX (by omega)];omega
 rw [hI_,zA hx83]
 exact yE hy211 hv290
 refine d_e he rfl rfl rfl (vN (yU 2 (vs:=[.string z284.con,.int .i64 (z284.num),.slice p294 z284.args.length c295]) he hm.toSees rfl rfl isAgg58 sizeOf58 rfl rfl) ⟨fun _=>hm.sn (Fz.Le.refl _),fun a he =>?_⟩)
 refine vQ ?_ ?_
 refine qL 3 wO (fun v303 w hm a he =>?_)
 rw [← qE] at hm
 refine qW fun v304 w hm a he =>?_
 refine qL 6 kQ (fun v305 w hm a he =>?_)
 refine Sto 11 fun w hm a he =>?_
 refine Sto 12 fun w hm a he =>?_
 refine go fun a he =>?_
 replace hm:=hm.ar [5,3,2,1,0] [8,8,8,8,8,8,8,7,8]
 refine hL74 _ _ _ (by subst hmu;omega) ⟨(Ψ286),(i+1),(v303),((cl++[((g1 - g285:Nat):Int)])),(v305),((cs++[.string z284.con,.int .i64 (z284.num),.slice p294 z284.args.length c295])),(xs++[z284]),(g285),rfl,⟨he.pk,by exact hm⟩,?_⟩
 refine ⟨(le73).trans le288,?_⟩
 refine ⟨hch.snoc rfl hr289,by simp [hxl],by omega,by omega,by simp [hcl],?_,?_⟩
 rw [yI,htot,yX (by omega)];omega
 rw [hI_,zA hx83]
 exact yE hy211 hv290
 refine qW fun v306 w hm a he =>?_
 refine qL 4 wO (fun v307 w hm a he =>?_)
 rw [← qE] at hm
 refine qL 6 kQ (fun v308 w hm a he =>?_)
 refine Sto 11 fun w hm a he =>?_
 refine Sto 12 fun w hm a he =>?_
 refine go fun a he =>?_
 replace hm:=hm.ar [5,3,2,1,0] [8,8,8,8,8,8,8,7,8]
 refine hL74 _ _ _ (by subst hmu;omega) ⟨(Ψ286),(i+1),(v307),((cl++[((g1 - g285:Nat):Int)])),(v308),((cs++[.string z284.con,.int .i64 (z284.num),.slice p294 z284.args.length c295])),(xs++[z284]),(g285),rfl,⟨he.pk,by exact hm⟩,?_⟩
 refine ⟨(le73).trans le288,?_⟩
 refine ⟨hch.snoc rfl hr289,by simp [hxl],by omega,by omega,by simp [hcl],?_,?_⟩
 rw [yI,htot,yX (by omega)];omega
 rw [hI_,zA hx83]
 exact yE hy211 hv290
 refine d_e he rfl rfl rfl (vN (yU 1 (vs:=[.string z284.con,.int .i64 (z284.num),.slice p294 z284.args.length c295]) he hm.toSees rfl rfl isAgg58 sizeOf58 rfl rfl) ⟨fun _=>hm.sn (Fz.Le.refl _),fun a he =>?_⟩)
 refine vQ ?_ ?_
 refine qW fun v309 w hm a he =>?_
 refine vQ ?_ ?_
 refine qL 3 wO (fun v310 w hm a he =>?_)
 rw [← qE] at hm
 refine qW fun v311 w hm a he =>?_
 refine qL 6 kQ (fun v312 w hm a he =>?_)
 refine Sto 11 fun w hm a he =>?_
 refine Sto 12 fun w hm a he =>?_
 refine go fun a he =>?_
 replace hm:=hm.ar [5,3,2,1,0] [8,8,8,8,8,8,8,7,8]
 refine hL74 _ _ _ (by subst hmu;omega) ⟨(Ψ286),(i+1),(v310),((cl++[((g1 - g285:Nat):Int)])),(v312),((cs++[.string z284.con,.int .i64 (z284.num),.slice p294 z284.args.length c295])),(xs++[z284]),(g285),rfl,⟨he.pk,by exact hm⟩,?_⟩
 refine ⟨(le73).trans le288,?_⟩
 refine ⟨hch.snoc rfl hr289,by simp [hxl],by omega,by omega,by simp [hcl],?_,?_⟩
 rw [yI,htot,yX (by omega)];omega
 rw [hI_,zA hx83]
 exact yE hy211 hv290
 refine qW fun v313 w hm a he =>?_
 refine qL 4 wO (fun v314 w hm a he =>?_)
 rw [← qE] at hm
 refine qL 6 kQ (fun v315 w hm a he =>?_)
 refine Sto 11 fun w hm a he =>?_
 refine Sto 12 fun w hm a he =>?_
 refine go fun a he =>?_
 replace hm:=hm.ar [5,3,2,1,0] [8,8,8,8,8,8,8,7,8]
 refine hL74 _ _ _ (by subst hmu;omega) ⟨(Ψ286),(i+1),(v314),((cl++[((g1 - g285:Nat):Int)])),(v315),((cs++[.string z284.con,.int .i64 (z284.num),.slice p294 z284.args.length c295])),(xs++[z284]),(g285),rfl,⟨he.pk,by exact hm⟩,?_⟩
 refine ⟨(le73).trans le288,?_⟩
 refine ⟨hch.snoc rfl hr289,by simp [hxl],by omega,by omega,by simp [hcl],?_,?_⟩
 rw [yI,htot,yX (by omega)];omega
 rw [hI_,zA hx83]
 exact yE hy211 hv290
 refine qW fun v316 w hm a he =>?_
 refine qW fun v317 w hm a he =>?_
 refine qL 4 wO (fun v318 w hm a he =>?_)
 rw [← qE] at hm
 refine qL 6 kQ (fun v319 w hm a he =>?_)
 refine Sto 11 fun w hm a he =>?_
 refine Sto 12 fun w hm a he =>?_
 refine go fun a he =>?_
 replace hm:=hm.ar [5,3,2,1,0] [8,8,8,8,8,8,8,7,8]
 refine hL74 _ _ _ (by subst hmu;omega) ⟨(Ψ286),(i+1),(v318),((cl++[((g1 - g285:Nat):Int)])),(v319),((cs++[.string z284.con,.int .i64 (z284.num),.slice p294 z284.args.length c295])),(xs++[z284]),(g285),rfl,⟨he.pk,by exact hm⟩,?_⟩
 refine ⟨(le73).trans le288,?_⟩
 refine ⟨hch.snoc rfl hr289,by simp [hxl],by omega,by omega,by simp [hcl],?_,?_⟩
 rw [yI,htot,yX (by omega)];omega
 rw [hI_,zA hx83]
 exact yE hy211 hv290
 have hsp320:=vK hq282 hnx279
 replace hm:=hm.dl [11,10,9,8,7,6,5,4,3,2,1,0]
 exact z1v (oK (by rw [hI_,zA hx83];exact aV hy211 hsp320)) ⟨.inr ⟨rfl,rfl⟩,hm.le (le73)⟩
 refine go fun a he =>?_
 have hm0_:=hm
 clear hm
 obtain ⟨Ψ324,le325,hm,hrow326⟩:=hm0_.freezeRow (i:=0) rfl
 clear hm0_
 replace h20:=h20.up le325
 replace rpc:=RCore.mono _ _ _ _ le325 rpc
 replace rG:=RGiven.mono le325 rG
 replace hat42:=hat42.mono le325
 replace hch:=hch.mono fun _ _ h=>RVal.mono _ _ _ _ le325 h
 replace hm:=hm.nf
 have hsl327:SliceOf RVal Ψ324 3 _ (xs):=⟨_,hrow326,hch⟩
 obtain ⟨p328,c329,hv_,hm330,hn331⟩:=hsl327.form (by decide)
 have hmk_:=hm
 clear hm
 subst hv_
 have hm:=hmk_
 clear hmk_
 have hend_:vB ⟨T.funs,inp⟩ c.outputs fuel=.ok xs g1:=by
  rw [hI_,zE h77];exact q2b
 refine yK call59 (fun hB332 w hm a he =>?_) (fun hB332 w hm a he =>?_) (c:=y9p (Φ:=Ψ324) (K:=.gs (u) 3 1 (uY cl)::.blk b0 (ob [.slice p3 c.datas.length c4,.slice p9 c.inputs.length c10,.slice p15 c.funs.length c16,.slice p21 c.outputs.length c22] 27)::.blk b1 (ob [.pointer (some p)] 96)::.blk b2 (ob [mg] 100)::.blk b3 (ob [.int .i64 ((fuel:Nat):Int)] 3)::.blk b4 (ob [u] 84)::.blk b5 (ob [.slice p328 (xs).length c329] 56)::.blk b6 (ob [.slice none 0 0,.int .i64 ((0:Nat):Int)] 53)::K) (p:=cX) (fs:=[]) (cs:=[]) hsl327 call60 (fun x c w hx hc hm=>q1p hc hm) hm)
 refine zI ?_
 replace hm:=hm.dl [7,6,5,4,3,2,1,0]
 exact z1v (q4l hend_ hB332) ⟨.inl rfl,hm.le ((le73).trans le325)⟩
 refine go fun a he =>?_
 have hbig_:=hB332
 replace hm:=hm.nilRow 60 4
 replace hm:=hm.nf
 refine go fun a he =>?_
 refine yF (he.ks [0,6,48,49]) hm (fun R mm a w=>∃(Ψ336:Fz) (k:Nat) (uo:Value) (co:List Value),mm=xs.length - k∧R Ψ336 [(50,.int .i64 ((k:Nat):Int))] [(0,.gs (uo) 60 4 co),(8,.blk b6 (ob [uo,.int .i64 ((0:Nat):Int)] 53))] a w∧(Ψ324.Le Ψ336∧(Chunks (RNamed Ψ336) 4 co ((kH c.outputs xs).take k)))) (xs.length - 0) ⟨Ψ324,0,.slice none 0 0,[],rfl,⟨he.pk,hm⟩,⟨Fz.Le.refl _,rfl⟩⟩ ?_
 clear hm he
 rintro mm a w ⟨Ψ336,k,uo,co,hmu,⟨he,hm⟩,hI339⟩ L338 hL338
 replace hm:=hm.nf
 obtain ⟨le337,hI339⟩:=hI339
 replace h20:=h20.up le337
 replace rpc:=RCore.mono _ _ _ _ le337 rpc
 replace rG:=RGiven.mono le337 rG
 replace hat42:=hat42.mono le337
 replace hsl327:=hsl327.up le337
 have hco:=hI339
 by_cases h341:k < (xs).length
 refine go fun a he =>?_
 obtain ⟨q345,rfl,x346,hx347,cs348,hl349,ha350,hr351⟩:=hsl327.el hn331 h341
 obtain ⟨p354,c355,rfl,hi358,h353,hm356,hn357⟩:=RVal.fm hr351
 refine Alc fun b359 w hm a he =>?_
 refine Sto 0 fun w hm a he =>?_
 refine Reg [1,2,1,2,1,1,2,2,0,1,0,0,1,0] [0,2,3,4,5,6,7,8,9] fun w hm a he =>?_
 refine go fun a he =>?_
 have hb360:k < c.outputs.length:=by omega
 obtain ⟨q361,rfl,x362,hx363,cs364,hl365,ha366,hr367⟩:=h20.el hn24 hb360
 obtain rfl:cs364=[.string x362]:=hr367
 refine jF call61 (fun y368 w hG369 hm a he =>?_) (c:=own_ok (x0p (by have h_:=List.any_eq_false.1 hbig_ _ (List.mem_of_getElem? hx347);simpa using h_)) hr351 hm)
 obtain ⟨Ψ370,d371⟩:=y368
 obtain ⟨le372,hr373⟩:=hG369
 simp only at le372 hr373 hm he
 replace rpc:=RCore.mono _ _ _ _ le372 rpc
 replace rG:=RGiven.mono le372 rG
 replace hat42:=hat42.mono le372
 replace hco:=hco.mono fun _ _ h=>RNamed.mono _ _ _ _ le372 h
 replace ha350:=ha350.mono le372
 replace hr351:=RVal.mono _ _ _ _ le372 hr351
 replace ha366:=ha366.mono le372
 replace hm:=hm.nf
 obtain ⟨p376,c377,rfl,hi380,h375,hm378,hn379⟩:=RVal.fm hr373
 refine kK fun a he =>?_
 refine qW fun v381 w hm a he =>?_
 refine qL 2 rt_51 (fun v382 w hm a he =>?_) (hb:=by have h_:=hco.length;have h2_:((kH c.outputs xs).take k).length≤xs.length:=(by simp [kH];omega);rw [h_];simp only [List.length_cons,List.length_nil];omega)
 refine Sto 10 fun w hm a he =>?_
 refine go fun a he =>?_
 replace hm:=hm.dl [1,0]
 refine hL338 _ _ _ (by subst hmu;omega) ⟨(Ψ370),(k+1),(v382),((co++[.string x362,.string x346.con,.int .i64 (x346.num),.slice p376 x346.args.length c377])),rfl,⟨he.pk,by exact hm⟩,?_⟩
 refine ⟨(le337).trans le372,?_⟩
 rw [z5d (z4t hx363 hx347)];exact hco.snoc rfl (show RNamed Ψ370 [.string x362,.string x346.con,.int .i64 (x346.num),.slice p376 x346.args.length c377] (⟨x362,x346⟩:Named) from ⟨_,rfl,hr373⟩)
 refine go fun a he =>?_
 rw [j2o h341] at hco
 have hm0_:=hm
 clear hm
 obtain ⟨Ψ385,le386,hm,hrow387,hnw_⟩:=hm0_.freezeRowN (i:=0) rfl
 clear hm0_
 replace rpc:=RCore.mono _ _ _ _ le386 rpc
 replace rG:=RGiven.mono le386 rG
 replace hat42:=hat42.mono le386
 replace hco:=hco.mono fun _ _ h=>RNamed.mono _ _ _ _ le386 h
 replace hm:=hm.nf
 have hsl388:SliceOf RNamed Ψ385 4 _ ((kH c.outputs xs)):=⟨_,hrow387,hco⟩
 obtain ⟨p389,c390,hv_,hm391,hn392⟩:=hsl388.form (by decide)
 have hmk_:=hm
 clear hm
 subst hv_
 have hm:=hmk_
 clear hmk_
 replace hnw_:=hnw_.anti (((le73).trans le325).trans le337)
 refine zI ?_
 replace hm:=hm.ar [6,4,3,2,1] [2,1,2]
 exact endOut (endP_ok hend_ hbig_) ⟨(Ψ385,u,cl,.slice p389 ((kH c.outputs xs)).length c390),rfl,⟨(((le73).trans le325).trans le337).trans le386,by rw [htot],(show cl.length≤1000 by omega),hsl388,hnw_⟩,hm⟩
end Go.Sw

namespace Go.Sw
open Go.Proofs
theorem z0x {c:Core} (h:yC c=0):xL c=false∧jH c=true:=by
 unfold yC at h
 split at h
 ·cases h
 split at h
 ·cases h
 split at h
 ·rename_i h2 hr;exact ⟨by simpa using h2,hr⟩
 ·cases h
theorem j2h {c:Core} (h:yC c=0):z3o (zR c):=by
 obtain ⟨hl,hr⟩:=z0x h
 have ht:nY c=true:=by simp only [jH,Bool.and_eq_true] at hr;exact hr.1.1.1.1.1
 intro n f hf
 exact ⟨z3h hl ht n f hf,y0u hl (z6k ht hf)⟩
theorem j2i {c:Core} (h:yC c=0):c.outputs.length≤1000:=by
 have hl:=(z0x h).1
 simp only [xL,Bool.or_eq_false_iff,decide_eq_false_iff_not] at hl
 omega
theorem run_ns {c:Core} (h:yC c=0) {l:List Named} (hg:aH (zR c) l c.inputs=true) (g:Nat):vB ⟨(zR c).funs,z6r l⟩ c.outputs g≠.stuck :=
 (q9h (kV h) (y7o (kV h) hg) (fun _ h=>h) g).1
theorem q0n {r:Ev (List Val)} {c:Nat} (h:z4a r=.error c):c≠0:=by
 cases r with
 | ok vs g =>
  simp only [z4a] at h
  split at h
  ·cases h;decide
  ·cases h
 | spent=>cases h;decide
 | stuck=>cases h;decide
section
variable {P:Program} {n:Nat} {E:List (Nat×Value)} {D:List Deferred} {a:Act} {Φ:Fz} {K:List Res} {w:World}
variable {Kn:Value→World→Prop} {Qp:List PanicEntry→World→Prop} {dst:Option Tmp} {ty:TypeId} {pos:String} {aft:Array Edge} {g:Option (Nat×Bool)}
theorem pD {α β ε:Type} {f:FuncId} {xs:Array Operand} {ts:Array TypeId} {vs:List Value} {r:Except ε α} {X:α→β→Value} {Z:ε→Value} {F1:α→β→Fz} {Φ2:Fz} {KO:α→β→List Res} {KE:List Res} {G:α→β→Prop}
  (he:EnvR n E D a) (hx:evs E xs.toList=some vs) (hf:∀args w,(callFunc f args).run P w=.ok (.enter f args) w)
  (hc:Calls P f vs.toArray w (fun e w'=>Out r (fun x=>∃y,e=.returned (X x y)∧G x y∧Mem (F1 x y) (KO x y) w') (fun c=>e=.returned (Z c)∧Mem Φ2 KE w')))
  (k:∀x y w',r=.ok x→G x y→Mem (F1 x y) (KO x y) w'→Kn (X x y) w') (kp:∀c w',r=.error c→Mem Φ2 KE w'→Kn (Z c) w') :
  Oper.eff P ⟨dst,.call { callee:=.value (.func f),args:=xs,argTypes:=ts },ty,pos,aft,g⟩ a w Kn Qp:=by
 refine mW he hx hf hc (fun v w' h =>?_) (fun c w' h =>?_) (fun w' h =>?_)
 ·cases r with
  | ok x=>obtain ⟨y,h1,h2,h3⟩:=h;cases h1;exact k _ _ _ rfl h2 h3
  | error c=>obtain ⟨h1,h2⟩:=h;cases h1;exact kp _ _ rfl h2
 ·cases r with
  | ok x=>obtain ⟨y,h1,_⟩:=h;cases h1
  | error c=>obtain ⟨h1,h2⟩:=h;cases h1
 ·cases r with
  | ok x=>obtain ⟨y,h1,_⟩:=h;cases h1
  | error c=>obtain ⟨h1,_⟩:=h;cases h1
theorem z4y {fn:Func} {R:Ending→World→Prop} {t u T b k i:Nat} {cs:List Value} {T0:TypeId} {x:Value} (he:EnvR n E [] a) (hm:Sees Φ K w) (hr:fn.results=#[.cell t T,.tmp u]) (hv:get E t=some (.pointer (some ⟨b,0,none⟩)))
  (hk:qJ K i=some (.blk b (ob cs T0))) (hT:AggT P T) (hS:SizeT P T k) (hl:cs.length=k) (hx:get E u=some x) (h:R (.returned (.tuple (List.toArray [.agg cs.toArray,x]))) w):bodyPost P fn R .ret a w:=by
 refine ⟨he.defs,_,?_,h⟩
 have h2:=q8m (P:=P) he hm hv hk hT hS hl
 simp [results,hr,Array.getD_eq_getD_getElem?,he.env t _ hv,he.env u _ hx,asAddr,h2,Sem.run_bind,Result.andThen]
theorem y8q {fn:Func} {R:Ending→World→Prop} {t u u2 T b k i:Nat} {cs:List Value} {T0:TypeId} {x x2:Value} (he:EnvR n E [] a) (hm:Sees Φ K w) (hr:fn.results=#[.cell t T,.tmp u,.tmp u2]) (hv:get E t=some (.pointer (some ⟨b,0,none⟩)))
  (hk:qJ K i=some (.blk b (ob cs T0))) (hT:AggT P T) (hS:SizeT P T k) (hl:cs.length=k) (hx:get E u=some x) (hx2:get E u2=some x2) (h:R (.returned (.tuple (List.toArray [.agg cs.toArray,x,x2]))) w):bodyPost P fn R .ret a w:=by
 refine ⟨he.defs,_,?_,h⟩
 have h2:=q8m (P:=P) he hm hv hk hT hS hl
 simp [results,hr,Array.getD_eq_getD_getElem?,he.env t _ hv,he.env u _ hx,he.env u2 _ hx2,asAddr,h2,Sem.run_bind,Result.andThen]
end
theorem q6p {Φ:Fz} {K:List Res} {w:World} {p:Addr} {T:Table} {d0:List Value} {c:Core} {mg:Value} {inp:List (Bs×Val)} {fuel b0 b1 b2 b3 b4 b5 b6:Nat} (rpc:RCore Φ d0 c) (rpT:RTable Φ p T) (rG:RGiven Φ mg inp) (hF:z3o T) (hlen:c.outputs.length≤1000) (hfu:fuel≤1000000)
  (hns:vB ⟨T.funs,inp⟩ c.outputs fuel≠.stuck)
  (hm:Mem Φ (.blk b0 (ob d0 27)::.blk b1 (ob [.pointer (some p)] 96)::.blk b2 (ob [mg] 100)::.blk b3 (ob [.int .i64 ((fuel:Nat):Int)] 3)::.blk b4 (ob [.slice none 0 0] 84)::.blk b5 (ob [.slice none 0 0] 56)::.blk b6 (ob [.slice none 0 0,.int .i64 ((0:Nat):Int)] 53)::K) w) :
  Calls Tryz.prog 55 (List.toArray [.func (.func 56) (List.toArray []) (List.toArray [.pointer (some ⟨b0,0,none⟩),.pointer (some ⟨b1,0,none⟩),.pointer (some ⟨b2,0,none⟩),.pointer (some ⟨b3,0,none⟩),.pointer (some ⟨b4,0,none⟩),.pointer (some ⟨b5,0,none⟩),.pointer (some ⟨b6,0,none⟩)])]) w (fun e w'=>Out (z4a (vB ⟨T.funs,inp⟩ c.outputs fuel))
   (fun x=>∃y:Fz×Value×List Int×Value,e=.returned (.int .i64 ((0:Nat):Int))∧(Φ.Le y.1∧aK y.2.2.1=((fuel - x.2:Nat):Int)∧y.2.2.1.length≤1000∧SliceOf RNamed y.1 4 y.2.2.2 (kH c.outputs x.1)∧NewRow Φ y.2.2.2)∧Mem y.1 (.blk b4 (ob [y.2.1] 84)::.gs y.2.1 3 1 (uY y.2.2.1)::.blk b6 (ob [y.2.2.2,.int .i64 ((0:Nat):Int)] 53)::K) w')
   (fun c=>e=.returned (.int .i64 ((c:Nat):Int))∧Mem Φ K w')):=by
 refine j4b (α:=List Val×Nat) (β:=Fz×Value×List Int×Value) (F:=fun _ y=>y.1) (KO:=fun _ y=>.blk b4 (ob [y.2.1] 84)::.gs y.2.1 3 1 (uY y.2.2.1)::.blk b6 (ob [y.2.2.2,.int .i64 ((0:Nat):Int)] 53)::K)
  (G:=fun (x:List Val×Nat) y=>Φ.Le y.1∧aK y.2.2.1=((fuel - x.2:Nat):Int)∧y.2.2.1.length≤1000∧SliceOf RNamed y.1 4 y.2.2.2 (kH c.outputs x.1)∧NewRow Φ y.2.2.2) Tryz.call56 (fun b w hm =>?_) hm
 have hm:=((((((hm.pull (i:=7) rfl).pull (i:=7) rfl).pull (i:=7) rfl).pull (i:=7) rfl).pull (i:=7) rfl).pull (i:=7) rfl).pull (i:=7) rfl
 refine (run1_ok (K:=.blk b (ob [.int .i64 ((0:Nat):Int)] 29)::K) rpc rpT rG hF hlen hfu hns hm).mono fun e w' h =>?_
 cases hr:z4a (vB ⟨T.funs,inp⟩ c.outputs fuel) with
 | ok x =>
  rw [hr] at h
  obtain ⟨y,h1,h2,h3⟩:=h
  exact ⟨y,h1,h2,h3.pull (i:=3) rfl⟩
 | error c' =>
  rw [hr] at h
  exact h
end Go.Sw

namespace Go.Sw
section
variable {P:Program} {n:Nat} {E:List (Nat×Value)} {D:List Deferred} {a:Act} {Φ:Fz} {K:List Res} {w:World}
variable {Kn:Value→World→Prop} {Qp:List PanicEntry→World→Prop} {dst:Option Tmp} {ty:TypeId} {pos:String} {aft:Array Edge} {g:Option (Nat×Bool)}
end
end Go.Sw

namespace Go.Sw
section
variable {P:Program} {n:Nat} {E:List (Nat×Value)} {D:List Deferred} {a:Act} {Φ:Fz} {K:List Res} {w:World} {ty:TypeId}
end
end Go.Sw

namespace Go.Sw
end Go.Sw

namespace Go.Sw
def hasB (l:List Bs) (s:Bs):Bool:=l.any fun x=>decide (x=s)
theorem z4h (x:Bs) (l:List Bs) (s:Bs):hasB (x::l) s=(decide (x=s) || hasB l s):=by simp [hasB]
section
variable {c:Core} {ps:List Param} {e:Ex}
end
end Go.Sw

namespace Go.Sw
end Go.Sw

namespace Go.Sw
end Go.Sw

namespace Go.Sw
end Go.Sw

namespace Go.Sw
end Go.Sw

namespace Go.Sw
end Go.Sw

namespace Go.Sw
open Go.Proofs.Tryz
open Go.Proofs
set_option maxRecDepth 20000
set_option maxHeartbeats 4000000
def RunSafe (c:Core) (l:List Named):Prop:=yC c=0→aH (zR c) l c.inputs=true→∀g,vB ⟨(zR c).funs,z6r l⟩ c.outputs g≠.stuck
theorem q6n {Φ:Fz} {K:List Res} {w:World} {d0:List Value} {v1:Value} {c:Core} {l:List Named} {fuel:Int} (rpc:RCore Φ d0 c) (rl:SliceOf RNamed Φ 4 v1 l) (hrs:RunSafe c l) (G:Glob Φ) (hm:Mem Φ K w) :
  Calls prog 33 (List.toArray [.agg d0.toArray,v1,.int .i64 fuel]) w (fun ee w'=>∃y:Fz×List Value,ee=.returned (.tuple (List.toArray [.agg y.2.toArray,.int .i64 (mR c l fuel).2]))∧(Φ.Le y.1∧ROutcome y.1 y.2 (mR c l fuel).1∧∀v s,y.2=[v,s]→NewRow Φ v)∧Mem y.1 K w'):=by
 obtain ⟨p3,c4,p9,c10,p15,c16,p21,c22,rfl,h2,h8,h14,h20,hm5,hn6,hm11,hn12,hm17,hn18,hm23,hn24⟩:=RCore.fm rpc
 obtain ⟨p1,c1,rfl,hm1,hn1⟩:=rl.fm
 refine zL func33 ntmps33 fun Q hQ a he =>?_
 refine Bx fun b26 w hm a he =>?_
 refine Bx fun b27 w hm a he =>?_
 refine Alc fun b28 w hm a he =>?_
 refine jF call53 (fun y30 w hG31 hm a he =>?_) (c:=q9b rpc G hm)
 obtain ⟨Ψ32,p33⟩:=y30
 obtain ⟨le34,hT35⟩:=hG31
 simp only at le34 hT35 hm he
 replace rpc:=RCore.mono _ _ _ _ le34 rpc
 replace G:=G.mono le34
 replace rl:=rl.up le34
 replace hm:=hm.nf
 by_cases hlk36:yC c=0
 obtain ⟨hT37,hlong38⟩:=hT35 hlk36
 rw [if_pos hlk36,hlk36] at he
 refine Alc fun b39 w hm a he =>?_
 refine Sto 0 fun w hm a he =>?_
 refine Qq (fun a he =>?_) (o:=by exact fun he hs=>nL false he rfl rfl rfl)
 by_cases h43:fuel < 0
 refine yJ fun a he =>?_
 refine Sto 1 fun w hm a he =>?_
 refine go fun a he =>?_
 have hmr:=hm
 replace hm:=hm.dl [3,2,1,0]
 refine hQ _ _ _ (z4y (i:=1) (cs:=[.slice none 0 0,.int .i64 ((0:Nat):Int)]) he hmr.toSees results33 rfl rfl isAgg53 sizeOf53 rfl rfl ?_)
 have hr_:mR c l (fuel)=(y8j,1):=by
  simp only [mR,if_neg (not_not_intro hlk36)];rw [if_pos (by have h_:=h43;omega)] <;> rfl
 rw [hr_]
 exact ⟨(Ψ32,_),rfl,⟨le34,⟨_,rfl,SliceOf.nil 4⟩,fun _ _ e_=>by cases e_;exact NewRow.nil⟩,hm⟩
 by_cases h45:200000 < fuel
 refine yJ fun a he =>?_
 refine Sto 1 fun w hm a he =>?_
 refine go fun a he =>?_
 have hmr:=hm
 replace hm:=hm.dl [3,2,1,0]
 refine hQ _ _ _ (z4y (i:=1) (cs:=[.slice none 0 0,.int .i64 ((0:Nat):Int)]) he hmr.toSees results33 rfl rfl isAgg53 sizeOf53 rfl rfl ?_)
 have hr_:mR c l (fuel)=(y8j,1):=by
  simp only [mR,if_neg (not_not_intro hlk36)];rw [if_pos (by have h_:=h45;omega)] <;> rfl
 rw [hr_]
 exact ⟨(Ψ32,_),rfl,⟨le34,⟨_,rfl,SliceOf.nil 4⟩,fun _ _ e_=>by cases e_;exact NewRow.nil⟩,hm⟩
 refine yK call54 (fun hB48 w hm a he =>?_) (fun hB48 w hm a he =>?_) (c:=j7x hT37 rl hm)
 refine go fun a he =>?_
 have hgv_:aH (zR c) l c.inputs=true:=hB48
 have hfu_:fuel≤200000:=by have h_:=h45;omega
 have hf0_:0≤fuel:=by have h_:=h43;omega
 have hmk_:=hm
 have hek_:=he
 clear hm he
 obtain ⟨fu,rfl⟩:=Int.eq_ofNat_of_zero_le hf0_
 have hm:=hmk_
 have he:=hek_
 clear hmk_ hek_
 refine Alc fun b50 w hm a he =>?_
 refine Alc fun b52 w hm a he =>?_
 refine Alc fun b54 w hm a he =>?_
 refine MkM fun b56 w hm a he =>?_
 refine Alc fun b57 w hm a he =>?_
 refine Sto 0 fun w hm a he =>?_
 refine go fun a he =>?_
 refine yF (he.ks [3,5,6,8,10,11,12,13,41,42]) hm (fun R mm a w=>∃(i:Nat) (mv:List (Bs×Value)) (lv:List (Bs×Val)),mm=l.length - i∧R Ψ32 [(43,.int .i64 ((i:Nat):Int))] [(1,.mp b56 mv)] a w∧(z6r l=(l.drop i).foldl (fun m x=>qM m x.name x.value) lv∧MapRel (RVa RVal Ψ32) mv lv)) (l.length - 0) ⟨0,[],[],rfl,⟨he.pk,hm⟩,⟨rfl,MapRel.nil⟩⟩ ?_
 clear hm he
 rintro mm a w ⟨i,mv,lv,hmu,⟨he,hm⟩,hI61⟩ L60 hL60
 replace hm:=hm.nf
 obtain ⟨hI61,rv⟩:=hI61
 by_cases h63:i < l.length
 refine go fun a he =>?_
 obtain ⟨q67,rfl,x68,hx69,cs70,hl71,ha72,hr73⟩:=rl.el hn1 h63
 obtain ⟨b74,rfl,h75⟩:=id hr73
 obtain ⟨p78,c79,rfl,hi82,h77,hm80,hn81⟩:=RVal.fm h75
 refine Alc fun b83 w hm a he =>?_
 refine Sto 0 fun w hm a he =>?_
 refine uX 2 runUnderlying100 runUnderlying9 fun w hm a he =>?_
 refine go fun a he =>?_
 replace hm:=hm.dl [0]
 refine hL60 _ _ _ (by subst hmu;omega) ⟨(i+1),((mZ mv x68.name (.agg (List.toArray [.string x68.value.con,.int .i64 (x68.value.num),.slice p78 x68.value.args.length c79])))),((qM lv x68.name x68.value)),rfl,⟨he.pk,hm⟩,?_⟩
 refine ⟨?_,(rv.put ⟨_,rfl,h75⟩)⟩
 rw [hI61,zA hx69];rfl
 refine go fun a he =>?_
 have hm0_:=hm
 clear hm
 obtain ⟨Ψ86,le87,hm,hma88⟩:=hm0_.freezeMap (i:=1) rfl
 clear hm0_
 replace rpc:=RCore.mono _ _ _ _ le87 rpc
 replace G:=G.mono le87
 replace hT37:=hT37.mono le87
 replace rv:=rv.up le87
 replace hm:=hm.nf
 have rG_:RGiven Ψ86 (.map (some b56)) (z6r l):=by
  have e_:z6r l=lv:=by rw [hI61,zE h63];rfl
  rw [e_];exact .inl ⟨_,_,rfl,hma88,rv⟩
 replace hm:=hm.nf
 refine go fun a he =>?_
 replace hm:=hm.ar [] [3,2,3,6,4,5,7]
 refine st he rfl rfl rfl (pD he rfl call55 (q6p (inp:=z6r l) rpc hT37 rG_ (j2h hlk36) (j2i hlk36) (by omega) (hrs hlk36 hgv_ fu) hm) (fun q89 y90 w hq91 hG92 hm a he =>?_) (fun q89 w hq91 hm a he =>?_))
 obtain ⟨xs93,g94⟩:=q89
 obtain ⟨Ψ95,u96,cl97,vo98⟩:=y90
 obtain ⟨le99,htot100,hcl101,hsl102,hnw103⟩:=hG92
 simp only at le99 htot100 hcl101 hsl102 hnw103 hm he
 replace hnw103:=hnw103.anti ((le34).trans le87)
 obtain ⟨p104,c105,rfl,hmx106,hnx107⟩:=hsl102.fm
 replace rpc:=RCore.mono _ _ _ _ le99 rpc
 replace G:=G.mono le99
 replace rG_:=RGiven.mono le99 rG_
 replace hm:=hm.nf
 refine Qq (fun a he =>?_) (o:=by exact fun he hs=>nL false he rfl rfl rfl)
 replace hm:=hm.pl 1
 refine zZ call57 (fun w hm a he =>?_) (c:=y2s (l:=cl97) (by have h_:=hcl101;omega) hm)
 refine Sto 2 fun w hm a he =>?_
 refine Sto 3 fun w hm a he =>?_
 refine go fun a he =>?_
 have hmr:=hm
 replace hm:=hm.dl [3,2,1,0]
 refine hQ _ _ _ (z4y (i:=3) (cs:=[.slice p104 (kH c.outputs xs93).length c105,.int .i64 ((aK cl97))]) he hmr.toSees results33 rfl rfl isAgg53 sizeOf53 rfl rfl ?_)
 have hr_:mR c l (((fu:Nat):Int))=(⟨kH c.outputs xs93,((fu - g94:Nat):Int)⟩,((0:Nat):Int)):=by
  simp only [mR,if_neg (not_not_intro hlk36)]
  rw [if_neg (by omega),if_neg (by rw [hgv_];decide),Int.toNat_natCast,hq91] <;> rfl
 rw [hr_]
 exact ⟨(Ψ95,_),rfl,⟨((le34).trans le87).trans le99,⟨_,by rw [show (⟨kH c.outputs xs93,((fu - g94:Nat):Int)⟩:Outcome).steps=aK cl97 from htot100.symm],hsl102⟩,fun _ _ e_=>by cases e_;exact hnw103⟩,hm⟩
 have hc112:=q0n hq91
 replace hm:=hm.nf
 refine yJ fun a he =>?_
 refine Sto 0 fun w hm a he =>?_
 refine go fun a he =>?_
 have hmr:=hm
 replace hm:=hm.dl [0]
 refine hQ _ _ _ (z4y (i:=0) (cs:=[.slice none 0 0,.int .i64 ((0:Nat):Int)]) he hmr.toSees results33 rfl rfl isAgg53 sizeOf53 rfl rfl ?_)
 have hr_:mR c l (((fu:Nat):Int))=(y8j,((q89:Nat):Int)):=by
  simp only [mR,if_neg (not_not_intro hlk36)]
  rw [if_neg (by omega),if_neg (by rw [hgv_];decide),Int.toNat_natCast,hq91] <;> rfl
 rw [hr_]
 exact ⟨(Ψ86,_),rfl,⟨(le34).trans le87,⟨_,rfl,SliceOf.nil 4⟩,fun _ _ e_=>by cases e_;exact NewRow.nil⟩,hm⟩
 refine yJ fun a he =>?_
 refine Sto 1 fun w hm a he =>?_
 refine go fun a he =>?_
 have hmr:=hm
 replace hm:=hm.dl [3,2,1,0]
 refine hQ _ _ _ (z4y (i:=1) (cs:=[.slice none 0 0,.int .i64 ((0:Nat):Int)]) he hmr.toSees results33 rfl rfl isAgg53 sizeOf53 rfl rfl ?_)
 have hr_:mR c l (fuel)=(y8j,8):=by
  simp only [mR,if_neg (not_not_intro hlk36)];rw [if_neg (by have h1_:=h45;have h2_:=h43;omega),if_pos (show aH (zR c) l c.inputs=false from hB48)] <;> rfl
 rw [hr_]
 exact ⟨(Ψ32,_),rfl,⟨le34,⟨_,rfl,SliceOf.nil 4⟩,fun _ _ e_=>by cases e_;exact NewRow.nil⟩,hm⟩
 rw [if_neg hlk36] at he
 refine Alc fun b117 w hm a he =>?_
 refine Sto 0 fun w hm a he =>?_
 refine yJ fun a he =>?_
 refine Sto 1 fun w hm a he =>?_
 refine go fun a he =>?_
 have hmr:=hm
 replace hm:=hm.dl [3,2,1,0]
 refine hQ _ _ _ (z4y (i:=1) (cs:=[.slice none 0 0,.int .i64 ((0:Nat):Int)]) he hmr.toSees results33 rfl rfl isAgg53 sizeOf53 rfl rfl ?_)
 have hr_:mR c l (fuel)=(y8j,yC c):=by
  simp only [mR,if_pos hlk36]
 rw [hr_]
 exact ⟨(Ψ32,_),rfl,⟨le34,⟨_,rfl,SliceOf.nil 4⟩,fun _ _ e_=>by cases e_;exact NewRow.nil⟩,hm⟩
theorem uQ {Φ:Fz} {K:List Res} {w:World} {d0:List Value} {v1:Value} {c:Core} {l:List Named} {fuel:Int} (rpc:RCore Φ d0 c) (rl:SliceOf RNamed Φ 4 v1 l) (G:Glob Φ) (hm:Mem Φ K w) :
  Calls prog 33 (List.toArray [.agg d0.toArray,v1,.int .i64 fuel]) w (fun ee w'=>∃y:Fz×List Value,ee=.returned (.tuple (List.toArray [.agg y.2.toArray,.int .i64 (mR c l fuel).2]))∧(Φ.Le y.1∧ROutcome y.1 y.2 (mR c l fuel).1)∧Mem y.1 K w'):=by
 refine (q6n rpc rl (fun h hg g=>run_ns h hg g) G hm).mono fun ee w' h =>?_
 obtain ⟨y,h1,⟨h2,h3,_⟩,h4⟩:=h
 exact ⟨y,h1,⟨h2,h3⟩,h4⟩
end Go.Sw

namespace Go.Sw
open Go.Proofs
section
variable {c:Core} {name:Bs} {args:List Val} {fuel:Int}
end
end Go.Sw

namespace Go.Sw
section
variable {P:Program} {n:Nat} {E:List (Nat×Value)} {D:List Deferred} {a:Act} {Φ:Fz} {K:List Res} {w:World} {ty:TypeId}
variable {Kn:Value→World→Prop} {Qp:List PanicEntry→World→Prop} {dst:Option Tmp} {pos:String} {aft:Array Edge} {g:Option (Nat×Bool)}
end
end Go.Sw

namespace Go.Sw
open Go.Proofs
section
variable {P:Program} {n:Nat} {E:List (Nat×Value)} {D:List Deferred} {a:Act} {Φ:Fz} {K:List Res} {w:World} {ty:TypeId}
variable {Kn:Value→World→Prop} {Qp:List PanicEntry→World→Prop} {dst:Option Tmp} {pos:String} {aft:Array Edge} {g:Option (Nat×Bool)}
end
end Go.Sw

namespace Go.Sw
end Go.Sw

namespace Go.Sw
open Go.Proofs
set_option maxRecDepth 20000
set_option maxHeartbeats 4000000
end Go.Sw

namespace Go.Sw
open Go.Proofs
set_option maxRecDepth 20000
set_option maxHeartbeats 4000000
end Go.Sw

namespace Go.Sw
open Go.Proofs
set_option maxRecDepth 20000
set_option maxHeartbeats 4000000
end Go.Sw

namespace Go.Sw
def ofTx (l:Tx):Bs:=⟨l.toArray⟩
theorem q9g (s:Bs):ofTx (tx s)=s:=by
 apply ByteArray.ext;simp [ofTx,tx]
theorem tx_size (s:Bs):(tx s).length=s.size:=by
 simp only [tx,Array.length_toList];rfl
section
variable {e:Ex}
end
theorem uH:∀(f n:Nat),n < f→(y4g f n).reverse=Lib.decDigits n
 | 0,_,h=>by omega
 | f+1,n,h=>by
  rw [Lib.decDigits]
  simp only [y4g]
  by_cases hn:n < 10
  ·rw [if_pos hn,dif_pos hn];rfl
  ·rw [if_neg hn,dif_neg hn,List.reverse_cons,uH f (n / 10) (by omega)];try rfl
theorem q8w (n:Int):Lib.itoa n=y0d n:=by
 have h:∀u,q8p u=Lib.decDigits u:=fun u=>uH (u+1) u (Nat.lt_succ_self _)
 unfold Lib.itoa y0d
 split
 ·rw [h,show n.natAbs=(-n).toNat by omega]
 ·rw [h]
theorem y0e (n:Int):aM n=ofTx (y0d n):=by unfold aM ofTx;rw [q8w]
section
variable {e:Ex}
end
end Go.Sw

namespace Go.Sw
section
variable {c:Core} {e:Ex} {vars:List Param}
end
end Go.Sw

namespace Go.Sw
section
variable {P:Program} {n:Nat} {E:List (Nat×Value)} {D:List Deferred} {a:Act} {Φ:Fz} {K:List Res} {w:World} {ty:TypeId}
end
end Go.Sw

namespace Go.Sw
open Go.Proofs
section
variable {P:Program} {n:Nat} {E:List (Nat×Value)} {D:List Deferred} {a:Act} {Φ:Fz} {K:List Res} {w:World}
variable {Kn:Value→World→Prop} {Qp:List PanicEntry→World→Prop} {dst:Option Tmp} {ty:TypeId} {pos:String} {aft:Array Edge} {g:Option (Nat×Bool)}
theorem z9e {t:TypeId} {x:Operand} {s:Bs} (ht:Under P t .string) (he:EnvR n E D a) (hm:Mem Φ K w) (hx:ev E x=some (.string s))
  (k:∀r w',Mem Φ (.blk r (.stringIter s 0)::K) w'→Kn (.pointer (some ⟨r,0,none⟩)) w'):Oper.eff P ⟨dst,.range t x,ty,pos,aft,g⟩ a w Kn Qp:=by
 unfold Oper.eff
 have:(execOp a.eval ⟨dst,.range t x,ty,pos,aft,g⟩).run P w=.ok (.value (.pointer (some ⟨w.heap.size,0,none⟩))) { w with heap:=w.heap.push (.stringIter s 0) }:=by
  simp only [execOp,he.ev hx,Instr.range,Sem.run_bind,ht w,Result.andThen_ok]
  simp [newObj,Sem.run,Sem.run_bind,Result.andThen]
 rw [this]
 exact k _ _ (hm.push _)
theorem y4i (i:Nat) {x:Operand} {r q:Nat} {s:Bs} (he:EnvR n E D a) (hm:Mem Φ K w) (hx:ev E x=some (.pointer (some ⟨r,0,none⟩)))
  (hK:qJ K i=some (.blk r (.stringIter s q)))
  (k0:¬q < s.size→∀w',Mem Φ K w'→Kn (.tuple (List.toArray [.bool false])) w')
  (k1:q < s.size→∀w',Mem Φ (wK K i (.blk r (.stringIter s (q+(Utf8.decode s q).2)))) w'→Kn (.tuple (List.toArray [.bool true,.int .i64 ((q:Nat):Int),.int .i32 (((Utf8.decode s q).1:Nat):Int)])) w') :
  Oper.eff P ⟨dst,.next x true,ty,pos,aft,g⟩ a w Kn Qp:=by
 have hr:w.heap[r]? = some (.stringIter s q):=hm.own _ (qH hK)
 have hlt:r < w.heap.size:=(Array.getElem?_eq_some_iff.1 hr).1
 have hset:∀o,(setObj r o).run P w=.ok () { w with heap:=w.heap.setIfInBounds r o }:=fun o=>by simp only [setObj,Sem.run,hr]
 unfold Oper.eff
 by_cases hq:q < s.size
 ·have:(execOp a.eval ⟨dst,.next x true,ty,pos,aft,g⟩).run P w=.ok (.value (.tuple (List.toArray [.bool true,.int .i64 ((q:Nat):Int),.int .i32 (((Utf8.decode s q).1:Nat):Int)]))) { w with heap:=w.heap.setIfInBounds r (.stringIter s (q+(Utf8.decode s q).2)) }:=by
   simp only [execOp,he.ev hx,Instr.next,getObj,Sem.run_bind,Sem.run,hr,Result.andThen,hq,if_true,hset]
   simp [goInt]
  rw [this]
  refine k1 hq _ (hm.upd hK rfl rfl (fun c hc hne =>?_) ?_ (.inl rfl))
  ·simp only;rw [Array.getElem?_setIfInBounds_ne (fun e=>hne (by simp [Res.foot,e]))]
  ·simp [Res.sat,hlt]
 ·have:(execOp a.eval ⟨dst,.next x true,ty,pos,aft,g⟩).run P w=.ok (.value (.tuple (List.toArray [.bool false]))) w:=by
   simp only [execOp,he.ev hx,Instr.next,getObj,Sem.run_bind,Sem.run,hr,Result.andThen,hq,if_false]
   simp [Sem.run_pure]
  rw [this]
  exact k0 hq _ hm
theorem q3n {x:Operand} {src d:TypeId} {k:IntKind} {i:Int} (he:EnvR n E D a) (hx:ev E x=some (.int k i)) (hs:P.underlying src=some (.int k)) (hd:P.underlying d=some .string):Ok P a (.convert src d x) ty w (.string (Utf8.encode i)):=fun _ _ _ _=>by
 have:=run_convert_int_string (P:=P) w src d k i (by rw [hs];rfl) hd
 simp only [execOp,he.ev hx]
 simp [Sem.run_bind,this,Result.andThen]
end
theorem z0m (s:Bs) {i:Nat} (h:i < s.size):(s.get! i).toNat=zJ s i:=by
 rw [mL h];congr 1;exact get_at s i h
theorem cM {s:Bs} {q:Nat} (h:q < s.size) (hb:zJ s q < 128):Utf8.decode s q=(zJ s q,1):=by
 have h0:(s.get! (q+0)).toNat=zJ s q:=z0m s h
 simp only [Utf8.decode,h0]
 rw [if_pos hb]
theorem sZ {s:Bs} {q:Nat} (h:q < s.size) (hb:128≤zJ s q):128≤(Utf8.decode s q).1∧(Utf8.decode s q).1≤2147483647∧1≤(Utf8.decode s q).2∧∀j,j < (Utf8.decode s q).2→q+j < s.size∧128≤zJ s (q+j):=by
 have hh:=decode_high s q h (by rw [← mL h];exact hb)
 refine ⟨hh.1,decode_le s q,hh.2,?_⟩
 have h0:(s.get! (q+0)).toNat=zJ s q:=z0m s h
 have hc:∀k,(decide (q+k < s.size)&&((s.get! (q+k)).toNat / 64==2))=true→q+k < s.size∧128≤zJ s (q+k):=fun k hk=>by
  simp only [Bool.and_eq_true,decide_eq_true_eq,beq_iff_eq] at hk
  have:=z0m s hk.1
  exact ⟨hk.1,by omega⟩
 have h1:q+0 < s.size∧128≤zJ s (q+0):=⟨h,hb⟩
 simp only [Utf8.decode,h0]
 rw [if_neg (by omega)]
 have one:∀j,j < 1→q+j < s.size∧128≤zJ s (q+j):=fun j hj=>(show 0=j by omega)▸h1
 split
 ·rename_i g
  simp only [Bool.and_eq_true] at g
  split
  ·intro j hj
   rcases (by omega:j=0∨j=1) with rfl | rfl
   ·exact h1
   ·exact hc 1 (by simpa using g.2)
  ·exact one
 ·split
  ·rename_i g
   simp only [Bool.and_eq_true] at g
   split
   ·intro j hj
    rcases (by omega:j=0∨j=1∨j=2) with rfl | rfl | rfl
    ·exact h1
    ·exact hc 1 (by simpa using g.1.2)
    ·exact hc 2 (by simpa using g.2)
   ·exact one
  ·split
   ·rename_i g
    simp only [Bool.and_eq_true] at g
    split
    ·intro j hj
     rcases (by omega:j=0∨j=1∨j=2∨j=3) with rfl | rfl | rfl | rfl
     ·exact h1
     ·exact hc 1 (by simpa using g.1.1.2)
     ·exact hc 2 (by simpa using g.1.2)
     ·exact hc 3 (by simpa using g.2)
    ·exact one
   ·exact one
theorem q0m {r:Int} (h:128≤r):1≤(Utf8.encode r).size∧(Utf8.encode r).size≤4∧128≤zJ (Utf8.encode r) ((Utf8.encode r).size - 1):=by
 have hn:¬(if Utf8.valid r=true then r.toNat else Utf8.runeError) < 128:=by
  split
  ·omega
  ·simp [Utf8.runeError]
 unfold Utf8.encode
 generalize (if Utf8.valid r=true then r.toNat else Utf8.runeError)=c at hn
 simp only
 rw [if_neg hn]
 split
 ·refine ⟨(by show 1≤2;omega),(by show 2≤4;omega),?_⟩
  show 128≤(UInt8.ofNat (128+c % 64)).toNat
  simp;omega
 ·split
  ·refine ⟨(by show 1≤3;omega),(by show 3≤4;omega),?_⟩
   show 128≤(UInt8.ofNat (128+c % 64)).toNat
   simp;omega
  ·refine ⟨(by show 1≤4;omega),(by show 4≤4;omega),?_⟩
   show 128≤(UInt8.ofNat (128+c % 64)).toNat
   simp;omega
end Go.Sw

namespace Go.Sw
open Go.Proofs.Tryz
open Go.Proofs
set_option maxRecDepth 20000
set_option maxHeartbeats 4000000
def tZ (r:Nat):Bool:=decide (r < 55296) || (decide (57343 < r)&&decide (r≤1114111))
theorem j8z {s:Bs} {i:Nat} {c:UInt8} (h:∀j,j < s.size→zJ s j < 128) (hc:s[i]? = some c):c.toNat < 128:=by
 rw [← qT hc]
 refine h i ?_
 by_cases hl:i < s.size
 exact hl
 have:s[i]? = none:=by simp;omega
 rw [this] at hc;cases hc
theorem ix_none {s:Bs} {i c:Nat} (h:∀j,j < s.size→zJ s j < 128) (h1:128≤c) (h2:c < 256):Lib.indexByte (s.extract i s.size).data.toList ((c:Nat):Int).toNat.toUInt8=-1:=by
 have hm:¬((c:Nat):Int).toNat.toUInt8∈(s.extract i s.size).data.toList:=fun hx=>by
  obtain ⟨j,hj⟩:=List.mem_iff_getElem?.1 hx
  have h3:=q0r hj
  rw [z9g h3] at hj
  injection hj with hj
  have h4:=h (i+j) h3
  rw [mL h3,hj] at h4
  simp at h4
  omega
 have h5:=Lib.contains_iff_indexByte (s.extract i s.size).data.toList ((c:Nat):Int).toNat.toUInt8
 rw [show (s.extract i s.size).data.toList.contains (((c:Nat):Int).toNat.toUInt8)=false by simpa using hm] at h5
 have h6:=of_decide_eq_false h5.symm
 have h7:=Lib.indexByte_ge (s.extract i s.size).data.toList ((c:Nat):Int).toNat.toUInt8
 omega
theorem y9b {Φ:Fz} {K:List Res} {w:World} {r:Nat} (hm:Mem Φ K w) :
  Calls prog 200 (List.toArray [.int .i32 ((r:Nat):Int)]) w (fun ee w'=>ee=.returned (.bool (tZ r))∧Mem Φ K w'):=by
 refine zL func200 ntmps200 fun Q hQ a he =>?_
 by_cases h4:0≤r
 by_cases h5:r < 55296
 refine zI ?_
 exact zV hm (by simp [tZ];omega)
 by_cases h8:57343 < r
 refine go fun a he =>?_
 by_cases h9:r≤1114111
 refine zI ?_
 exact zV hm (by simp [tZ];omega)
 refine zI ?_
 exact zV hm (by simp [tZ];omega)
 refine zI ?_
 exact zV hm (by simp [tZ];omega)
 by_cases h14:57343 < r
 by_cases h15:r≤1114111
 refine zI ?_
 exact zV hm (by simp [tZ];omega)
 refine zI ?_
 exact zV hm (by simp [tZ];omega)
 refine zI ?_
 exact zV hm (by simp [tZ];omega)
theorem z9z {Φ:Fz} {K:List Res} {w:World} {s:Bs} {r:Nat} (hr:128≤r) (hr2:r≤2147483647) (hs:∀j,j < s.size→zJ s j < 128) (h2:s.size≤1000000) (hm:Mem Φ K w) :
  Calls prog 187 (List.toArray [.string s,.int .i32 ((r:Nat):Int)]) w (fun ee w'=>ee=.returned (.int .i64 (-1))∧Mem Φ K w'):=by
 refine zL func187 ntmps187 fun Q hQ a he =>?_
 refine Qq (fun a he =>?_) (o:=by exact fun he hs=>y6u true he rfl rfl (decide_eq_true (Int.ofNat_le.2 (Nat.zero_le r))))
 by_cases h3:r < 128
 refine go fun a he =>?_
 exfalso
 omega
 by_cases h6:r=65533
 refine go fun a he =>?_
 refine st he rfl rfl rfl (z9e runUnderlying9 he hm rfl fun r9 w hm a he =>?_)
 refine go fun a he =>?_
 refine yF (he.ks [175]) hm (fun R mm a w=>∃(q:Nat),mm=s.size - q∧R Φ [] [(0,.blk r9 (.stringIter s q))] a w∧(True)) (s.size - 0) ⟨0,rfl,⟨he.pk,hm⟩,trivial⟩ ?_
 clear hm he
 rintro mm a w ⟨q,hmu,⟨he,hm⟩,hI11⟩ L10 hL10
 replace hm:=hm.nf
 refine go fun a he =>?_
 refine st he rfl rfl rfl (y4i 0 he hm rfl rfl (fun hq13 w hm a he =>?_) (fun hq14 w hm a he =>?_))
 refine zI ?_
 replace hm:=hm.dl [0]
 exact ⟨rfl,hm⟩
 by_cases h20:(Utf8.decode s q).1=65533
 refine go fun a he =>?_
 exfalso
 rw [cM hq14 (hs _ hq14)] at h20;have h_:=hs _ hq14;have h2_:=h20;simp only at h2_;omega
 refine go fun a he =>?_
 refine hL10 (s.size - (q+(Utf8.decode s q).2)) _ _ (by subst hmu;rw [cM hq14 (hs _ hq14)];have h_:=hq14;omega) ⟨(q+(Utf8.decode s q).2),rfl,⟨he.pk,hm⟩,?_⟩
 trivial
 refine yK call200 (fun hB23 w hm a he =>?_) (fun hB23 w hm a he =>?_) (c:=y9b hm)
 refine go fun a he =>?_
 refine wp_scope_straight ?_
 refine Qq (fun a he =>?_) (o:=by exact fun he hs=>q3n he rfl underlying21 underlying9)
 refine go fun a he =>?_
 obtain ⟨he1_,he2_,he3_⟩:=q0m (r:=((r:Nat):Int)) (by omega)
 obtain ⟨rs,hrs_⟩:∃rs,rs=Utf8.encode ((r:Nat):Int):=⟨_,rfl⟩
 rw [← hrs_] at he he1_ he2_ he3_
 refine Qq (fun a he =>?_) (o:=by exact fun he hs=>pY ((rs.size - 1:Nat):Int) he rfl rfl (by rw [yX (by omega)];omega))
 refine go fun a he =>?_
 refine yF (he.ks [0,7,8]) hm (fun R mm a w=>∃(i:Nat),mm=s.size - i∧R Φ [(9,.int .i64 ((i:Nat):Int))] [] a w∧(True)) (s.size - (rs.size - 1)) ⟨rs.size - 1,rfl,⟨he.pk,hm⟩,trivial⟩ ?_
 clear hm he
 rintro mm a w ⟨i,hmu,⟨he,hm⟩,hI30⟩ L29 hL29
 by_cases h33:i < s.size
 refine go fun a he =>?_
 refine wp_scope_straight ?_
 refine Reg [1,1,1,1,1,1,1] [] fun w hm a he =>?_
 obtain ⟨c36,hc37⟩:=wU h33
 refine Qq (fun a he =>?_) (o:=by exact fun he hs=>kR i c36 he rfl rfl runUnderlying9 hc37)
 have hb38:rs.size - 1 < rs.size:=by omega
 obtain ⟨c39,hc40⟩:=wU hb38
 refine Qq (fun a he =>?_) (o:=by exact fun he hs=>kR (rs.size - 1) c39 he rfl rfl runUnderlying9 hc40)
 by_cases h41:c36.toNat=c39.toNat
 refine go fun a he =>?_
 exfalso
 have h_:=j8z hs (show s[i]? = some c36 by assumption)
 have h2_:=qT hc40
 omega
 refine Reg [1,1,1,1,1,1,1,0,1] [] fun w hm a he =>?_
 refine Qq (fun a he =>?_) (o:=by exact fun he hs=>xO (i+1) (s.size) he rfl runUnderlying9 ⟨_,rfl⟩ rfl (by omega) (by exact Nat.le_refl _))
 obtain ⟨c45,hc46⟩:=wU hb38
 refine Qq (fun a he =>?_) (o:=by exact fun he hs=>kR (rs.size - 1) c45 he rfl rfl runUnderlying9 hc46)
 refine zZ call199 (fun w hm a he =>?_) (c:=oM (s:=(s.extract (i+1) s.size)) (c:=c45.toNat) hm)
 by_cases h49:Lib.indexByte (s.extract (i+1) s.size).data.toList (((c45.toNat:Nat):Int)).toNat.toUInt8 < 0
 refine zI ?_
 exact ⟨rfl,hm⟩
 refine go fun a he =>?_
 exfalso
 have h_:=ix_none (i:=i+1) hs (show 128≤c45.toNat by rw [← qT hc46];exact he3_) (UInt8.toNat_lt _)
 rw [h_] at h49
 exact h49 (by decide)
 refine zI ?_
 exact ⟨rfl,hm⟩
 refine zI ?_
 exact ⟨rfl,hm⟩
end Go.Sw

namespace Go.Sw
open Go.Proofs.Tryz
open Go.Proofs
set_option maxRecDepth 20000
set_option maxHeartbeats 4000000
variable {Φ:Fz} {K:List Res} {w:World}
def ixR (s:Bs) (q:Nat):Int:=if zJ s q < 128 then Lib.indexByte [32,10,40,41] ((zJ s q:Nat):Int).toNat.toUInt8 else -1
theorem q8x {s:Bs} {q:Nat} (h:q < s.size):decide (0≤ixR s q)=y2e (zJ s q):=by
 unfold ixR
 split
 rw [← Lib.contains_iff_indexByte,mL h]
 have e:(((s[q].toNat:Nat):Int)).toNat.toUInt8=s[q]:=by simp
 rw [e]
 exact nF _
 have:zJ s q≠32∧zJ s q≠10∧zJ s q≠40∧zJ s q≠41:=by omega
 simp [y2e,this]
theorem x0k {b:Nat} (h:128≤b):y2e b=false:=by
 have:b≠32∧b≠10∧b≠40∧b≠41:=by omega
 simp [y2e,this]
theorem q5t {s:Bs} {q:Nat} (hN:Lib.NoAny s.data.toList [32,10,40,41] q) (hq:q < s.size) (hn:¬0≤ixR s q):Lib.NoAny s.data.toList [32,10,40,41] (q+(Utf8.decode s q).2):=by
 have h0:y2e (zJ s q)=false:=(q8x hq).symm.trans (decide_eq_false hn)
 have hb:∀j,j < s.size→∀b,s.data.toList[j]? = some b→b.toNat=zJ s j:=fun j hj b hb=>by
  rw [Array.getElem?_toList] at hb
  exact (qT (t:=s) (i:=j) (c:=b) hb).symm
 have hl:∀(j:Nat) b,s.data.toList[j]? = some b→j < s.size:=fun j b hb=>by
  have:=(List.getElem?_eq_some_iff.1 hb).1
  rwa [Array.length_toList] at this
 intro j b hj hx
 by_cases hjq:j < q
 exact hN j b hjq hx
 rw [nF,hb j (hl j b hx) b hx]
 by_cases hlow:zJ s q < 128
 rw [cM hq hlow] at hj
 simp only at hj
 obtain rfl:j=q:=by omega
 exact h0
 have h2:=(sZ hq (by omega)).2.2.2 (j - q) (by omega)
 rw [show q+(j - q)=j by omega] at h2
 exact x0k h2.2
theorem j5c {s:Bs} {q:Nat} (h:q < s.size):s.size - (q+(Utf8.decode s q).2) < s.size - q:=by
 by_cases hl:zJ s q < 128
 rw [cM h hl];simp only;omega
 have h2:=(sZ h (by omega)).2.2.1
 omega
theorem j2s {s:Bs} {q:Nat} (hN:Lib.NoAny s.data.toList [32,10,40,41] q) (hq:¬q < s.size):Lib.indexAny s.data.toList [32,10,40,41]=-1 :=
 Lib.indexAny_none fun j b hj hx=>hN j b (by rw [Array.length_toList] at hj;have:s.data.size=s.size:=rfl;omega) hx
theorem j2t {s:Bs} {q:Nat} (hN:Lib.NoAny s.data.toList [32,10,40,41] q) (hq:q < s.size) (hh:0≤ixR s q):Lib.indexAny s.data.toList [32,10,40,41]=((q:Nat):Int) :=
 Lib.indexAny_hit (x:=s[q]) hN (by rw [Array.getElem?_toList];exact Array.getElem?_eq_getElem hq) (by rw [nF,← mL hq,← q8x hq];exact decide_eq_true hh)
theorem y3m {s:Bs} {q:Nat} (hq:q < s.size) (hm:Mem Φ K w) :
  Calls prog 187 (List.toArray [.string ⟨#[32,10,40,41]⟩,.int .i32 (((Utf8.decode s q).1:Nat):Int)]) w (fun ee w'=>ee=.returned (.int .i64 (ixR s q))∧Mem Φ K w'):=by
 unfold ixR
 by_cases h:zJ s q < 128
 rw [cM hq h,if_pos h]
 have L:=Tryz.lays153
 exact (Any.strings_IndexRune_ascii { L with } ⟨#[32,10,40,41]⟩ ((zJ s q:Nat):Int) w (by omega) (by omega)).mono fun e w' he=>by obtain ⟨h1,rfl⟩:=he;exact ⟨h1,hm⟩
 rw [if_neg h]
 have hd:=sZ hq (by omega)
 exact z9z hd.1 hd.2.1 (by decide) (by decide) hm
theorem y8w {n:Nat}  (hm:Mem Φ K w) :
  Calls prog 188 (List.toArray [.int .i64 (n:Int)]) w (fun ee w'=>ee=.returned (.bool (decide (8 < n)))∧Mem Φ K w'):=by
 refine zL func188 ntmps188 fun Q hQ a he =>?_
 refine Qq (fun a he =>?_) (o:=by exact fun he hs=>y_gtrN (i:=n) (j:=8) he rfl rfl)
 refine zI ?_
 exact zV hm (by simp [*])
theorem z9x {s:Bs} (h8:s.size≤8) (hm:Mem Φ K w) :
  Calls prog 176 (List.toArray [.string s,.string ⟨#[32,10,40,41]⟩]) w (fun ee w'=>ee=.returned (.int .i64 (Lib.indexAny s.data.toList [32,10,40,41]))∧Mem Φ K w'):=by
 obtain ⟨ch,hch_⟩:∃ch:ByteArray,ch=⟨#[32,10,40,41]⟩:=⟨_,rfl⟩
 rw [← hch_]
 refine zL func176 ntmps176 fun Q hQ a he =>?_
 by_cases h4:ch=(⟨#[]⟩:ByteArray)
 refine go fun a he =>?_
 exfalso
 have h_:=h4;rw [hch_] at h_;revert h_;decide
 by_cases h8:ch.size=1
 refine go fun a he =>?_
 exfalso
 have h_:=h8;rw [hch_] at h_;revert h_;decide
 refine yK call188 (fun hB12 w hm a he =>?_) (fun hB12 w hm a he =>?_) (c:=y8w hm)
 refine go fun a he =>?_
 exfalso
 have h_:=of_decide_eq_true hB12;omega
 refine go fun a he =>?_
 refine st he rfl rfl rfl (z9e runUnderlying9 he hm rfl fun r16 w hm a he =>?_)
 refine go fun a he =>?_
 refine yF (he.ks [1,45]) hm (fun R mm a w=>∃(q:Nat),mm=s.size - q∧R Φ [] [(0,.blk r16 (.stringIter s q))] a w∧(Lib.NoAny s.data.toList [32,10,40,41] q)) (s.size - 0) ⟨0,rfl,⟨he.pk,hm⟩,Lib.NoAny.zero _ _⟩ ?_
 clear hm he
 rintro mm a w ⟨q,hmu,⟨he,hm⟩,hI18⟩ L17 hL17
 replace hm:=hm.nf
 have hN_:=hI18
 refine go fun a he =>?_
 refine st he rfl rfl rfl (y4i 0 he hm rfl rfl (fun hq20 w hm a he =>?_) (fun hq21 w hm a he =>?_))
 refine zI ?_
 replace hm:=hm.dl [0]
 exact ⟨by rw [j2s hN_ hq20],hm⟩
 refine zZ call187 (fun w hm a he =>?_) (c:=(hch_▸y3m (s:=s) (q:=q) hq21 hm))
 by_cases h27:0≤ixR s q
 refine zI ?_
 replace hm:=hm.dl [0]
 exact ⟨by rw [j2t hN_ hq21 h27],hm⟩
 refine go fun a he =>?_
 refine hL17 (s.size - (q+(Utf8.decode s q).2)) _ _ (by subst hmu;exact j5c hq21) ⟨(q+(Utf8.decode s q).2),rfl,⟨he.pk,hm⟩,?_⟩
 exact q5t hN_ hq21 h27
theorem j0a {t:Bs} {i:Nat} (h2:t.size≤1000000) (hi:i≤t.size) (hm:Mem Φ K w) :
  Calls prog 176 (List.toArray [.string (t.extract i t.size),.string ⟨#[32,10,40,41]⟩]) w (fun ee w'=>ee=.returned (.int .i64 (if i+qF t i < t.size then ((qF t i:Nat):Int) else -1))∧Mem Φ K w'):=by
 have h3:=ByteArray.size_extract (a:=t) (b:=i) (e:=t.size)
 rw [← j0b hi]
 by_cases h8:(t.extract i t.size).size≤8
 exact z9x h8 hm
 have L:=Tryz.lays153
 have hz:(prog.info? (Tryz.lays153_ren.t 116)).map (fun i=>(i.zero,i.size))=some (some (.agg (Array.replicate 256 (.bool false))),256):=by kernel_rfl
 refine (Any.strings_IndexAny_long L (zero_of_info hz).1 (zero_of_info hz).2 (t.extract i t.size) ⟨#[32,10,40,41]⟩ w (by decide) (by omega) (by omega) (by decide) ?_).mono fun e w' he =>?_
 intro j b hb
 have hl:(⟨#[32,10,40,41]⟩:ByteArray).data.toList=[32,10,40,41]:=rfl
 rw [hl] at hb
 have:=List.mem_of_getElem? hb
 simp only [List.mem_cons,List.not_mem_nil,or_false] at this
 rcases this with rfl | rfl | rfl | rfl <;> decide
 obtain ⟨rfl,rfl⟩:=he
 exact ⟨rfl,hm.below (((Go.RowKit.Below.refl _ _).alloc (Nat.le_refl _) _).alloc (by simp) _)⟩
end Go.Sw

namespace Go.Sw
open Go.Proofs.Tryz
open Go.Proofs
set_option maxRecDepth 20000
set_option maxHeartbeats 4000000
theorem x1p {Φ:Fz} {K:List Res} {w:World} {t:Bs} (hm:Mem Φ K w) :
  Calls prog 138 (List.toArray [.string t]) w (fun ee w'=>∃y:Nat,ee=.returned (.func (.func 175) (List.toArray []) (List.toArray [.pointer (some ⟨y,0,none⟩)]))∧True∧Mem Φ (.blk y (ob [.string t] 9)::K) w'):=by
 refine zL func138 ntmps138 fun Q hQ a he =>?_
 refine Bx fun b2 w hm a he =>?_
 refine zI ?_
 exact ⟨_,rfl,trivial,hm⟩
theorem j4c {β:Type} {Φ:Fz} {w:World} {t:Bs} {bx l:Nat} {KY:List Bs→β→List Res} {z:β} (h2:t.size≤1000000)
  (hy:∀pre z K0 (k:Bs) w,pre.length < t.size→Mem Φ (K0++KY pre z) w→YieldAt Fence.wide 2 prog l #[.string k] w (fun e w'=>e=.returned (.bool true)∧∃z',Mem Φ (K0++KY (pre++[k]) z') w'))
  (hm:Mem Φ (.blk bx (ob [.string t] 9)::KY [] z) w) :
  Calls prog 175 (List.toArray [.func (.yield l) #[] #[],.pointer (some ⟨bx,0,none⟩)]) w (fun ee w'=>∃y:β,ee=.returned (.tuple #[])∧Mem Φ (KY (gJ t) y) w'):=by
 refine zL func175 ntmps175 fun Q hQ a he =>?_
 refine go fun a he =>?_
 refine xD (fun mm a w=>∃(i:Nat) (f:Nat) (pre:List Bs) (z0:β),mm=t.size - i∧EnvR 52 [(0,.func (.yield l) #[] #[]),(1,.pointer (some ⟨bx,0,none⟩)),(3,.int .i64 ((i:Nat):Int))] [] a∧Mem Φ (.blk bx (ob [.string t] 9)::KY pre z0) w∧(i≤t.size∧pre.length≤i∧t.size≤i+f∧gJ t=pre++vX t f i)) (t.size - 0) ⟨0,t.size,[],z,rfl,he.pk,hm,⟨Nat.zero_le _,Nat.zero_le _,by omega,rfl⟩⟩ ?_
 clear hm he
 rintro mm a w ⟨i,f,pre,z0,hmu,he,hm,hI3⟩ L2 hL2
 obtain ⟨hi0_,hi1_,hi2_,hI_⟩:=hI3
 by_cases h6:i < t.size
 obtain ⟨c8,hc9⟩:=wU h6
 refine Qq (fun a he =>?_) (o:=by exact fun he hs=>kR i c8 he rfl rfl runUnderlying9 hc9)
 refine goJ 10 fun a he =>?_
 refine sq fun L10 hL10 =>?_
 have hJ11:∀a w,(EnvR 52 [(0,.func (.yield l) #[] #[]),(1,.pointer (some ⟨bx,0,none⟩)),(3,.int .i64 ((i:Nat):Int)),(11,.int .u8 ((c8.toNat:Nat):Int)),(34,.bool (decide (zJ t i=32∨zJ t i=10)))] [] a∧Mem Φ (.blk bx (ob [.string t] 9)::KY pre z0) w∧(True))→L10 a w:=by
  clear hm he
  rintro a w ⟨he,hm,hI12⟩
  refine hL10 _ _ ?_
  generalize hb14:(decide (zJ t i=32∨zJ t i=10))=bb13 at he
  cases bb13
  refine goJ 13 fun a he =>?_
  refine sq fun L15 hL15 =>?_
  have hJ16:∀a w,(EnvR 52 [(0,.func (.yield l) #[] #[]),(1,.pointer (some ⟨bx,0,none⟩)),(3,.int .i64 ((i:Nat):Int)),(39,.bool (decide (zJ t i=40∨zJ t i=41)))] [] a∧Mem Φ (.blk bx (ob [.string t] 9)::KY pre z0) w∧(True))→L15 a w:=by
   clear hm he
   rintro a w ⟨he,hm,hI17⟩
   refine hL15 _ _ ?_
   generalize hb19:(decide (zJ t i=40∨zJ t i=41))=bb18 at he
   cases bb18
   have hwl_:=z1i (t:=t) (i:=i) (by omega)
   have hwp_:=q3l h6 (of_decide_eq_false hb14) (of_decide_eq_false hb19)
   refine Qq (fun a he =>?_) (o:=by exact fun he hs=>xO i (t.size) he rfl runUnderlying9 ⟨_,rfl⟩ rfl (by omega) (by exact Nat.le_refl _))
   refine zZ call176 (fun w hm a he =>?_) (c:=j0a (i:=i) (by omega) (by omega) hm)
   refine goJ 6 fun a he =>?_
   refine sq fun L21 hL21 =>?_
   have hJ22:∀a w,(EnvR 52 [(0,.func (.yield l) #[] #[]),(1,.pointer (some ⟨bx,0,none⟩)),(3,.int .i64 ((i:Nat):Int)),(4,.int .i64 ((qF t i:Nat):Int))] [] a∧Mem Φ (.blk bx (ob [.string t] 9)::KY pre z0) w∧(True))→L21 a w:=by
    clear hm he
    rintro a w ⟨he,hm,hI23⟩
    refine hL21 _ _ ?_
    refine go1 fun a he =>?_
    refine xH ?_
    refine yO he (by intro c h;cases h) (qQ he rfl) rfl fun a he =>?_
    refine yO he (by intro c h;cases h) (yS 0 he hm.toSees rfl rfl rfl isAgg9) rfl fun a he =>?_
    refine yO he (by intro c h;cases h) (qQ he rfl) rfl fun a he =>?_
    refine yO he (by intro c h;cases h) (qQ he rfl) rfl fun a he =>?_
    refine yO he (by intro c h;cases h) (qQ he rfl) rfl fun a he =>?_
    refine yO he (by intro c h;cases h) (pM (i:=i) (j:=qF t i) he rfl rfl (by omega)) rfl fun a he =>?_
    refine yO he (by intro c h;cases h) (xO i (i+qF t i) he rfl runUnderlying9 ⟨_,rfl⟩ ⟨_,rfl⟩ (by omega) (by omega)) rfl fun a he =>?_
    refine z9w (v:=.string (t.extract i (i+qF t i))) he rfl rfl rfl (hy pre z0 [.blk bx (ob [.string t] 9)] (t.extract i (i+qF t i)) w (by omega) hm) fun w hJ_ a he =>?_
    obtain ⟨z26,hm⟩:=hJ_
    replace hm:=hm.nf
    refine yO he (by intro c h;cases h) (uC he rfl) rfl fun a he =>?_
    refine wpListIn_nil ?_
    refine Qq (fun a he =>?_) (o:=by exact fun he hs=>pM (i:=i) (j:=(qF t i)) he rfl rfl (by omega))
    refine go fun a he =>?_
    refine hL2 _ _ _ (by subst hmu;omega) ⟨((i+(qF t i))),(f - 1),(pre++[(t.extract i (i+qF t i))]),(z26),rfl,he.pk,hm,?_⟩
    exact ⟨by omega,by simp only [List.length_append,List.length_cons,List.length_nil];omega,by omega,by rw [hI_,q7s h6 (by omega) (of_decide_eq_false hb14) (of_decide_eq_false hb19),List.append_assoc];rfl⟩
   by_cases h28:(if i+qF t i < t.size then ((qF t i:Nat):Int) else -1) < 0
   have hwn_:=x1n (by omega) h28
   refine Qq (fun a he =>?_) (o:=by exact fun he hs=>pY ((qF t i:Nat):Int) he rfl rfl (by rw [yX (by omega)];omega))
   refine go fun a he =>?_
   exact hJ22 _ _ ⟨he.pk,hm,trivial⟩
   refine go fun a he =>?_
   rw [x1o h28] at he
   exact hJ22 _ _ ⟨he.pk,hm,trivial⟩
   refine go1 fun a he =>?_
   refine xH ?_
   refine yO he (by intro c h;cases h) (qQ he rfl) rfl fun a he =>?_
   refine yO he (by intro c h;cases h) (yS 0 he hm.toSees rfl rfl rfl isAgg9) rfl fun a he =>?_
   refine yO he (by intro c h;cases h) (qQ he rfl) rfl fun a he =>?_
   refine yO he (by intro c h;cases h) (qQ he rfl) rfl fun a he =>?_
   refine yO he (by intro c h;cases h) (pM (i:=i) (j:=1) he rfl rfl (by omega)) rfl fun a he =>?_
   refine yO he (by intro c h;cases h) (xO i (i+1) he rfl runUnderlying9 ⟨_,rfl⟩ ⟨_,rfl⟩ (by omega) (by omega)) rfl fun a he =>?_
   refine z9w (v:=.string (t.extract i (i+1))) he rfl rfl rfl (hy pre z0 [.blk bx (ob [.string t] 9)] (t.extract i (i+1)) w (by omega) hm) fun w hJ_ a he =>?_
   obtain ⟨z31,hm⟩:=hJ_
   replace hm:=hm.nf
   refine yO he (by intro c h;cases h) (uC he rfl) rfl fun a he =>?_
   refine wpListIn_nil ?_
   refine go fun a he =>?_
   refine hL2 _ _ _ (by subst hmu;omega) ⟨((i+1)),(f - 1),(pre++[(t.extract i (i+1))]),(z31),rfl,he.pk,hm,?_⟩
   exact ⟨by omega,by simp only [List.length_append,List.length_cons,List.length_nil];omega,by omega,by rw [hI_,j4e h6 (by omega) (of_decide_eq_false hb14) (of_decide_eq_true hb19),List.append_assoc];rfl⟩
  by_cases h33:c8.toNat=40
  refine go fun a he =>?_
  exact hJ16 _ _ (by rw [show decide (zJ t i=40∨zJ t i=41)=true from decide_eq_true (.inl ((qT hc9).trans h33))];exact ⟨he.pk,hm,trivial⟩)
  by_cases h34:c8.toNat=41
  refine go fun a he =>?_
  exact hJ16 _ _ (by rw [show decide (zJ t i=40∨zJ t i=41)=true from decide_eq_true (.inr ((qT hc9).trans h34))];exact ⟨he.pk,hm,trivial⟩)
  refine go fun a he =>?_
  exact hJ16 _ _ (by rw [show decide (zJ t i=40∨zJ t i=41)=false from decide_eq_false (by rw [qT hc9];exact fun hh=>hh.elim h33 h34)];exact ⟨he.pk,hm,trivial⟩)
  refine go fun a he =>?_
  refine hL2 _ _ _ (by subst hmu;omega) ⟨(i+1),(f - 1),(pre),(z0),rfl,he.pk,hm,?_⟩
  exact ⟨by omega,by omega,by omega,by rw [hI_,x1q h6 (by omega) (of_decide_eq_true hb14)]⟩
 by_cases h36:c8.toNat=32
 refine go fun a he =>?_
 exact hJ11 _ _ (by rw [show decide (zJ t i=32∨zJ t i=10)=true from decide_eq_true (.inl ((qT hc9).trans h36))];exact ⟨he.pk,hm,trivial⟩)
 by_cases h37:c8.toNat=10
 refine go fun a he =>?_
 exact hJ11 _ _ (by rw [show decide (zJ t i=32∨zJ t i=10)=true from decide_eq_true (.inr ((qT hc9).trans h37))];exact ⟨he.pk,hm,trivial⟩)
 refine go fun a he =>?_
 exact hJ11 _ _ (by rw [show decide (zJ t i=32∨zJ t i=10)=false from decide_eq_false (by rw [qT hc9];exact fun hh=>hh.elim h36 h37)];exact ⟨he.pk,hm,trivial⟩)
 refine go fun a he =>?_
 replace hm:=hm.dl [0]
 refine hQ _ _ _ (y5y he results175 ?_)
 rw [hI_,j4d h6,List.append_nil];exact ⟨z0,rfl,hm⟩
end Go.Sw

namespace Go.Sw
open Go.Proofs.Tryz
open Go.Proofs
abbrev wrongRE (n:Nat) (r:Bool):PanicEntry:={ v:=.iface 206 (.agg #[.int .i64 ((n:Nat):Int)]),recovered:=r }
theorem q1a:zK prog 206 0 0:=zD runUnderlying206 rfl sizeOf3 (by decide) rfl
set_option maxRecDepth 20000 in
set_option maxHeartbeats 4000000 in
theorem y7c {Φ:Fz} {K:List Res} {w:World} {bc bw n:Nat} {s t u v x:Value} (hm:Mem Φ (.blk bc (ob [s,t,u,v] 27)::.blk bw (ob [x] 3)::K) w) :
  CallsD prog 137 #[.pointer (some ⟨bc,0,none⟩),.pointer (some ⟨bw,0,none⟩)] (.panicking (mI n)) w fun e u' w' =>
   e=.returned (.tuple #[])∧u'=.panicking [wrongRE n true]∧Mem Φ (.blk bc (ob [.slice none 0 0,.slice none 0 0,.slice none 0 0,.slice none 0 0] 27)::.blk bw (ob [.int .i64 ((n:Nat):Int)] 3)::K) w':=by
 generalize hR:(fun (e:Ending) (u':FrameMode) (w':World)=>e=.returned (.tuple #[])∧u'=.panicking [wrongRE n true]∧Mem Φ (.blk bc (ob [.slice none 0 0,.slice none 0 0,.slice none 0 0,.slice none 0 0] 27)::.blk bw (ob [.int .i64 ((n:Nat):Int)] 3)::K) w')=R
 refine callsD_of_wpS func137 rfl fun c₀ cs hu =>?_
 apply wpS_seq
 apply wpS_region
 show wpOpsS prog _ _ [0,1] _ _ _
 simp [wpOpsS,go_sem,recoverD,hu,ntmps137,Exit.thenS,mI]
 refine wpS_of_wp ?_
 generalize hc:(_::cs:List Frame)=cs'
 have hQ:∀(a:Act) (w':World),a.defers=[]→Mem Φ (.blk bc (ob [.slice none 0 0,.slice none 0 0,.slice none 0 0,.slice none 0 0] 27)::.blk bw (ob [.int .i64 ((n:Nat):Int)] 3)::K) w'→bodyPostS prog Tryz.f137 c₀ cs R .normal a cs' w':=fun a w' hd hm =>
  ⟨hd,.panicking [wrongRE n true],hc.symm,.tuple #[],results_none rfl _ _ _,by subst hR;exact ⟨rfl,rfl,hm⟩⟩
 generalize hact:(Act.mk _ [])=a
 have he:EnvR 19 [(2,.iface 206 (.agg (List.toArray [.int .i64 ((n:Nat):Int)]))),(1,.pointer (some ⟨bw,0,none⟩)),(0,.pointer (some ⟨bc,0,none⟩))] [] a:=by
  subst hact
  refine ⟨by simp,fun t v h =>?_,rfl⟩
  obtain ⟨rfl,rfl⟩ | ⟨_,h⟩:=kA h
  ·simp
  ·obtain ⟨rfl,rfl⟩ | ⟨_,h⟩:=kA h
   ·simp
   ·obtain ⟨rfl,rfl⟩ | ⟨_,h⟩:=kA h
    ·simp
    ·cases h
 clear hact
 refine sq fun L1 hL1 =>?_
 refine wp_region_lit ?_
 refine jG he (qQ he rfl) rfl fun a he =>?_
 refine jG he (aO (v:=.bool true) he rfl rfl rfl (by kernel_rfl)) rfl fun a he =>?_
 refine wpList_nil ?_
 refine hL1 _ _ ?_
 refine if_t he rfl ?_
 refine sq fun L2 hL2 =>?_
 refine wp_region_lit ?_
 refine jG he (qQ he rfl) rfl fun a he =>?_
 refine jG he (y2y he rfl runUnderlying206 (by intro ms h;cases h)) rfl fun a he =>?_
 refine jG he (qQ he rfl) rfl fun a he=>jG he (nU he rfl rfl) rfl fun a he=>jG he (nU he rfl rfl) rfl fun a he =>?_
 refine st he rfl rfl rfl (yG (cs:=[.int .i64 ((0:Nat):Int)]) hm zeroValue206 rfl fun b3 w hm a he =>?_)
 refine st0 he rfl rfl (zP 0 (cs:=[.int .i64 ((0:Nat):Int)]) (vs:=[.int .i64 ((n:Nat):Int)]) he hm rfl rfl rfl rfl sizeOf206 rfl rfl rfl fun w hm a he =>?_)
 refine jG he (vJ he rfl) rfl fun a he =>?_
 refine wpList_nil ?_
 refine hL2 _ _ ?_
 replace hm:Mem Φ (.blk b3 (ob [.int .i64 ((n:Nat):Int)] 206)::.blk bc (ob [s,t,u,v] 27)::.blk bw (ob [x] 3)::K) w:=hm
 refine sq fun L3 hL3 =>?_
 refine sq fun L4 hL4 =>?_
 refine wp_region_lit ?_
 refine jG he (qQ he rfl) rfl fun a he=>jG he (uC he rfl) rfl fun a he =>?_
 refine wpList_nil ?_
 refine hL4 _ _ ?_
 refine if_f he rfl ?_
 refine wp_skip ?_
 refine hL3 _ _ ?_
 refine aC [1,1,2,0,0] (.q 0 (.q 1 (.q 2 (.e 3 (.e 4 (.done)))))) [.blk b3 (ob [.int .i64 ((n:Nat):Int)] 206)] he hm mixed (by kernel_rfl) (by simp) fun w hm =>?_
 refine z8v he rfl rfl (fun w=>aY (vs:=[]) (cs:=[.slice none 0 0,.slice none 0 0,.slice none 0 0,.slice none 0 0]) he rfl (by kernel_rfl)) rfl fun a he =>?_
 refine z8v he rfl rfl (fun w=>qP he rfl q1a rfl) rfl fun a he =>?_
 refine d_q he rfl rfl (fun w hs=>yS 0 he hs rfl rfl rfl isAgg3) rfl fun a he =>?_
 refine vM he rfl rfl (zP 1 (cs:=[s,t,u,v]) (vs:=[.slice none 0 0,.slice none 0 0,.slice none 0 0,.slice none 0 0]) he hm rfl rfl rfl rfl sizeOf27 rfl rfl rfl fun w hm=>⟨fun _=>hm.seesIn (Fz.Le.refl _) (by simp [wK]),fun a he =>?_⟩)
 refine vM he rfl rfl (zP 2 (cs:=[x]) (vs:=[.int .i64 ((n:Nat):Int)]) he hm rfl rfl rfl rfl sizeOf3 rfl rfl rfl fun w hm=>⟨zY (by kernel_rfl),fun a he =>?_⟩)
 refine y7d ?_
 replace hm:Mem Φ (.blk bc (ob [.slice none 0 0,.slice none 0 0,.slice none 0 0,.slice none 0 0] 27)::.blk bw (ob [.int .i64 ((n:Nat):Int)] 3)::K) w:=hm.del 0
 exact hQ _ _ he.defs hm
set_option maxRecDepth 20000 in
theorem catchR_none {w:World} {bc bw:Nat} :
  CallsD prog 137 #[.pointer (some ⟨bc,0,none⟩),.pointer (some ⟨bw,0,none⟩)] .returning w fun e u' w'=>e=.returned (.tuple #[])∧u'=.returning∧w'=w:=by
 generalize hR:(fun (e:Ending) (u':FrameMode) (w':World)=>e=.returned (.tuple #[])∧u'=.returning∧w'=w)=R
 refine callsD_of_wpS func137 rfl fun c₀ cs hu =>?_
 apply wpS_seq
 apply wpS_region
 show wpOpsS prog _ _ [0,1] _ _ _
 simp [wpOpsS,go_sem,recoverD,hu,ntmps137,Exit.thenS]
 refine wpS_of_wp ?_
 have hQ:∀(a:Act),a.defers=[]→bodyPostS prog Tryz.f137 c₀ cs R .normal a (c₀::cs) w:=fun a hd =>
  ⟨hd,.returning,by cases c₀;simp only at hu;subst hu;rfl,.tuple #[],results_none rfl _ _ _,by subst hR;exact ⟨rfl,rfl,rfl⟩⟩
 generalize hact:(Act.mk _ [])=a
 have he:EnvR 19 [(2,.nilIface)] [] a:=by
  subst hact
  refine ⟨by simp,fun t v h =>?_,rfl⟩
  obtain ⟨rfl,rfl⟩ | ⟨_,h⟩:=kA h
  ·simp
  ·cases h
 clear hact
 refine sq fun L1 hL1 =>?_
 refine wp_region_lit ?_
 refine jG he (qQ he rfl) rfl fun a he =>?_
 refine jG he (aO (v:=.bool false) he rfl rfl rfl (by kernel_rfl)) rfl fun a he =>?_
 refine wpList_nil ?_
 refine hL1 _ _ ?_
 refine if_f he rfl ?_
 refine wp_skip ?_
 exact hQ _ he.defs
end Go.Sw

namespace Go.Sw
open Go.Proofs.Tryz
open Go.Proofs
theorem fo_75_0:zK prog 75 0 0:=zD runUnderlying75 rfl sizeOf27 (by decide) rfl
theorem fo_75_1:zK prog 75 1 4:=zD runUnderlying75 rfl sizeOf25 (by decide) rfl
theorem fo_75_2:zK prog 75 2 5:=zD runUnderlying75 rfl sizeOf47 (by decide) rfl
theorem fo_75_3:zK prog 75 3 6:=zD runUnderlying75 rfl sizeOf71 (by decide) rfl
theorem fo_75_4:zK prog 75 4 7:=zD runUnderlying75 rfl sizeOf72 (by decide) rfl
theorem fo_75_5:zK prog 75 5 8:=zD runUnderlying75 rfl sizeOf73 (by decide) rfl
theorem fo_78_0:zK prog 78 0 0:=zD runUnderlying78 rfl sizeOf9 (by decide) rfl
theorem fo_86_0:zK prog 86 0 0:=zD runUnderlying86 rfl sizeOf25 (by decide) rfl
theorem fo_86_1:zK prog 86 1 1:=zD runUnderlying86 rfl sizeOf84 (by decide) rfl
theorem fo_86_2:zK prog 86 2 2:=zD runUnderlying86 rfl sizeOf84 (by decide) rfl
theorem fo_95_0:zK prog 95 0 0:=zD runUnderlying95 rfl sizeOf9 (by decide) rfl
theorem fo_95_1:zK prog 95 1 1:=zD runUnderlying95 rfl sizeOf9 (by decide) rfl
theorem q0z:zK prog 131 0 0:=zD runUnderlying131 rfl sizeOf78 (by decide) rfl
theorem j6l:zK prog 131 1 1:=zD runUnderlying131 rfl sizeOf112 (by decide) rfl
theorem j6x:zK prog 261 1 1:=zD runUnderlying261 rfl sizeOf3 (by decide) rfl
theorem j6z:zK prog 261 3 3:=zD runUnderlying261 rfl sizeOf3 (by decide) rfl
set_option maxRecDepth 20000 in
theorem rt_47:RowT prog 47 95 2 32:=⟨underlying47,⟨_,_,Tryz.type95,rfl,rfl,rfl,rfl⟩,by decide,by decide⟩
end Go.Sw

namespace Go.Sw
section
variable {P:Program} {ops:Array Oper} {md:Region.Mode} {B:World→Prop} {kd:List Nat} {Qp:List PanicEntry→World→Prop} {D:List Deferred}
end
theorem EnvR.keep {n:Nat} {E0:List (Nat×Value)} {D:List Deferred} {a:Act} {o:Oper} {v:Value} (he:EnvR n E0 D a) (ho:(match o.dst with | some d=>(get E0 d).isNone | none=>true)=true):EnvR n E0 D (a.put o.dst v):=by
 cases hd:o.dst with
 | none=>exact he
 | some d =>
  rw [hd] at ho
  refine ⟨by simp [Act.put,he.size],fun t u h =>?_,he.defs⟩
  have:t≠d:=fun e=>by subst e;simp only [h] at ho;cases ho
  simp only [Act.put]
  rw [Array.getElem?_setIfInBounds_ne (Ne.symm this)]
  exact he.env t u h
theorem aW {P:Program} {n:Nat} {E0:List (Nat×Value)} {D:List Deferred} {a:Act} {Φ:Fz} {K:List Res} {w:World} {id:Nat} {l:List Oper} {Q:Exit→Act→World→Prop} (kd:List Nat) (p:Plan) (K':List Res) (h0:EnvR n E0 D a) (hm:Mem Φ K w) (hw:P.follows .mixedOrders=true) (hB:z2u l.toArray kd p=true) (hK:∀r∈K',r∈K)
  (ho:l.all (fun o=>match o.dst with | some d=>(get E0 d).isNone | none=>true)=true)
  (h:∀w,Mem Φ K w→zW P .any l.toArray (Sees Φ K') kd (fun c w=>∀a,EnvR n E0 D a→Q (.panic c) a w) (Q .normal) p a w):(Code.region id l.toArray true).wp P Q a w:=by
 have hm':=hm.drew
 have h:=h _ hm'
 simp only [z2u,Bool.and_eq_true,beq_iff_eq] at hB
 obtain ⟨⟨⟨hs,hev⟩,hl⟩,hok⟩:=hB
 refine (wpIn_wide (n:=3)).1 (wpIn_region_any hw (nJ (r:=none) (Inv:=EnvR n E0 D) (kd:=kd) (B:=Sees Φ K') (Qp:=fun c w=>∀a,EnvR n E0 D a→Q (.panic c) a w) (Q:=Q .normal) (fun h=>absurd rfl h) (fun i o a v hi he=>he.keep ?_) (fun _ _ h=>h) (fun c a w he h=>h a he) _ _ _ _ h0 (fun _=>⟨hm'.fz,fun r hr=>hm'.own r (hK r hr)⟩) ?_))
 ·have h1:l[i]? = some o:=by simpa using hi
  exact List.all_eq_true.1 ho o (List.mem_of_getElem? h1)
 ·have:=xZ hs p _ _ _ hev hok h
  rw [hl] at this
  exact this
theorem nX {P:Program} {n m:Nat} {r:Option Nat} {E:List (Nat×Value)} {a:Act} {Φ:Fz} {K:List Res} {w:World} {id:Nat} {l:List Oper} {Q:Exit→Act→World→Prop} (kd:List Nat) (p:Plan) (K':List Res) (he:EnvR n E [] a) (hm:Mem Φ K w) (hw:P.follows .mixedOrders=true) (hB:z2u l.toArray kd p=true) (hK:∀r∈K',r∈K)
  (ho:l.all (fun o=>match o.op with | .defer _=>false | _=>true)=true)
  (h:∀w,Mem Φ K w→zW P .any l.toArray (Sees Φ K') kd (fun _ _=>False) (Q .normal) p a w):(Code.region id l.toArray true).wpIn (FO r) m P Q a w:=by
 have hm':=hm.drew
 have h:=h _ hm'
 simp only [z2u,Bool.and_eq_true,beq_iff_eq] at hB
 obtain ⟨⟨⟨hs,hev⟩,hl⟩,hok⟩:=hB
 refine wpIn_region_any hw (nJ (Inv:=fun _=>True) (kd:=kd) (B:=Sees Φ K') (Qp:=fun _ _=>False) (Q:=Q .normal) (fun _ i o hi c hc =>?_) (fun _ _ _ _ _ h=>h) (fun _ _ h=>h) (fun _ _ _ _ h=>h.elim) _ _ _ _ trivial (fun _=>⟨hm'.fz,fun r hr=>hm'.own r (hK r hr)⟩) ?_)
 ·have h1:l[i]? = some o:=by simpa using hi
  have h2:=List.all_eq_true.1 ho o (List.mem_of_getElem? h1)
  rw [hc] at h2;cases h2
 ·have:=xZ hs p _ _ _ hev hok h
  rw [hl] at this
  exact this
end Go.Sw
