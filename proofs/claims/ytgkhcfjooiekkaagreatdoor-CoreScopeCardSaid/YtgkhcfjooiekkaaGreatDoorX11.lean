import Derived.Test.YtgkhcfjooiekkaaGreatDoorProg
import Derived.Lib.AppendStr
import Derived.Lib.UnsafeStr
import Derived.Shelf.Strings.Builder1
import Derived.Lib.MakeNoZero
import Derived.Test.YtgkhcfjooiekkaaGreatDoorX04
import Derived.Test.YtgkhcfjooiekkaaGreatDoorX06
import Derived.Test.YtgkhcfjooiekkaaGreatDoorX10
set_option linter.unusedVariables false
set_option linter.unusedSimpArgs false
namespace Go.Sw
open Go.Proofs.Tryz
open Go.Proofs
set_option maxRecDepth 20000
set_option maxHeartbeats 4000000
theorem callAll_ok {Φ:Fz} {K:List Res} {w:World} {d0:List Value} {va:Value} {c:Core} {name:Bs} {args:List Val} {fuel:Int} (rpc:RCore Φ d0 c) (rl:SliceOf RVal Φ 3 va args) (hcs:z1g c=0→CallSafe c name args) (G:Glob Φ) (hm:Mem Φ K w) :
  Calls Tryz.prog 20 (List.toArray [.agg d0.toArray,.string name,va,.int .i64 fuel]) w (fun ee w'=>∃y:Fz×List Value,ee=.returned (.tuple (List.toArray [.agg y.2.toArray,.int .i64 (z1f c name args fuel).2.1,.int .i64 (z1f c name args fuel).2.2]))∧(Φ.Le y.1∧RVal y.1 y.2 (z1f c name args fuel).1)∧Mem y.1 K w'):=by
 obtain ⟨p3,c4,p9,c10,p15,c16,p21,c22,rfl,h2,h8,h14,h20,hm5,hn6,hm11,hn12,hm17,hn18,hm23,hn24⟩:=RCore.fm rpc
 obtain ⟨pa_,ca_,rfl,hma_,hna_⟩:=rl.fm
 refine z0l func20 ntmps20 fun Q hQ a he =>?_
 refine Bx he hm fun b26 w hm a he =>?_
 refine Bx he hm fun b27 w hm a he =>?_
 refine Bx he hm fun b28 w hm a he =>?_
 refine Alc he hm fun b29 w hm a he =>?_
 refine z2i call43 he hm (fun y31 w hG32 hm a he =>?_) (c:=look_ok rpc G hm)
 obtain ⟨Ψ33,p34⟩:=y31
 obtain ⟨le35,hT36⟩:=hG32
 simp only at le35 hT36 hm he
 replace rpc:=RCore.mono _ _ _ _ le35 rpc
 replace G:=G.mono le35
 replace rl:=rl.up le35
 replace hm:=hm.nf
 by_cases hlk37:z1g c=0
 obtain ⟨hT38,hlong39⟩:=hT36 hlk37
 rw [if_pos hlk37,hlk37] at he
 obtain ⟨cs56,m40,m41,m42,m43,d44,d45,d46,d47,hat57,hcl58,hcore59,ma48,mr52,ma49,mr53,ma50,mr54,ma51,mr55⟩:=hT38.ex
 obtain ⟨p62,c63,p68,c69,p74,c75,p80,c81,rfl,h61,h67,h73,h79,hm64,hn65,hm70,hn71,hm76,hn77,hm82,hn83⟩:=RCore.fm hcore59
 refine Alc he hm fun b84 w hm a he =>?_
 refine Sto 0 he hm fun w hm a he =>?_
 refine Qq he hm (fun a he =>?_) (o:=by exact fun _ _ _ he hs=>y_ineq false he rfl rfl rfl)
 refine go he hm fun a he =>?_
 rcases hf88:mget (d46) name with _ | vf89
 have hf88_:=congrArg (z0i true (.agg (List.toArray [.string ⟨#[]⟩,.slice none 0 0,.string ⟨#[]⟩,.int .i64 ((0:Nat):Int),.int .i64 ((0:Nat):Int),.string ⟨#[]⟩,.slice none 0 0,.slice none 0 0]))) hf88
 refine Qq he hm (fun a he =>?_) (o:=by exact fun _ _ _ he hs=>Ok.cast (z0o runUnderlying103 runUnderlying9 zeroValue68 he hs rfl rfl ma50) (show z0i true (.agg (List.toArray [.string ⟨#[]⟩,.slice none 0 0,.string ⟨#[]⟩,.int .i64 ((0:Nat):Int),.int .i64 ((0:Nat):Int),.string ⟨#[]⟩,.slice none 0 0,.slice none 0 0])) (mget (d46) name)=.tuple (List.toArray [.agg (List.toArray [.string ⟨#[]⟩,.slice none 0 0,.string ⟨#[]⟩,.int .i64 ((0:Nat):Int),.int .i64 ((0:Nat):Int),.string ⟨#[]⟩,.slice none 0 0,.slice none 0 0]),.bool false]) from hf88_))
 refine Alc he hm fun b90 w hm a he =>?_
 refine Sto 0 he hm fun w hm a he =>?_
 refine go he hm fun a he =>?_
 by_cases h93:fuel < 0
 refine z1h he hm fun a he =>?_
 refine Sto 2 he hm fun w hm a he =>?_
 refine go he hm fun a he =>?_
 have hmr:=hm
 replace hm:=hm.dl [5,4,3,2,1,0]
 refine hQ _ _ _ (z8l (i:=2) (cs:=[.string ⟨#[]⟩,.int .i64 ((0:Nat):Int),.slice none 0 0]) he hmr.toSees results20 rfl rfl isAgg42 sizeOf42 rfl rfl rfl ?_)
 have hr_:z1f c name args fuel=(v0,0,1):=z8y hlk37 (by have h_:=h93;omega)
 rw [hr_]
 exact ⟨(Ψ33,_),rfl,⟨le35,RVal.iff.2 ⟨_,rfl,(show I64 0 from ⟨by decide,by decide⟩),SliceOf.nil 3⟩⟩,hm⟩
 refine go he hm fun a he =>?_
 by_cases h95:200000 < fuel
 refine z1h he hm fun a he =>?_
 refine Sto 2 he hm fun w hm a he =>?_
 refine go he hm fun a he =>?_
 have hmr:=hm
 replace hm:=hm.dl [5,4,3,2,1,0]
 refine hQ _ _ _ (z8l (i:=2) (cs:=[.string ⟨#[]⟩,.int .i64 ((0:Nat):Int),.slice none 0 0]) he hmr.toSees results20 rfl rfl isAgg42 sizeOf42 rfl rfl rfl ?_)
 have hr_:z1f c name args fuel=(v0,0,1):=z8y hlk37 (by have h_:=h95;omega)
 rw [hr_]
 exact ⟨(Ψ33,_),rfl,⟨le35,RVal.iff.2 ⟨_,rfl,(show I64 0 from ⟨by decide,by decide⟩),SliceOf.nil 3⟩⟩,hm⟩
 refine z1h he hm fun a he =>?_
 refine Sto 2 he hm fun w hm a he =>?_
 refine go he hm fun a he =>?_
 have hmr:=hm
 replace hm:=hm.dl [5,4,3,2,1,0]
 refine hQ _ _ _ (z8l (i:=2) (cs:=[.string ⟨#[]⟩,.int .i64 ((0:Nat):Int),.slice none 0 0]) he hmr.toSees results20 rfl rfl isAgg42 sizeOf42 rfl rfl rfl ?_)
 have hr_:z1f c name args fuel=(v0,0,3):=callAll_none hlk37 (by have h1_:=h95;have h2_:=h93;omega) (MapRel.none mr54 hf88)
 rw [hr_]
 exact ⟨(Ψ33,_),rfl,⟨le35,RVal.iff.2 ⟨_,rfl,(show I64 0 from ⟨by decide,by decide⟩),SliceOf.nil 3⟩⟩,hm⟩
 obtain ⟨y99,hy100,cs101,rfl,hr102⟩:=mr54.get hf88
 obtain ⟨s103,b109,rfl,h104,h110⟩:=id hr102
 obtain ⟨p105,c106,rfl,hm107,hn108⟩:=h104.fm
 obtain ⟨p113,c114,p119,c120,rfl,hi123,h112,h118,hm115,hn116,hm121,hn122⟩:=REx.fm h110
 have hf88_:=congrArg (z0i true (.agg (List.toArray [.string ⟨#[]⟩,.slice none 0 0,.string ⟨#[]⟩,.int .i64 ((0:Nat):Int),.int .i64 ((0:Nat):Int),.string ⟨#[]⟩,.slice none 0 0,.slice none 0 0]))) hf88
 refine Qq he hm (fun a he =>?_) (o:=by exact fun _ _ _ he hs=>Ok.cast (z0o runUnderlying103 runUnderlying9 zeroValue68 he hs rfl rfl ma50) (show z0i true (.agg (List.toArray [.string ⟨#[]⟩,.slice none 0 0,.string ⟨#[]⟩,.int .i64 ((0:Nat):Int),.int .i64 ((0:Nat):Int),.string ⟨#[]⟩,.slice none 0 0,.slice none 0 0])) (mget (d46) name)=.tuple (List.toArray [.agg (List.toArray [.string y99.name,.slice p105 y99.params.length c106,.string y99.result,.int .i64 (y99.body.kind),.int .i64 (y99.body.num),.string y99.body.name,.slice p113 y99.body.args.length c114,.slice p119 y99.body.arms.length c120]),.bool true]) from hf88_))
 refine Alc he hm fun b124 w hm a he =>?_
 refine Sto 0 he hm fun w hm a he =>?_
 refine go he hm fun a he =>?_
 by_cases h127:fuel < 0
 refine z1h he hm fun a he =>?_
 refine Sto 2 he hm fun w hm a he =>?_
 refine go he hm fun a he =>?_
 have hmr:=hm
 replace hm:=hm.dl [5,4,3,2,1,0]
 refine hQ _ _ _ (z8l (i:=2) (cs:=[.string ⟨#[]⟩,.int .i64 ((0:Nat):Int),.slice none 0 0]) he hmr.toSees results20 rfl rfl isAgg42 sizeOf42 rfl rfl rfl ?_)
 have hr_:z1f c name args fuel=(v0,0,1):=z8y hlk37 (by have h_:=h127;omega)
 rw [hr_]
 exact ⟨(Ψ33,_),rfl,⟨le35,RVal.iff.2 ⟨_,rfl,(show I64 0 from ⟨by decide,by decide⟩),SliceOf.nil 3⟩⟩,hm⟩
 refine go he hm fun a he =>?_
 by_cases h129:200000 < fuel
 refine z1h he hm fun a he =>?_
 refine Sto 2 he hm fun w hm a he =>?_
 refine go he hm fun a he =>?_
 have hmr:=hm
 replace hm:=hm.dl [5,4,3,2,1,0]
 refine hQ _ _ _ (z8l (i:=2) (cs:=[.string ⟨#[]⟩,.int .i64 ((0:Nat):Int),.slice none 0 0]) he hmr.toSees results20 rfl rfl isAgg42 sizeOf42 rfl rfl rfl ?_)
 have hr_:z1f c name args fuel=(v0,0,1):=z8y hlk37 (by have h_:=h129;omega)
 rw [hr_]
 exact ⟨(Ψ33,_),rfl,⟨le35,RVal.iff.2 ⟨_,rfl,(show I64 0 from ⟨by decide,by decide⟩),SliceOf.nil 3⟩⟩,hm⟩
 replace hm:=hm.pl 1
 refine z1n call59 he hm (fun hB133 w hm a he =>?_) (fun hB133 w hm a he =>?_) (c:=eqFunc_Val (Φ:=Ψ33) (K:=.blk b84 (ob [.pointer (some p34)] 89)::.blk b124 (ob [.string y99.name,.slice p105 y99.params.length c106,.string y99.result,.int .i64 (y99.body.kind),.int .i64 (y99.body.num),.string y99.body.name,.slice p113 y99.body.args.length c114,.slice p119 y99.body.arms.length c120] 68)::.blk b29 (ob [.string ⟨#[]⟩,.int .i64 ((0:Nat):Int),.slice none 0 0] 42)::.blk b28 (ob [.int .i64 (fuel)] 3)::.blk b27 (ob [.slice pa_ args.length ca_] 38)::.blk b26 (ob [.slice p3 c.datas.length c4,.slice p9 c.inputs.length c10,.slice p15 c.funs.length c16,.slice p21 c.outputs.length c22] 27)::K) (p:=fun v p => !z6e v&&hasP (z0f c) v p.type) (fs:=[]) (cs:=[.pointer (some ⟨b84,0,none⟩)]) rl h104 call60 (fun x c y d w hx hy hc hd hm=>call1_ok hc hd hT38 hm) hm)
 refine go he hm fun a he =>?_
 have hgv_:givenA (z0f c) args y99.params=true:=(givenA_eq _ _ _).trans hB133
 refine BldS he hm fun v136 w hm a he =>?_
 have hm0_:=hm
 clear hm
 obtain ⟨bq137,cap138,arr139,hv_,hq140,hm⟩:=gs_queue (l:=[name]) (i:=0) hm0_ rfl (by simp)
 clear hm0_
 have hmk_:=hm
 clear hm
 subst hv_
 have hm:=hmk_
 clear hmk_
 replace hm:=hm.nf
 refine z2i call62 he hm (fun y141 w hG142 hm a he =>?_) (c:=reach_ok (U:=univ c name) (hT38).weak hq140 (by simp) (by simp [univ]) ((look_calls hlk37).2.2 _) (look_calls hlk37).1 ((look_calls hlk37).2.1 _) hm)
 obtain ⟨bd143,ds144⟩:=y141
 have hR145:=hG142
 simp only at hR145 hm he
 replace hm:=hm.nf
 refine st he rfl rfl rfl (eff_range 0 runUnderlying121 he hm rfl rfl fun r146 es147 ck148 w hok149 hm a he =>?_)
 refine go he hm fun a he =>?_
 refine z1i (he.ks [6,7,8,11,13,60]) hm (fun R mm a w=>∃(seen:Array Nat),mm=(z5j es147 seen).length∧R Ψ33 [] [(0,.blk r146 (.mapIter (some bd143) ck148 seen ck148))] a w∧(RNo (z0f c) es147 seen)) ((z5j es147 #[]).length) ⟨#[],rfl,⟨he.pk,hm⟩,RNo.start⟩ ?_
 clear hm he
 rintro mm a w ⟨seen,hmu,⟨he,hm⟩,hI151⟩ L150 hL150
 replace hm:=hm.nf
 have hNo_:=hI151
 refine go he hm fun a he =>?_
 refine st he rfl rfl rfl (eff_next 0 1 he hm rfl rfl rfl hok149 (fun hl153 w hm a he =>?_) (fun e154 w hl155 hm a he =>?_))
 refine go he hm fun a he =>?_
 have hno_:¬z5p (z0f c) name:=hNo_.none hok149 hR145 hl153
 have hfu_:fuel≤200000:=by have h_:=h129;omega
 have hf0_:0≤fuel:=by have h_:=h127;omega
 have hmk_:=hm
 have hek_:=he
 clear hm he
 obtain ⟨fu,rfl⟩:=Int.eq_ofNat_of_zero_le hf0_
 have hm:=hmk_
 have he:=hek_
 clear hmk_ hek_
 refine Alc he hm fun b158 w hm a he =>?_
 refine Sto 0 he hm fun w hm a he =>?_
 refine Alc he hm fun b160 w hm a he =>?_
 refine go he hm fun a he =>?_
 replace hm:=hm.ar [] [8,6,6,8,5]
 refine st he rfl rfl rfl (eff_callW he rfl call45 (call_within hT38 hr102 rl (look_funs hlk37) (look_funs hlk37 _ _ hy100).1 (look_funs hlk37 _ _ hy100).2 (by omega) (hcs hlk37 _ hy100 hgv_ hno_) hm) (fun q162 y163 w hq164 hG165 hm a he =>?_) (fun q162 w hq164 hm a he =>?_))
 obtain ⟨v166,g167⟩:=q162
 obtain ⟨Ψ168,d169⟩:=y163
 obtain ⟨le170,hr171⟩:=hG165
 simp only at le170 hr171 hm he
 replace rpc:=RCore.mono _ _ _ _ le170 rpc
 replace G:=G.mono le170
 replace hat57:=hat57.mono le170
 replace ma50:=ma50.mono le170
 replace mr54:=mr54.up le170
 replace hr102:=RFun.mono _ _ _ _ le170 hr102
 replace h110:=REx.mono _ _ _ _ le170 h110
 obtain ⟨p174,c175,rfl,hi178,h173,hm176,hn177⟩:=RVal.fm hr171
 replace hm:=hm.nf
 refine Qq he hm (fun a he =>?_) (o:=by exact fun _ _ _ he hs=>y_ineq false he rfl rfl rfl)
 refine Reg [2,2,0,1,1] [0,1,2,3,5] he hm fun w hm a he =>?_
 refine Sto 4 he hm fun w hm a he =>?_
 refine go he hm fun a he =>?_
 have hmr:=hm
 replace hm:=hm.dl [5,4,3,2,1,0]
 refine hQ _ _ _ (z8l (i:=4) (cs:=[.string v166.con,.int .i64 (v166.num),.slice p174 v166.args.length c175]) he hmr.toSees results20 rfl rfl isAgg42 sizeOf42 rfl rfl rfl ?_)
 have hr_:z1f c name args ((fu:Nat):Int)=(v166,((fu - g167:Nat):Int),0):=by rw [callAll_end hlk37 (by omega) hy100 hgv_ hno_,Int.toNat_natCast,hq164]
 rw [hr_]
 exact ⟨(Ψ168,_),rfl,⟨(le35).trans le170,hr171⟩,hm⟩
 have hc182:=callEnd_err hq164
 replace hm:=hm.nf
 refine z1h he hm fun a he =>?_
 refine Sto 2 he hm fun w hm a he =>?_
 refine go he hm fun a he =>?_
 have hmr:=hm
 replace hm:=hm.dl [3,2,1,0]
 refine hQ _ _ _ (z8l (i:=2) (cs:=[.string ⟨#[]⟩,.int .i64 ((0:Nat):Int),.slice none 0 0]) he hmr.toSees results20 rfl rfl isAgg42 sizeOf42 rfl rfl rfl ?_)
 have hr_:z1f c name args ((fu:Nat):Int)=(v0,0,((q162:Nat):Int)):=by rw [callAll_end hlk37 (by omega) hy100 hgv_ hno_,Int.toNat_natCast,hq164]
 rw [hr_]
 exact ⟨(Ψ33,_),rfl,⟨le35,RVal.iff.2 ⟨_,rfl,(show I64 0 from ⟨by decide,by decide⟩),SliceOf.nil 3⟩⟩,hm⟩
 refine go he hm fun a he =>?_
 obtain ⟨ky188,vl189,hk190,hv191,hmem192⟩:=entry_key hok149 (leftE_mem.1 hl155).1
 have hk190_:Value.tuple (List.toArray [e154.key,e154.val])=Value.tuple (List.toArray [.string ky188,e154.val]):=by rw [hk190]
 refine Qq he hm (fun a he =>?_) (o:=by exact fun _ _ _ he hs=>Ok.cast (y_entry (i:=0) (j:=1) he hs rfl rfl rfl hok149 hl155) hk190_)
 refine go he hm fun a he =>?_
 rcases hf194:mget (d46) ky188 with _ | vf195
 have hf194_:=congrArg (z0i false (.agg (List.toArray [.string ⟨#[]⟩,.slice none 0 0,.string ⟨#[]⟩,.int .i64 ((0:Nat):Int),.int .i64 ((0:Nat):Int),.string ⟨#[]⟩,.slice none 0 0,.slice none 0 0]))) hf194
 refine Qq he hm (fun a he =>?_) (o:=by exact fun _ _ _ he hs=>Ok.cast (z0o runUnderlying103 runUnderlying9 zeroValue68 he hs rfl rfl ma50) (show z0i false (.agg (List.toArray [.string ⟨#[]⟩,.slice none 0 0,.string ⟨#[]⟩,.int .i64 ((0:Nat):Int),.int .i64 ((0:Nat):Int),.string ⟨#[]⟩,.slice none 0 0,.slice none 0 0])) (mget (d46) ky188)=.agg (List.toArray [.string ⟨#[]⟩,.slice none 0 0,.string ⟨#[]⟩,.int .i64 ((0:Nat):Int),.int .i64 ((0:Nat):Int),.string ⟨#[]⟩,.slice none 0 0,.slice none 0 0]) from hf194_))
 refine Qq he hm (fun a he =>?_) (o:=by exact fun _ _ _ he hs=>y_fieldA 3 (vs:=[.int .i64 ((0:Nat):Int),.int .i64 ((0:Nat):Int),.string ⟨#[]⟩,.slice none 0 0,.slice none 0 0]) runUnderlying68 rfl isAgg66 sizeOf66 he rfl rfl rfl)
 refine z1n call63 he hm (fun hB196 w hm a he =>?_) (fun hB196 w hm a he =>?_) (c:=reads_ok rex0 hm)
 refine z1h he hm fun a he =>?_
 refine Sto 4 he hm fun w hm a he =>?_
 refine go he hm fun a he =>?_
 have hmr:=hm
 replace hm:=hm.dl [7,6,5,4,3,2,1,0]
 refine hQ _ _ _ (z8l (i:=4) (cs:=[.string ⟨#[]⟩,.int .i64 ((0:Nat):Int),.slice none 0 0]) he hmr.toSees results20 rfl rfl isAgg42 sizeOf42 rfl rfl rfl ?_)
 have hr_:z1f c name args fuel=(v0,0,8):=callAll_reads hlk37 (by have h1_:=h129;have h2_:=h127;omega) hy100 hgv_ (reads_any hR145 hmem192 (by rw [fbody_none (MapRel.none mr54 hf194)];exact hB196))
 rw [hr_]
 exact ⟨(Ψ33,_),rfl,⟨le35,RVal.iff.2 ⟨_,rfl,(show I64 0 from ⟨by decide,by decide⟩),SliceOf.nil 3⟩⟩,hm⟩
 refine go he hm fun a he =>?_
 refine hL150 ((z5j es147 ((seen.push e154.born))).length) _ _ (by subst hmu;have h_:=leftE_lt hl155;omega) ⟨((seen.push e154.born)),rfl,⟨he.pk,hm⟩,?_⟩
 exact hNo_.next hok149 hl155 hk190 (by rw [fbody_none (MapRel.none mr54 hf194)];exact hB196)
 obtain ⟨y198,hy199,cs200,rfl,hr201⟩:=mr54.get hf194
 obtain ⟨s202,b208,rfl,h203,h209⟩:=id hr201
 obtain ⟨p204,c205,rfl,hm206,hn207⟩:=h203.fm
 obtain ⟨p212,c213,p218,c219,rfl,hi222,h211,h217,hm214,hn215,hm220,hn221⟩:=REx.fm h209
 have hf194_:=congrArg (z0i false (.agg (List.toArray [.string ⟨#[]⟩,.slice none 0 0,.string ⟨#[]⟩,.int .i64 ((0:Nat):Int),.int .i64 ((0:Nat):Int),.string ⟨#[]⟩,.slice none 0 0,.slice none 0 0]))) hf194
 refine Qq he hm (fun a he =>?_) (o:=by exact fun _ _ _ he hs=>Ok.cast (z0o runUnderlying103 runUnderlying9 zeroValue68 he hs rfl rfl ma50) (show z0i false (.agg (List.toArray [.string ⟨#[]⟩,.slice none 0 0,.string ⟨#[]⟩,.int .i64 ((0:Nat):Int),.int .i64 ((0:Nat):Int),.string ⟨#[]⟩,.slice none 0 0,.slice none 0 0])) (mget (d46) ky188)=.agg (List.toArray [.string y198.name,.slice p204 y198.params.length c205,.string y198.result,.int .i64 (y198.body.kind),.int .i64 (y198.body.num),.string y198.body.name,.slice p212 y198.body.args.length c213,.slice p218 y198.body.arms.length c219]) from hf194_))
 refine Qq he hm (fun a he =>?_) (o:=by exact fun _ _ _ he hs=>y_fieldA 3 (vs:=[.int .i64 (y198.body.kind),.int .i64 (y198.body.num),.string y198.body.name,.slice p212 y198.body.args.length c213,.slice p218 y198.body.arms.length c219]) runUnderlying68 rfl isAgg66 sizeOf66 he rfl rfl rfl)
 refine z1n call63 he hm (fun hB223 w hm a he =>?_) (fun hB223 w hm a he =>?_) (c:=reads_ok h209 hm)
 refine z1h he hm fun a he =>?_
 refine Sto 4 he hm fun w hm a he =>?_
 refine go he hm fun a he =>?_
 have hmr:=hm
 replace hm:=hm.dl [7,6,5,4,3,2,1,0]
 refine hQ _ _ _ (z8l (i:=4) (cs:=[.string ⟨#[]⟩,.int .i64 ((0:Nat):Int),.slice none 0 0]) he hmr.toSees results20 rfl rfl isAgg42 sizeOf42 rfl rfl rfl ?_)
 have hr_:z1f c name args fuel=(v0,0,8):=callAll_reads hlk37 (by have h1_:=h129;have h2_:=h127;omega) hy100 hgv_ (reads_any hR145 hmem192 (by rw [z9u hy199];exact hB223))
 rw [hr_]
 exact ⟨(Ψ33,_),rfl,⟨le35,RVal.iff.2 ⟨_,rfl,(show I64 0 from ⟨by decide,by decide⟩),SliceOf.nil 3⟩⟩,hm⟩
 refine go he hm fun a he =>?_
 refine hL150 ((z5j es147 ((seen.push e154.born))).length) _ _ (by subst hmu;have h_:=leftE_lt hl155;omega) ⟨((seen.push e154.born)),rfl,⟨he.pk,hm⟩,?_⟩
 exact hNo_.next hok149 hl155 hk190 (by rw [z9u hy199];exact hB223)
 refine z1h he hm fun a he =>?_
 refine Sto 2 he hm fun w hm a he =>?_
 refine go he hm fun a he =>?_
 have hmr:=hm
 replace hm:=hm.dl [5,4,3,2,1,0]
 refine hQ _ _ _ (z8l (i:=2) (cs:=[.string ⟨#[]⟩,.int .i64 ((0:Nat):Int),.slice none 0 0]) he hmr.toSees results20 rfl rfl isAgg42 sizeOf42 rfl rfl rfl ?_)
 have hr_:z1f c name args fuel=(v0,0,8):=callAll_given hlk37 (by have h1_:=h129;have h2_:=h127;omega) hy100 ((givenA_eq _ _ _).trans hB133)
 rw [hr_]
 exact ⟨(Ψ33,_),rfl,⟨le35,RVal.iff.2 ⟨_,rfl,(show I64 0 from ⟨by decide,by decide⟩),SliceOf.nil 3⟩⟩,hm⟩
 rw [if_neg hlk37] at he
 refine Alc he hm fun b226 w hm a he =>?_
 refine Sto 0 he hm fun w hm a he =>?_
 refine z1h he hm fun a he =>?_
 refine Sto 1 he hm fun w hm a he =>?_
 refine go he hm fun a he =>?_
 have hmr:=hm
 replace hm:=hm.dl [4,3,2,1,0]
 refine hQ _ _ _ (z8l (i:=1) (cs:=[.string ⟨#[]⟩,.int .i64 ((0:Nat):Int),.slice none 0 0]) he hmr.toSees results20 rfl rfl isAgg42 sizeOf42 rfl rfl rfl ?_)
 have hr_:z1f c name args fuel=(v0,0,z1g c):=callAll_look hlk37
 rw [hr_]
 exact ⟨(Ψ33,_),rfl,⟨le35,RVal.iff.2 ⟨_,rfl,(show I64 0 from ⟨by decide,by decide⟩),SliceOf.nil 3⟩⟩,hm⟩
end Go.Sw

namespace Go.Sw
theorem kdel_kset:∀(K:List Res) (i:Nat) (r:Res),kdel (kset K i r) i=kdel K i
 | [],_,_=>rfl
 | _::K,0,_=>rfl
 | x::K,i+1,r=>by simp only [kset,kdel,kdel_kset K i r]
theorem z8o (s t:ByteArray):Lib.strCells (s++t)=Lib.strCells s++Lib.strCells t:=by
 simp only [Lib.strCells,ByteArray.data_append,Array.toList_append,List.map_append]
theorem z4r (s:ByteArray):(Lib.strCells s).length=s.size:=by
 simp only [Lib.strCells,List.length_map,Array.length_toList];rfl
theorem strCells_push (t:ByteArray) (c:UInt8):Lib.strCells (t++⟨#[c]⟩)=Lib.strCells t++[.int .u8 ((c.toNat:Nat):Int)]:=by rw [z8o];rfl
section
variable {P:Program} {n:Nat} {E:List (Nat×Value)} {D:List Deferred} {a:Act} {Φ:Fz} {K:List Res} {w:World} {ty:TypeId}
variable {Kn:Value→World→Prop} {Qp:List PanicEntry→World→Prop} {dst:Option Tmp} {pos:String} {aft:Array Edge} {g:Option (Nat×Bool)}
theorem y_to_unsafe {x:Operand} {src dst' t:TypeId} {j:TypeInfo} {b T i:Nat} {cs:List Value} (he:EnvR n E D a) (hm:Sees Φ K w) (hx:ev E x=some (.pointer (some ⟨b,0,none⟩))) (hk:kget K i=some (.blk b (ob cs T))) (h0:0 < cs.length)
  (h1:P.underlying src=some (.pointer t)) (h2:P.underlying dst'=some .unsafePointer) (h3:P.info? t=some j) (h4:j.size≠0):Ok P a (.convert src dst' x) ty w (.pointer (some ⟨b,0,none⟩)):=fun _ _ _ _=>by
 have hb:w.heap[b]? = some (ob cs T):=hm.own _ (z1a hk)
 have:=Lib.run_to_unsafe (P:=P) w (src:=src) (dst:=dst') (t:=t) (e:=T) (j:=j) (cells:=cs.length) ⟨b,0,none⟩ h1 h2 h3 h4 (by simp [World.shape?,hb,ob]) h0
 simp only [execOp,he.ev hx]
 simp [Sem.run_bind,this,Result.andThen]
theorem y_from_unsafe {x:Operand} {src dst' u:TypeId} {j:TypeInfo} {b T i:Nat} {cs:List Value} (he:EnvR n E D a) (hm:Sees Φ K w) (hx:ev E x=some (.pointer (some ⟨b,0,none⟩))) (hk:kget K i=some (.blk b (ob cs T)))
  (h1:P.underlying src=some .unsafePointer) (h2:P.underlying dst'=some (.pointer u)) (h3:P.info? u=some j) (h4:liesAt P P.depth T (cs.length / P.cellsOf T) 0 u 1=true):Ok P a (.convert src dst' x) ty w (.pointer (some ⟨b,0,none⟩)):=fun _ _ _ _=>by
 have hb:w.heap[b]? = some (ob cs T):=hm.own _ (z1a hk)
 have:=Lib.run_from_unsafe (P:=P) w (src:=src) (dst:=dst') (u:=u) (e:=T) (j:=j) (cells:=cs.length) ⟨b,0,none⟩ h1 h2 h3 (by simp [World.shape?,hb,ob]) h4
 simp only [execOp,he.ev hx]
 simp [Sem.run_bind,this,Result.andThen]
theorem eff_append_str (i:Nat) {s x:Operand} {t u e:TypeId} {v:Value} {str t0:ByteArray} {inf:TypeInfo} (ht:P.underlying t=some (.slice e)) (hu:P.underlying u=some .string) (hi:P.info? e=some inf) (hz:inf.zero=some (.int .u8 0)) (h1:inf.size=1) (h2:inf.bytes=1)
  (he:EnvR n E D a) (hm:Mem Φ K w) (hs:ev E s=some v) (hk:kget K i=some (.gs v e 1 (Lib.strCells t0))) (hx:ev E x=some (.string str)) (hb:t0.size+str.size≤140737488355328)
  (k:∀v' w',Mem Φ (kset K i (.gs v' e 1 (Lib.strCells (t0++str)))) w'→Kn v' w') :
  Oper.eff P ⟨dst,.call { callee:=.builtin .append,args:=#[s,x],argTypes:=#[t,u] },ty,pos,aft,g⟩ a w Kn Qp:=by
 obtain ⟨nn,hown⟩:=hm.own _ (z1a hk)
 have hnn:nn=t0.size:=by have:=hown.1;rw [z4r] at this;omega
 subst hnn
 have hmax:t0.size+str.size≤maxLen:=by simp only [maxLen];omega
 have hfin:∀v' w',(Builtin.append_ #[t,u] ty #[v,.string str]).run P w=.ok v' w'→Kn v' w' →
   Oper.eff P ⟨dst,.call { callee:=.builtin .append,args:=#[s,x],argTypes:=#[t,u] },ty,pos,aft,g⟩ a w Kn Qp:=by
  intro v' w' hrun hK
  unfold Oper.eff
  have:(execOp a.eval ⟨dst,.call { callee:=.builtin .append,args:=#[s,x],argTypes:=#[t,u] },ty,pos,aft,g⟩).run P w=.ok (.value v') w':=by
   simp only [execOp,resolve,invoke,builtin,Sem.run_bind,Sem.run_pure,Result.andThen_ok,List.map_toArray,List.map_cons,List.map_nil,he.ev hs,he.ev hx,hrun]
  rw [this]
  exact hK
 rcases hown.2 with ⟨rfl,h0⟩ | ⟨b,cap,cur,rfl,_,hg,hc,hcm,hcs,htk⟩
 ·obtain ⟨v',w',hrun,ho',hgr,_⟩:=Lib.run_append_own_string (P:=P) w w.heap.size t u ty e inf ht hu hi hz h1 h2 (.slice none 0 0) t0.size _ ⟨hown.1,.inl ⟨rfl,h0⟩⟩ str hmax hb (Nat.le_refl _)
  refine hfin v' w' hrun (k _ _ ?_)
  rw [z8o]
  refine hm.upd hk hgr.os hgr.output (fun b hb hne=>hgr.block b hb hne) ⟨t0.size+str.size,?_⟩ (.inr fun b hb=>(ho'.lt b hb).1)
  exact ⟨ho'.1,ho'.2.imp id fun ⟨g,cap,cur,h1,_,h3⟩=>⟨g,cap,cur,h1,Nat.zero_le _,h3⟩⟩
 ·obtain ⟨v',w',hrun,ho',hgr,_⟩:=Lib.run_append_own_string (P:=P) w 0 t u ty e inf ht hu hi hz h1 h2 _ t0.size _ hown str hmax hb (Nat.zero_le _)
  refine hfin v' w' hrun (k _ _ ?_)
  rw [z8o]
  refine hm.upd hk hgr.os hgr.output (fun b hb hne=>hgr.block b hb hne) ⟨t0.size+str.size,ho'⟩ ?_
  by_cases hroom:t0.size+str.size≤cap
  ·have hr:=Lib.run_append_room_string (P:=P) w t u ty e inf ht hu hi h1 b t0.size cap cur hg str hroom (by omega)
   rw [hr] at hrun
   cases hrun
   exact .inl rfl
  ·have holds:∀j u,(Lib.strCells t0)[j]? = some u→w.cell? ((⟨b,0,none⟩:Addr).add j)=some u:=hown.cells (g:=b) rfl
   have hr:=Lib.run_append_grow_string (P:=P) w t u ty e inf (.int .u8 0) ht hu hi hz ⟨b,0,none⟩ t0.size cap (Lib.strCells t0) (by rw [h1,z4r];omega) holds str (by omega) (by omega) (by rw [h2];exact growslice_fits (by omega) (by omega))
   rw [hr] at hrun
   cases hrun
   exact .inr fun c hc=>by simp [Res.foot,Value.ownBlock] at hc;omega
def DataOf (v:Value) (q:Option Addr) (n:Nat):Prop:=n≠0→∃g cap,v=.slice (some ⟨g,0,none⟩) n cap∧q=some ⟨g,0,none⟩
theorem eff_sliceData (i:Nat) {x:Operand} {ts:Array TypeId} {e:TypeId} {v:Value} {t:ByteArray} (hp:P.underlying ty=some (.pointer e)) (he:EnvR n E D a) (hm:Mem Φ K w) (hx:ev E x=some v) (hk:kget K i=some (.gs v 5 1 (Lib.strCells t)))
  (k:∀q w',DataOf v q t.size→Mem Φ K w'→Kn (.pointer q) w'):Oper.eff P ⟨dst,.call { callee:=.builtin .unsafeSliceData,args:=#[x],argTypes:=ts },ty,pos,aft,g⟩ a w Kn Qp:=by
 obtain ⟨nn,hown⟩:=hm.own _ (z1a hk)
 have hnn:nn=t.size:=by have:=hown.1;rw [z4r] at this;omega
 subst hnn
 have hfin:∀v' w',(Builtin.unsafeSliceData_ ts ty #[v]).run P w=.ok v' w'→Kn v' w' →
   Oper.eff P ⟨dst,.call { callee:=.builtin .unsafeSliceData,args:=#[x],argTypes:=ts },ty,pos,aft,g⟩ a w Kn Qp:=by
  intro v' w' hrun hK
  unfold Oper.eff
  have:(execOp a.eval ⟨dst,.call { callee:=.builtin .unsafeSliceData,args:=#[x],argTypes:=ts },ty,pos,aft,g⟩).run P w=.ok (.value v') w':=by
   simp only [execOp,resolve,invoke,builtin,Sem.run_bind,Sem.run_pure,Result.andThen_ok,List.map_toArray,List.map_cons,List.map_nil,he.ev hx,hrun]
  rw [this]
  exact hK
 rcases hown.2 with ⟨rfl,h0⟩ | ⟨b,cap,cur,rfl,_,hg,hc,hcm,hcs,htk⟩
 ·exact hfin _ _ (Lib.run_unsafeSliceData_nil _ _ _ _ _) (k _ _ (fun h=>absurd h0 h) hm)
 ·by_cases hcap:cap=0
  ·subst hcap
   exact hfin _ _ (Lib.run_unsafeSliceData_zero w ts ty e hp _ _ (5,cur.size) (by simp [World.shape?,hg])) (k _ _ (fun h=>absurd (Nat.le_zero.1 hc) h) ((hm.push _).del 0))
  ·exact hfin _ _ (Lib.run_unsafeSliceData_row w ts ty _ _ _ hcap) (k _ _ (fun _=>⟨b,cap,rfl,rfl⟩) hm)
theorem eff_unsafeString (i:Nat) {x y:Operand} {pt it:TypeId} {v:Value} {t:ByteArray} {q:Option Addr} (hp:P.underlying pt=some (.pointer 5)) (hc5:P.cellsOf 5=1) (he:EnvR n E D a) (hm:Mem Φ K w) (hq:DataOf v q t.size) (hx:ev E x=some (.pointer q)) (hy:ev E y=some (.int .i64 ((t.size:Nat):Int))) (hk:kget K i=some (.gs v 5 1 (Lib.strCells t)))
  (k:∀w',Mem Φ (kdel K i) w'→Kn (.string t) w'):Oper.eff P ⟨dst,.call { callee:=.builtin .unsafeString,args:=#[x,y],argTypes:=#[pt,it] },ty,pos,aft,g⟩ a w Kn Qp:=by
 obtain ⟨nn,hown⟩:=hm.own _ (z1a hk)
 have hnn:nn=t.size:=by have:=hown.1;rw [z4r] at this;omega
 subst hnn
 have hfin:∀v' w',(Builtin.unsafeString_ #[pt,it] ty #[.pointer q,.int .i64 ((t.size:Nat):Int)]).run P w=.ok v' w'→Kn v' w' →
   Oper.eff P ⟨dst,.call { callee:=.builtin .unsafeString,args:=#[x,y],argTypes:=#[pt,it] },ty,pos,aft,g⟩ a w Kn Qp:=by
  intro v' w' hrun hK
  unfold Oper.eff
  have:(execOp a.eval ⟨dst,.call { callee:=.builtin .unsafeString,args:=#[x,y],argTypes:=#[pt,it] },ty,pos,aft,g⟩).run P w=.ok (.value v') w':=by
   simp only [execOp,resolve,invoke,builtin,Sem.run_bind,Sem.run_pure,Result.andThen_ok,List.map_toArray,List.map_cons,List.map_nil,he.ev hx,he.ev hy,hrun]
  rw [this]
  exact hK
 have hlt:t.data.toList.length=t.size:=by simp only [Array.length_toList];rfl
 by_cases h0:t.size=0
 ·have ht:t=.empty:=by
   have:t.data=#[]:=Array.eq_empty_of_size_eq_zero h0
   cases t;simp only at this;subst this;rfl
  have hr:=Lib.run_unsafeString_none (P:=P) w pt it ty q
  refine hfin (.string t) w ?_ (k _ (hm.del i))
  rw [h0];rw [ht];exact hr
 ·obtain ⟨b,cap,rfl,rfl⟩:=hq h0
  rcases hown.2 with ⟨hv,_⟩ | ⟨b',cap',cur,hv,_,hg,hc,hcm,hcs,htk⟩
  ·cases hv
  ·simp only [Value.slice.injEq,Option.some.injEq,Addr.mk.injEq,and_true,true_and] at hv
   obtain ⟨rfl,rfl⟩:=hv
   have hr:=Lib.run_unsafeString_row (P:=P) w pt it ty 5 hp hc5 b cur.size (by simp [World.shape?,hg]) t.data.toList (fun e=>h0 (by rw [← hlt,e];rfl)) (by omega) (by simp only [maxLen] at hcm;omega) (fun j x hx=>by
    have:=hown.cells (g:=b) rfl j (.int .u8 x.toNat) (by simp [Lib.strCells,hx])
    exact this)
   rw [hlt] at hr
   refine hfin (.string t) _ (by rw [hr]) (k _ ?_)
   have hw:(w.freeze ⟨b,0,none⟩ t.size).heap[b]? = some (.cells cur 5 (0,0+t.size)):=by
    simp only [World.freeze,h0,if_false,Array.getElem?_modify,if_true,hg,Option.map_some];rfl
   have h2:Mem Φ (kset K i (.blk b (.cells cur 5 (0,0+t.size)))) (w.freeze ⟨b,0,none⟩ t.size):=by
    refine hm.upd hk ?_ ?_ (fun c hc hne =>?_) hw (.inl rfl)
    ·unfold World.freeze;split <;> rfl
    ·unfold World.freeze;split <;> rfl
    ·simp only [World.freeze,h0,if_false,Array.getElem?_modify]
     rw [if_neg (fun e=>hne (by subst e;rfl))]
   have h3:=h2.del i
   rwa [kdel_kset] at h3
end
open Go.Proofs in
theorem y_noEscape171 {n:Nat} {E:List (Nat×Value)} {D:List Deferred} {a:Act} {w:World} {ty:TypeId} {x:Operand} {ts:Array TypeId} {v:Value} (he:EnvR n E D a) (hx:ev E x=some v) :
  Ok Tryz.prog a (.call { callee:=.value (.func 171),args:=#[x],argTypes:=ts }) ty w v:=fun _ _ _ _=>by
 have h:=run_callFunc_extern (P:=Tryz.prog) Tryz.func171 (by kernel_rfl) (by kernel_rfl) (by kernel_rfl) (e:=Extern.AbiNoEscape.same) (by kernel_rfl) #[v] w
 rw [Lib.run_noEscape] at h
 simp only [Result.andThen] at h
 have hf:a.eval (.func 171)=.func (.func 171) #[] #[]:=rfl
 simp only [execOp,resolve,Sem.run_bind,List.map_toArray,List.map_cons,List.map_nil,he.ev hx,hf]
 simp [Deferred.ofValue,invoke,Sem.run_bind,Result.andThen,h]
end Go.Sw

namespace Go.Sw
open Go.Proofs
section
variable {P:Program} {n:Nat} {E:List (Nat×Value)} {D:List Deferred} {a:Act} {Φ:Fz} {K:List Res} {w:World} {ty:TypeId}
variable {Kn:Value→World→Prop} {Qp:List PanicEntry→World→Prop} {dst:Option Tmp} {pos:String} {aft:Array Edge} {g:Option (Nat×Bool)}
set_option maxRecDepth 20000 in
theorem eff_makeNoZero {x:Operand} {ts:Array TypeId} {m:Nat} (he:EnvR n E D a) (hm:Mem Φ K w) (hx:ev E x=some (.int .i64 ((m:Nat):Int))) (hn:m≤281474976710656)
  (k:∀b cs w',m≤cs.size→cs.size≤maxLen→Mem Φ (.blk b (.cells cs 5 (0,0))::K) w'→Kn (.slice (some ⟨b,0,none⟩) m cs.size) w') :
  Oper.eff Tryz.prog ⟨dst,.call { callee:=.value (.func 198),args:=#[x],argTypes:=ts },ty,pos,aft,g⟩ a w Kn Qp:=by
 obtain ⟨cs,hrun,hle,hmax⟩:=Lib.run_makeNoZero (P:=Tryz.prog) w #[3] 128 5 Tryz.underlying128 m hn
 have h:=run_callFunc_extern (P:=Tryz.prog) Tryz.func198 (by kernel_rfl) (by kernel_rfl) (by kernel_rfl) (e:=Extern.BytealgMakeNoZero.makeNoZero #[3] #[128]) (by kernel_rfl) #[.int .i64 ((m:Nat):Int)] w
 rw [hrun] at h
 simp only [Result.andThen] at h
 unfold Oper.eff
 have:(execOp a.eval ⟨dst,.call { callee:=.value (.func 198),args:=#[x],argTypes:=ts },ty,pos,aft,g⟩).run Tryz.prog w=.ok (.value (.slice (some ⟨w.heap.size,0,none⟩) m cs.size)) (w.drew.drew.alloc (.cells cs 5)):=by
  have hf:a.eval (.func 198)=.func (.func 198) #[] #[]:=rfl
  simp only [execOp,resolve,Sem.run_bind,List.map_toArray,List.map_cons,List.map_nil,he.ev hx,hf]
  simp [Deferred.ofValue,invoke,Sem.run_bind,Result.andThen,h]
 rw [this]
 exact k _ cs _ hle (hmax (by simp only [maxLen];omega)) (hm.drew.drew.push (.cells cs 5 (0,0)))
theorem row_of_raw {b:Nat} {cs:Array Value} {i:Nat} (hm:Mem Φ K w) (hk:kget K i=some (.blk b (.cells cs 5 (0,0)))) (hmax:cs.size≤maxLen):Mem Φ (kset K i (.gs (.slice (some ⟨b,0,none⟩) 0 cs.size) 5 1 (Lib.strCells ⟨#[]⟩))) w :=
 hm.upd hk rfl rfl (fun _ _ _=>rfl) ⟨0,rfl,.inr ⟨b,cs.size,cs,rfl,Nat.zero_le _,hm.own _ (z1a hk),Nat.zero_le _,hmax,by omega,by simp [Lib.strCells]⟩⟩ (.inl rfl)
theorem y_slice_head {x hi:Operand} {t e:TypeId} {b m c:Nat} (he:EnvR n E D a) (hx:ev E x=some (.slice (some ⟨b,0,none⟩) m c)) (hh:ev E hi=some (.int .i64 ((0:Nat):Int))) (ht:Under P t (.slice e)) (hs:SizeT P e 1) :
  Ok P a (.slice t x none (some hi) none) ty w (.slice (some ⟨b,0,none⟩) 0 c):=fun _ _ _ _=>by
 simp only [execOp,he.ev hx,Option.map_some,Option.map_none,he.ev hh,Instr.sliceAt]
 simp [Sem.run_bind,ht w,hs w,Instr.slice,Instr.sliceBounds,Instr.sliceBound,asIntOf,Result.andThen,Addr.add]
theorem y_cap {x:Operand} {t e:TypeId} {p:Option Addr} {m c:Nat} (he:EnvR n E D a) (hx:ev E x=some (.slice p m c)) (ht:Under P t (.slice e)):Ok P a (.call { callee:=.builtin .cap,args:=#[x],argTypes:=#[t] }) ty w (.int .i64 ((c:Nat):Int)):=fun _ _ _ _=>by
 simp only [execOp,resolve]
 simp [Sem.run_bind,Result.andThen,invoke,builtin,he.ev hx,Builtin.cap_,ht w,goInt]
theorem y_copy_nil {x y:Operand} {t t2 e:TypeId} {p:Option Addr} {m c:Nat} (he:EnvR n E D a) (hx:ev E x=some (.slice p m c)) (hy:ev E y=some (.slice none 0 0)) (ht:P.underlying t=some (.slice e)) (hs:(P.info? e).map (·.size)=some 1) (h0:ty=ty) :
  Ok P a (.call { callee:=.builtin .copy,args:=#[x,y],argTypes:=#[t,t2] }) ty w (.int .i64 ((0:Nat):Int)):=fun _ _ _ _=>by
 have h:=run_copy_none (P:=P) w t t2 ty e p none m c 0 0 ht hs rfl
 simp only [execOp,resolve,invoke,builtin,Sem.run_bind,Sem.run_pure,Result.andThen_ok,List.map_toArray,List.map_cons,List.map_nil,he.ev hx,he.ev hy,h]
 rfl
theorem z8v (i j:Nat) {x:Operand} {b off cap:Nat} {arr:Array Value} {l:List Bs} {T:TypeId} {s:Bs} (he:EnvR n E D a) (hm:Sees Φ K w) (hq:QAt off cap arr l) (hx:ev E x=some (.pointer (some ((⟨b,off,none⟩:Addr).add (j * 1)))))
  (hk:kget K i=some (qblk b arr)) (hs:l[j]? = some s) (hT:Scalar P T):Ok P a (.load T x) ty w (.string s):=fun _ _ _ _=>by
 have h1:w.heap[b]? = some (.cells arr 9 (0,0)):=hm.own _ (z1a hk)
 have h2:w.cell? ⟨b,off+j,none⟩=some (.string s):=by simp [World.cell?,h1];exact hq.cells j s hs
 rw [add_off,Nat.mul_one] at hx
 simp only [execOp,he.ev hx]
 simp [Instr.loadAt,Instr.sureAddr,loadVar,Sem.run_bind,hT w,Result.andThen,load,Sem.run,h2]
end
def z8d (sep:Bs):List Bs→Bs
 | []=>⟨#[]⟩
 | x::xs=>xs.foldl (fun a s=>a++sep++s) x
def lens (l:List Bs):Nat:=(l.map ByteArray.size).sum
theorem z6y (x:Bs) (l:List Bs):lens (x::l)=x.size+lens l:=by simp [lens]
theorem z8e {l:List Bs} {i:Nat} {x:Bs} (h:l[i]? = some x):lens (l.drop i)=x.size+lens (l.drop (i+1)):=by rw [z0a h,z6y]
theorem z7s (l:List Bs) (i:Nat):lens (l.take i)+lens (l.drop i)=lens l:=by
 simp only [lens]
 rw [← List.sum_append_nat,← List.map_append,List.take_append_drop]
theorem lens_take {l:List Bs} {i:Nat} {x:Bs} (h:l[i]? = some x):lens (l.take (i+1))=lens (l.take i)+x.size:=by rw [take_snoc h];simp [lens]
theorem quo_big {m s:Nat} (hm:1≤m) (hs:1≤s) (h:s * m≤140737488355328):¬IntKind.i64.wrap ((9223372036854775807:Int).tdiv ((m:Nat):Int))≤((s:Nat):Int):=by
 obtain ⟨q,hq⟩:∃q:Nat,q=9223372036854775807 / m:=⟨_,rfl⟩
 have h1:(9223372036854775807:Int).tdiv ((m:Nat):Int)=(q:Int):=by rw [hq];rfl
 have h2:q≤9223372036854775807:=by rw [hq];exact Nat.div_le_self _ _
 rw [h1,z1d (by omega)]
 have h4:=Nat.div_add_mod 9223372036854775807 m
 have h5:=Nat.mod_lt 9223372036854775807 (show 0 < m by omega)
 rw [← hq] at h4
 have h6:m≤s * m:=Nat.le_mul_of_pos_left _ (by omega)
 intro h7
 have h8:q≤s:=by omega
 have h9:m * q≤m * s:=Nat.mul_le_mul_left _ h8
 rw [Nat.mul_comm m s] at h9
 omega
theorem z0h (a b:Bs):(a++b).size=a.size+b.size:=ByteArray.size_append
theorem empty_app (x:Bs):(⟨#[]⟩:Bs)++x=x:=by
 apply ByteArray.ext;simp [ByteArray.data_append]
theorem join_head {l:List Bs} {x sep:Bs} (h:l[0]? = some x) (hb:lens l+sep.size * l.length≤70368744177664) :
  z8d sep l=((l.drop 1).drop 0).foldl (fun a s=>a++sep++s) (⟨#[]⟩++x)∧((⟨#[]⟩:Bs)++x).size+lens ((l.drop 1).drop 0)+sep.size * ((l.drop 1).length - 0)≤70368744177664:=by
 cases l with
 | nil=>simp at h
 | cons a r =>
  simp only [List.getElem?_cons_zero,Option.some.injEq] at h
  subst h
  rw [empty_app]
  refine ⟨rfl,?_⟩
  rw [z6y] at hb
  simp only [List.length_cons,Nat.mul_add,List.drop_succ_cons,List.drop_zero,Nat.sub_zero] at hb ⊢
  omega
theorem join_step {l:List Bs} {i:Nat} {acc sep x:Bs} (hx:(l.drop 1)[i]? = some x) (h:z8d sep l=((l.drop 1).drop i).foldl (fun a s=>a++sep++s) acc) (hb:acc.size+lens ((l.drop 1).drop i)+sep.size * ((l.drop 1).length - i)≤70368744177664) :
  z8d sep l=((l.drop 1).drop (i+1)).foldl (fun a s=>a++sep++s) ((acc++sep)++x)∧((acc++sep)++x).size+lens ((l.drop 1).drop (i+1))+sep.size * ((l.drop 1).length - (i+1))≤70368744177664:=by
 refine ⟨by rw [h,z0a hx];rfl,?_⟩
 have hlt:=(List.getElem?_eq_some_iff.1 hx).1
 rw [z8e hx,show (l.drop 1).length - i=((l.drop 1).length - (i+1))+1 by omega,Nat.mul_add,Nat.mul_one] at hb
 rw [z0h,z0h];omega
end Go.Sw

namespace Go.Sw
open Go.Proofs.Tryz
open Go.Proofs
set_option maxRecDepth 20000
set_option maxHeartbeats 4000000
variable {Φ:Fz} {K:List Res} {w:World}
theorem copyCheck_new {b:Nat} {v:Value} (hv:v.cells.toList=[v]) (h1:[v].all Value.oneCell'=true) (hm:Mem Φ (.blk b (ob [.pointer none,v] 130)::K) w) :
  Calls Tryz.prog 120 (List.toArray [.pointer (some ⟨b,0,none⟩)]) w (fun ee w'=>ee=.returned (.tuple #[])∧Mem Φ (.blk b (ob [.pointer (some ⟨b,0,none⟩),v] 130)::K) w'):=by
 refine z0l func120 ntmps120 fun Q hQ a he =>?_
 refine Qq he hm (fun a he =>?_) (o:=by exact fun _ _ _ he hs=>y0z (v:=.bool true) he rfl rfl rfl (by kernel_rfl))
 refine Qq he hm (fun a he =>?_) (o:=by exact fun _ _ _ he hs=>y_to_unsafe (i:=0) he hs rfl rfl (Nat.zero_lt_succ _) underlying127 underlying238 Tryz.type130 (by decide))
 refine Qq he hm (fun a he =>?_) (o:=by exact fun _ _ _ he hs=>y_noEscape171 he rfl)
 refine Qq he hm (fun a he =>?_) (o:=by exact fun _ _ _ he hs=>y_from_unsafe (i:=0) he hs rfl rfl underlying238 underlying127 Tryz.type130 (by kernel_rfl))
 refine Sto 0 he hm fun w hm a he =>?_
 refine go he hm fun a he =>?_
 refine hQ _ _ _ (ret0N he results120 ?_)
 exact ⟨rfl,hm⟩
theorem copyCheck_used {b:Nat} {v:Value} (hv:v.cells.toList=[v]) (h1:[v].all Value.oneCell'=true) (hm:Mem Φ (.blk b (ob [.pointer (some ⟨b,0,none⟩),v] 130)::K) w) :
  Calls Tryz.prog 120 (List.toArray [.pointer (some ⟨b,0,none⟩)]) w (fun ee w'=>ee=.returned (.tuple #[])∧Mem Φ (.blk b (ob [.pointer (some ⟨b,0,none⟩),v] 130)::K) w'):=by
 refine z0l func120 ntmps120 fun Q hQ a he =>?_
 refine Qq he hm (fun a he =>?_) (o:=by exact fun _ _ _ he hs=>y0z (v:=.bool false) he rfl rfl rfl (by kernel_rfl))
 refine Qq he hm (fun a he =>?_) (o:=by exact fun _ _ _ he hs=>y0z (v:=.bool false) he rfl rfl rfl (Lib.run_neq_ptr_same _ _ underlying127 Tryz.type130))
 refine go he hm fun a he =>?_
 refine hQ _ _ _ (ret0N he results120 ?_)
 exact ⟨rfl,hm⟩
theorem copyCheck_ok {b:Nat} {v:Value} {bp:Option Addr} (hp:bp=none∨bp=some ⟨b,0,none⟩) (hv:v.cells.toList=[v]) (h1:[v].all Value.oneCell'=true) (hm:Mem Φ (.blk b (ob [.pointer bp,v] 130)::K) w) :
  Calls Tryz.prog 120 (List.toArray [.pointer (some ⟨b,0,none⟩)]) w (fun ee w'=>ee=.returned (.tuple #[])∧Mem Φ (.blk b (ob [.pointer (some ⟨b,0,none⟩),v] 130)::K) w'):=by
 rcases hp with rfl | rfl
 exact copyCheck_new hv h1 hm
 exact copyCheck_used hv h1 hm
theorem z0t {b:Nat} {v:Value} {bp:Option Addr} {t s:Bs} (hp:bp=none∨bp=some ⟨b,0,none⟩) (hl:t.size+s.size≤140737488355328) (hm:Mem Φ (.blk b (ob [.pointer bp,v] 130)::.gs v 5 1 (Lib.strCells t)::K) w) :
  Calls Tryz.prog 68 (List.toArray [.pointer (some ⟨b,0,none⟩),.string s]) w (fun ee w'=>∃v2,ee=.returned (.tuple (List.toArray [.int .i64 ((s.size:Nat):Int),.nilIface]))∧True∧Mem Φ (.blk b (ob [.pointer (some ⟨b,0,none⟩),v2] 130)::.gs v2 5 1 (Lib.strCells (t++s))::K) w'):=by
 refine z0l func68 ntmps68 fun Q hQ a he =>?_
 refine z0y call120 he hm (fun w hm a he =>?_) (c:=copyCheck_ok hp (hm.toSees.gsCells (i:=1) rfl) (hm.toSees.gsOne (i:=1) rfl) hm)
 replace hm:=hm.nf
 refine go he hm fun a he =>?_
 refine st he rfl rfl rfl (eff_append_str 1 underlying128 underlying9 Tryz.type5 rfl rfl rfl he hm rfl rfl rfl (by omega) fun v4 w hm a he =>?_)
 replace hm:=hm.nf
 refine Sto 0 he hm fun w hm a he =>?_
 refine Ret2 hQ he hm ?_
 exact ⟨_,rfl,trivial,hm⟩
theorem z7d {b:Nat} {v:Value} {bp:Option Addr} {t:Bs} {c:UInt8} (hp:bp=none∨bp=some ⟨b,0,none⟩) (hl:t.size+1≤140737488355328) (hm:Mem Φ (.blk b (ob [.pointer bp,v] 130)::.gs v 5 1 (Lib.strCells t)::K) w) :
  Calls Tryz.prog 70 (List.toArray [.pointer (some ⟨b,0,none⟩),.int .u8 ((c.toNat:Nat):Int)]) w (fun ee w'=>∃v2,ee=.returned .nilIface∧True∧Mem Φ (.blk b (ob [.pointer (some ⟨b,0,none⟩),v2] 130)::.gs v2 5 1 (Lib.strCells (t++⟨#[c]⟩))::K) w'):=by
 refine z0l func70 ntmps70 fun Q hQ a he =>?_
 refine z0y call120 he hm (fun w hm a he =>?_) (c:=copyCheck_ok hp (hm.toSees.gsCells (i:=1) rfl) (hm.toSees.gsOne (i:=1) rfl) hm)
 replace hm:=hm.nf
 refine BldS he hm fun v4 w hm a he =>?_
 refine App_ 2 rt_128 he hm (fun v5 w hm a he =>?_) (hb:=by rw [z4r];simp only [List.length_cons,List.length_nil];omega)
 rw [← strCells_push] at hm
 refine Sto 1 he hm fun w hm a he =>?_
 refine go he hm fun a he =>?_
 replace hm:=hm.dl [0]
 refine Ret1 hQ he hm ?_
 exact ⟨_,rfl,trivial,hm⟩
theorem builderLen_ok {b:Nat} {v:Value} {bp:Option Addr} {t:Bs} (hm:Mem Φ (.blk b (ob [.pointer bp,v] 130)::.gs v 5 1 (Lib.strCells t)::K) w) :
  Calls Tryz.prog 71 (List.toArray [.pointer (some ⟨b,0,none⟩)]) w (fun ee w'=>ee=.returned (.int .i64 ((t.size:Nat):Int))∧Mem Φ (.blk b (ob [.pointer bp,v] 130)::.gs v 5 1 (Lib.strCells t)::K) w'):=by
 obtain ⟨p0,m0,c0,rfl,hl0,hmx0⟩:=hm.toSees.gsForm (i:=1) rfl
 have e0_:m0=t.size:=by simpa [z4r] using hl0.symm
 subst e0_
 refine z0l func71 ntmps71 fun Q hQ a he =>?_
 refine Ret1 hQ he hm ?_
 exact ⟨rfl,hm⟩
theorem z7e {b:Nat} {v:Value} {bp:Option Addr} {t:Bs} (hm:Mem Φ (.blk b (ob [.pointer bp,v] 130)::.gs v 5 1 (Lib.strCells t)::K) w) :
  Calls Tryz.prog 72 (List.toArray [.pointer (some ⟨b,0,none⟩)]) w (fun ee w'=>ee=.returned (.string t)∧Mem Φ K w'):=by
 obtain ⟨p0,m0,c0,rfl,hl0,hmx0⟩:=hm.toSees.gsForm (i:=1) rfl
 have e0_:m0=t.size:=by simpa [z4r] using hl0.symm
 subst e0_
 refine z0l func72 ntmps72 fun Q hQ a he =>?_
 refine go he hm fun a he =>?_
 refine z1v [1,1,1,2,0,1,1,1,2,1,0,1] (.q 0 (.q 1 (.q 2 (.q 3 (.q 5 (.q 6 (.q 7 (.q 8 (.q 9 (.e 4 (.e 10 (.q 11 (.done))))))))))))) [0] he hm fun w hm =>?_
 refine go he hm fun a he =>?_
 refine d_e he rfl rfl rfl (eff_sliceData 1 underlying202 he hm rfl rfl fun q3 w hq4 hm=>⟨fun _=>hm.sn (Fz.Le.refl _),fun a he =>?_⟩)
 refine d_e he rfl rfl rfl (eff_unsafeString 1 (t:=t) underlying202 (by kernel_rfl) he hm hq4 rfl rfl rfl fun w hm=>⟨fun _=>hm.sn (Fz.Le.refl _),fun a he =>?_⟩)
 replace hm:=hm.nf
 refine go he hm fun a he =>?_
 replace hm:=hm.dl [0]
 refine Ret1 hQ he hm ?_
 exact ⟨rfl,hm⟩
end Go.Sw

namespace Go.Sw
open Go.Proofs.Tryz
open Go.Proofs
set_option maxRecDepth 20000
set_option maxHeartbeats 4000000
theorem grow_ok {Φ:Fz} {K:List Res} {w:World} {b n:Nat} (hn:n≤140737488355328) (hm:Mem Φ (.blk b (ob [.pointer (some ⟨b,0,none⟩),.slice none 0 0] 130)::K) w) :
  Calls Tryz.prog 170 (List.toArray [.pointer (some ⟨b,0,none⟩),.int .i64 ((n:Nat):Int)]) w (fun ee w'=>∃v2,ee=.returned (.tuple #[])∧True∧Mem Φ (.blk b (ob [.pointer (some ⟨b,0,none⟩),v2] 130)::.gs v2 5 1 (Lib.strCells ⟨#[]⟩)::K) w'):=by
 refine z0l func170 ntmps170 fun Q hQ a he =>?_
 refine go he hm fun a he =>?_
 refine z1v [1,1,1,2,1,1,1,1,0,1,1,1,2,1,1,1] (.q 0 (.q 1 (.q 2 (.q 3 (.q 4 (.q 5 (.q 6 (.q 7 (.q 9 (.q 10 (.q 11 (.q 12 (.q 13 (.e 8 (.q 14 (.q 15 (.done))))))))))))))))) [0] he hm fun w hm =>?_
 refine Qq he hm (fun a he =>?_) (o:=by exact fun _ _ _ he hs=>y_cap he rfl runUnderlying128)
 refine Qq he hm (fun a he =>?_) (o:=by exact fun _ _ _ he hs=>y_mul ((0:Nat):Int) he rfl rfl (by decide))
 refine Qq he hm (fun a he =>?_) (o:=by exact fun _ _ _ he hs=>y_add ((n:Nat):Int) he rfl rfl (by rw [z1d (by omega)];omega))
 refine go he hm fun a he =>?_
 refine d_e he rfl rfl rfl (eff_makeNoZero (m:=n) he hm rfl (by omega) fun b2 cs3 w hle4 hmx5 hm=>⟨fun _=>hm.sn (Fz.Le.refl _),fun a he =>?_⟩)
 refine Qq he hm (fun a he =>?_) (o:=by exact fun _ _ _ he hs=>y_slice_head he rfl rfl runUnderlying128 sizeOf5)
 refine Qq he hm (fun a he =>?_) (o:=by exact fun _ _ _ he hs=>y_copy_nil he rfl rfl underlying128 (by kernel_rfl) rfl)
 refine Sto 1 he hm fun w hm a he =>?_
 replace hm:=row_of_raw (i:=0) hm rfl hmx5
 replace hm:=hm.nf
 refine go he hm fun a he =>?_
 replace hm:=hm.pl 1
 refine hQ _ _ _ (ret0N he results170 ?_)
 exact ⟨_,rfl,trivial,hm⟩
theorem growB_ok {Φ:Fz} {K:List Res} {w:World} {b n:Nat} (hn:n≤140737488355328) (hm:Mem Φ (.blk b (ob [.pointer none,.slice none 0 0] 130)::K) w) :
  Calls Tryz.prog 119 (List.toArray [.pointer (some ⟨b,0,none⟩),.int .i64 ((n:Nat):Int)]) w (fun ee w'=>∃v2,ee=.returned (.tuple #[])∧True∧Mem Φ (.blk b (ob [.pointer (some ⟨b,0,none⟩),v2] 130)::.gs v2 5 1 (Lib.strCells ⟨#[]⟩)::K) w'):=by
 refine z0l func119 ntmps119 fun Q hQ a he =>?_
 refine z0y call120 he hm (fun w hm a he =>?_) (c:=copyCheck_ok (.inl rfl) rfl rfl hm)
 replace hm:=hm.nf
 refine go he hm fun a he =>?_
 have hn0_:¬n < 0:=by omega
 refine Reg [1,1,1,2,1,1,1,1,2,1,1,1,1] [0] he hm fun w hm a he =>?_
 refine Qq he hm (fun a he =>?_) (o:=by exact fun _ _ _ he hs=>y_cap he rfl runUnderlying128)
 refine Qq he hm (fun a he =>?_) (o:=by exact fun _ _ _ he hs=>z7h ((0:Nat):Int) he rfl rfl (by decide))
 refine go he hm fun a he =>?_
 by_cases h5:0 < n
 refine z2i call170 he hm (fun y6 w hG7 hm a he =>?_) (c:=grow_ok (by omega) hm)
 replace hm:=hm.nf
 refine go he hm fun a he =>?_
 refine hQ _ _ _ (ret0N he results119 ?_)
 exact ⟨_,rfl,trivial,hm⟩
 refine go he hm fun a he =>?_
 replace hm:=hm.nilRow 5 1
 replace hm:=hm.pl 1
 refine hQ _ _ _ (ret0N he results119 ?_)
 exact ⟨_,rfl,trivial,hm⟩
end Go.Sw

namespace Go.Sw
open Go.Proofs.Tryz
open Go.Proofs
set_option maxRecDepth 20000
set_option maxHeartbeats 4000000
variable {Φ:Fz} {K:List Res} {w:World}
theorem joinQ_ok {b off cap:Nat} {arr:Array Value} {l:List Bs} {sep:Bs} (hq:QAt off cap arr l) (hb:lens l+sep.size * l.length≤70368744177664) (hm:Mem Φ (qblk b arr::K) w) :
  Calls Tryz.prog 67 (List.toArray [qval b off cap l,.string sep]) w (fun ee w'=>ee=.returned (.string (z8d sep l))∧Mem Φ (qblk b arr::K) w'):=by
 have hlm_:l.length≤9223372036854775807:=Nat.le_trans hq.fits (by have h_:=hq.max;simpa [maxLen] using h_)
 have hld_:(l.drop 1).length≤l.length:=by rw [List.length_drop];omega
 refine z0l func67 ntmps67 fun Q hQ a he =>?_
 refine go he hm fun a he =>?_
 by_cases h5:l.length=0
 refine Ret1 hQ he hm ?_
 have e_:l=[]:=List.eq_nil_of_length_eq_zero h5
 subst e_
 exact ⟨rfl,hm⟩
 refine go he hm fun a he =>?_
 by_cases h8:l.length=1
 refine go he hm fun a he =>?_
 have hx1_:=h8
 refine go he hm fun a he =>?_
 have hb10:0 < l.length:=by omega
 obtain ⟨x11,hx12⟩:=z2d hb10
 refine Qq he hm (fun a he =>?_) (o:=by exact fun _ _ _ he hs=>z8v 0 0 he hs hq rfl rfl hx12 isAgg9)
 refine Ret1 hQ he hm ?_
 obtain ⟨y_,e_⟩:∃y_,l=[y_]:=by
  cases l with
  | nil=>simp at hx1_
  | cons a r=>cases r with
   | nil=>exact ⟨a,rfl⟩
   | cons b r=>simp at hx1_
 subst e_
 have e2_:=hx12
 simp at e2_
 subst e2_
 exact ⟨rfl,hm⟩
 refine go he hm fun a he =>?_
 by_cases h16:0 < sep.size
 refine Qq he hm (fun a he =>?_) (o:=by exact fun _ _ _ he hs=>z7h (((l.length - 1):Nat):Int) he rfl rfl (by rw [z1d (by omega)];omega))
 refine Qq he hm (fun a he =>?_) (o:=by exact fun _ _ _ he hs=>y_quo _ he rfl rfl (by omega) rfl)
 have hquo_:¬IntKind.i64.wrap ((9223372036854775807:Int).tdiv (((l.length - 1):Nat):Int))≤((sep.size:Nat):Int):=quo_big (by omega) (by omega) (by have h_:=Nat.mul_le_mul_left sep.size (show l.length - 1≤l.length by omega);omega)
 refine Qq he hm (fun a he =>?_) (o:=by exact fun _ _ _ he hs=>z7h (((l.length - 1):Nat):Int) he rfl rfl (by rw [z1d (by omega)];omega))
 refine Qq he hm (fun a he =>?_) (o:=by exact fun _ _ _ he hs=>y_mul (((sep.size * (l.length - 1)):Nat):Int) he rfl rfl (by rw [← Int.natCast_mul];exact z1d (by have h_:=Nat.mul_le_mul_left sep.size (show l.length - 1≤l.length by omega);omega)))
 refine Qq he hm (fun a he =>?_) (o:=by exact fun _ _ _ he hs=>z7g (i:=0) (j:=(sep.size * (l.length - 1))) he rfl rfl (by have h_:=Nat.mul_le_mul_left sep.size (show l.length - 1≤l.length by omega);omega))
 refine go he hm fun a he =>?_
 have hn0_:(0+(sep.size * (l.length - 1)))≤sep.size * l.length+lens (l.take 0):=by have h_:=Nat.mul_le_mul_left sep.size (show l.length - 1≤l.length by omega);omega
 refine go he hm fun a he =>?_
 refine z8x (fun mm a w=>∃(i:Nat) (n:Nat),mm=l.length - i∧EnvR 75 [(0,qval b off cap l),(1,.string sep),(5,.int .i64 ((n:Nat):Int)),(39,qval b off cap l),(40,.int .i64 ((l.length:Nat):Int)),(41,.int .i64 ((i:Nat):Int))] [] a∧Mem Φ (qblk b arr::K) w∧(n≤sep.size * l.length+lens (l.take i))) (l.length - 0) ⟨0,(0+(sep.size * (l.length - 1))),rfl,he.pk,hm,hn0_⟩ ?_
 clear hm he
 rintro mm a w ⟨i,n,hmu,he,hm,hI22⟩ L21 hL21
 refine go he hm fun a he =>?_
 by_cases h24:i < l.length
 refine go he hm fun a he =>?_
 obtain ⟨x28,hx29⟩:=z2d h24
 refine Qq he hm (fun a he =>?_) (o:=by exact fun _ _ _ he hs=>z8v 0 i he hs hq rfl rfl hx29 isAgg9)
 refine go he hm fun a he =>?_
 have hnb_:n+x28.size≤140737488355328:=by have h0_:=hI22;have h1_:=z7s l i;have h2_:=z8e hx29;omega
 refine Qq he hm (fun a he =>?_) (o:=by exact fun _ _ _ he hs=>z7h (((9223372036854775807 - n):Nat):Int) he rfl rfl (by rw [z1d (by omega)];omega))
 have hov_:¬(9223372036854775807 - n) < x28.size:=by omega
 refine Qq he hm (fun a he =>?_) (o:=by exact fun _ _ _ he hs=>z7g (i:=n) (j:=x28.size) he rfl rfl (by omega))
 refine go he hm fun a he =>?_
 refine hL21 _ _ _ (by subst hmu;omega) ⟨(i+1),((n+x28.size)),rfl,he.pk,hm,?_⟩
 rw [lens_take hx29];omega
 refine Alc he hm fun b34 w hm a he =>?_
 refine z2i call119 he hm (fun y36 w hG37 hm a he =>?_) (c:=growB_ok (n:=n) (by have h1_:=hI22;have h2_:=z7s l i;omega) hm)
 replace hm:=hm.nf
 refine go he hm fun a he =>?_
 have hb39:0 < l.length:=by omega
 obtain ⟨x40,hx41⟩:=z2d hb39
 refine Qq he hm (fun a he =>?_) (o:=by exact fun _ _ _ he hs=>z8v 2 0 he hs hq rfl rfl hx41 isAgg9)
 replace hm:=hm.ar [] [1,1]
 refine z2i call68 he hm (fun y42 w hG43 hm a he =>?_) (c:=z0t (t:=⟨#[]⟩) (s:=x40) (.inr rfl) (by have h0_:(⟨#[]⟩:Bs).size=0:=rfl;have h1_:=z7s l 0;have h2_:=z8e hx41;omega) hm)
 replace hm:=hm.nf
 refine go he hm fun a he =>?_
 have hq46:=hq.tail hb39
 refine Qq he hm (fun a he =>?_) (o:=by exact fun _ _ _ he hs=>y_slice_q he hq rfl rfl runUnderlying25 sizeOf9 hb39)
 refine go he hm fun a he =>?_
 refine z8x (fun mm a w=>∃(i:Nat) (bv:Value) (acc:Bs),mm=(l.drop 1).length - i∧EnvR 75 [(1,.string sep),(8,.pointer (some ⟨b34,0,none⟩)),(63,qval b (qoff off cap) (cap - 1) (l.drop 1)),(64,.int .i64 (((l.drop 1).length:Nat):Int)),(65,.int .i64 ((i:Nat):Int))] [] a∧Mem Φ (.blk b34 (ob [.pointer (some ⟨b34,0,none⟩),bv] 130)::.gs (bv) 5 1 (Lib.strCells acc)::qblk b arr::K) w∧(z8d sep l=((l.drop 1).drop i).foldl (fun a s=>a++sep++s) acc∧acc.size+lens ((l.drop 1).drop i)+sep.size * ((l.drop 1).length - i)≤70368744177664)) ((l.drop 1).length - 0) ⟨0,y42,(⟨#[]⟩++x40),rfl,he.pk,hm,(join_head hx41 hb)⟩ ?_
 clear hm he
 rintro mm a w ⟨i,bv,acc,hmu,he,hm,hI48⟩ L47 hL47
 obtain ⟨hI48,hsz_⟩:=hI48
 refine go he hm fun a he =>?_
 by_cases h50:i < (l.drop 1).length
 refine go he hm fun a he =>?_
 obtain ⟨x54,hx55⟩:=z2d h50
 refine Qq he hm (fun a he =>?_) (o:=by exact fun _ _ _ he hs=>z8v 2 i he hs hq46 rfl rfl hx55 isAgg9)
 replace hm:=hm.ar [] [1,1]
 refine z2i call68 he hm (fun y57 w hG58 hm a he =>?_) (c:=z0t (t:=acc) (s:=sep) (.inr rfl) (by have h1_:sep.size≤sep.size * ((l.drop 1).length - i):=Nat.le_mul_of_pos_right _ (by omega);omega) hm)
 replace hm:=hm.nf
 replace hm:=hm.ar [] [1,1]
 refine z2i call68 he hm (fun y59 w hG60 hm a he =>?_) (c:=z0t (t:=(acc++sep)) (s:=x54) (.inr rfl) (by have h1_:sep.size≤sep.size * ((l.drop 1).length - i):=Nat.le_mul_of_pos_right _ (by omega);have h2_:=z8e hx55;rw [z0h];omega) hm)
 replace hm:=hm.nf
 refine go he hm fun a he =>?_
 refine hL47 _ _ _ (by subst hmu;omega) ⟨(i+1),(y59),(((acc++sep)++x54)),rfl,he.pk,hm,?_⟩
 exact join_step hx55 hI48 hsz_
 replace hm:=hm.ar [] [1,1]
 refine z0y call72 he hm (fun w hm a he =>?_) (c:=z7e (t:=acc) hm)
 replace hm:=hm.nf
 refine Ret1 hQ he hm ?_
 rw [hI48,z0g h50]
 exact ⟨rfl,hm⟩
 refine go he hm fun a he =>?_
 have hn0_:0≤sep.size * l.length+lens (l.take 0):=by have h_:=Nat.mul_le_mul_left sep.size (show l.length - 1≤l.length by omega);omega
 refine go he hm fun a he =>?_
 refine z8x (fun mm a w=>∃(i:Nat) (n:Nat),mm=l.length - i∧EnvR 75 [(0,qval b off cap l),(1,.string sep),(5,.int .i64 ((n:Nat):Int)),(39,qval b off cap l),(40,.int .i64 ((l.length:Nat):Int)),(41,.int .i64 ((i:Nat):Int))] [] a∧Mem Φ (qblk b arr::K) w∧(n≤sep.size * l.length+lens (l.take i))) (l.length - 0) ⟨0,0,rfl,he.pk,hm,hn0_⟩ ?_
 clear hm he
 rintro mm a w ⟨i,n,hmu,he,hm,hI66⟩ L65 hL65
 refine go he hm fun a he =>?_
 by_cases h68:i < l.length
 refine go he hm fun a he =>?_
 obtain ⟨x72,hx73⟩:=z2d h68
 refine Qq he hm (fun a he =>?_) (o:=by exact fun _ _ _ he hs=>z8v 0 i he hs hq rfl rfl hx73 isAgg9)
 refine go he hm fun a he =>?_
 have hnb_:n+x72.size≤140737488355328:=by have h0_:=hI66;have h1_:=z7s l i;have h2_:=z8e hx73;omega
 refine Qq he hm (fun a he =>?_) (o:=by exact fun _ _ _ he hs=>z7h (((9223372036854775807 - n):Nat):Int) he rfl rfl (by rw [z1d (by omega)];omega))
 have hov_:¬(9223372036854775807 - n) < x72.size:=by omega
 refine Qq he hm (fun a he =>?_) (o:=by exact fun _ _ _ he hs=>z7g (i:=n) (j:=x72.size) he rfl rfl (by omega))
 refine go he hm fun a he =>?_
 refine hL65 _ _ _ (by subst hmu;omega) ⟨(i+1),((n+x72.size)),rfl,he.pk,hm,?_⟩
 rw [lens_take hx73];omega
 refine Alc he hm fun b78 w hm a he =>?_
 refine z2i call119 he hm (fun y80 w hG81 hm a he =>?_) (c:=growB_ok (n:=n) (by have h1_:=hI66;have h2_:=z7s l i;omega) hm)
 replace hm:=hm.nf
 refine go he hm fun a he =>?_
 have hb83:0 < l.length:=by omega
 obtain ⟨x84,hx85⟩:=z2d hb83
 refine Qq he hm (fun a he =>?_) (o:=by exact fun _ _ _ he hs=>z8v 2 0 he hs hq rfl rfl hx85 isAgg9)
 replace hm:=hm.ar [] [1,1]
 refine z2i call68 he hm (fun y86 w hG87 hm a he =>?_) (c:=z0t (t:=⟨#[]⟩) (s:=x84) (.inr rfl) (by have h0_:(⟨#[]⟩:Bs).size=0:=rfl;have h1_:=z7s l 0;have h2_:=z8e hx85;omega) hm)
 replace hm:=hm.nf
 refine go he hm fun a he =>?_
 have hq90:=hq.tail hb83
 refine Qq he hm (fun a he =>?_) (o:=by exact fun _ _ _ he hs=>y_slice_q he hq rfl rfl runUnderlying25 sizeOf9 hb83)
 refine go he hm fun a he =>?_
 refine z8x (fun mm a w=>∃(i:Nat) (bv:Value) (acc:Bs),mm=(l.drop 1).length - i∧EnvR 75 [(1,.string sep),(8,.pointer (some ⟨b78,0,none⟩)),(63,qval b (qoff off cap) (cap - 1) (l.drop 1)),(64,.int .i64 (((l.drop 1).length:Nat):Int)),(65,.int .i64 ((i:Nat):Int))] [] a∧Mem Φ (.blk b78 (ob [.pointer (some ⟨b78,0,none⟩),bv] 130)::.gs (bv) 5 1 (Lib.strCells acc)::qblk b arr::K) w∧(z8d sep l=((l.drop 1).drop i).foldl (fun a s=>a++sep++s) acc∧acc.size+lens ((l.drop 1).drop i)+sep.size * ((l.drop 1).length - i)≤70368744177664)) ((l.drop 1).length - 0) ⟨0,y86,(⟨#[]⟩++x84),rfl,he.pk,hm,(join_head hx85 hb)⟩ ?_
 clear hm he
 rintro mm a w ⟨i,bv,acc,hmu,he,hm,hI92⟩ L91 hL91
 obtain ⟨hI92,hsz_⟩:=hI92
 refine go he hm fun a he =>?_
 by_cases h94:i < (l.drop 1).length
 refine go he hm fun a he =>?_
 obtain ⟨x98,hx99⟩:=z2d h94
 refine Qq he hm (fun a he =>?_) (o:=by exact fun _ _ _ he hs=>z8v 2 i he hs hq90 rfl rfl hx99 isAgg9)
 replace hm:=hm.ar [] [1,1]
 refine z2i call68 he hm (fun y101 w hG102 hm a he =>?_) (c:=z0t (t:=acc) (s:=sep) (.inr rfl) (by have h1_:sep.size≤sep.size * ((l.drop 1).length - i):=Nat.le_mul_of_pos_right _ (by omega);omega) hm)
 replace hm:=hm.nf
 replace hm:=hm.ar [] [1,1]
 refine z2i call68 he hm (fun y103 w hG104 hm a he =>?_) (c:=z0t (t:=(acc++sep)) (s:=x98) (.inr rfl) (by have h1_:sep.size≤sep.size * ((l.drop 1).length - i):=Nat.le_mul_of_pos_right _ (by omega);have h2_:=z8e hx99;rw [z0h];omega) hm)
 replace hm:=hm.nf
 refine go he hm fun a he =>?_
 refine hL91 _ _ _ (by subst hmu;omega) ⟨(i+1),(y103),(((acc++sep)++x98)),rfl,he.pk,hm,?_⟩
 exact join_step hx99 hI92 hsz_
 replace hm:=hm.ar [] [1,1]
 refine z0y call72 he hm (fun w hm a he =>?_) (c:=z7e (t:=acc) hm)
 replace hm:=hm.nf
 refine Ret1 hQ he hm ?_
 rw [hI92,z0g h94]
 exact ⟨rfl,hm⟩
theorem joinNil_ok {p:Option Addr} {c:Nat} {sep:Bs} (hm:Mem Φ K w) :
  Calls Tryz.prog 67 (List.toArray [.slice p 0 c,.string sep]) w (fun ee w'=>ee=.returned (.string ⟨#[]⟩)∧Mem Φ K w'):=by
 refine z0l func67 ntmps67 fun Q hQ a he =>?_
 refine Qq he hm (fun a he =>?_) (o:=by exact fun _ _ _ he hs=>z4t true he rfl rfl rfl)
 refine Ret1 hQ he hm ?_
 exact ⟨rfl,hm⟩
theorem joinG_ok {v:Value} {l:List Bs} {sep:Bs} (hb:lens l+sep.size * l.length≤70368744177664) (hm:Mem Φ (.gs v 9 1 (strs l)::K) w) :
  Calls Tryz.prog 67 (List.toArray [v,.string sep]) w (fun ee w'=>ee=.returned (.string (z8d sep l))∧Mem Φ K w'):=by
 by_cases hl:l=[]
 subst hl
 obtain ⟨p0,m0,c0,rfl,h0,_⟩:=hm.toSees.gsForm (i:=0) rfl
 have e0_:m0=0:=by simpa [strs] using h0.symm
 subst e0_
 exact joinNil_ok hm.tail
 obtain ⟨b,cap,arr,rfl,hq,hm⟩:=gs_queue (i:=0) hm rfl hl
 exact (joinQ_ok hq hb hm).mono fun e w' h=>⟨h.1,h.2.tail⟩
end Go.Sw

namespace Go.Sw
def ofTx (l:Tx):Bs:=⟨l.toArray⟩
theorem y0t (a b:Tx):ofTx (a++b)=ofTx a++ofTx b:=by
 apply ByteArray.ext
 simp only [ofTx,ByteArray.data_append]
 apply Array.ext';simp
theorem ofTx_tx (s:Bs):ofTx (tx s)=s:=by
 apply ByteArray.ext;simp [ofTx,tx]
theorem ofTx_size (l:Tx):(ofTx l).size=l.length:=by
 show l.toArray.size=_;simp
theorem tx_size (s:Bs):(tx s).length=s.size:=by
 simp only [tx,Array.length_toList];rfl
def wB (e:Ex):Bs:=ofTx (z4f e)
def wsB (l:List Ex):Bs:=ofTx (writePs l)
theorem writePs_drop {l:List Ex} {i:Nat} {x:Ex} (h:l[i]? = some x):writePs (l.drop i)=32::z4f x++writePs (l.drop (i+1)):=by rw [z0a h];rfl
theorem writePs_end {l:List Ex} {i:Nat} (h:¬i < l.length):writePs (l.drop i)=[]:=by rw [z0g h];rfl
theorem writePa_cons (a:Arm) (l:List Arm):writePa (a::l)=[32,40]++(tx a.con++(a.vars.map fun v=>32::tx v).flatten)++[32,45,62,32]++z4f a.body++[41]++writePa l:=by
 cases a;rfl
section
variable {e:Ex}
theorem write_num (h:e.kind=1):z4f e=itoaL e.num:=by cases e;simp only [Ex.kind] at h;subst h;rfl
theorem write_var (h:e.kind=2):z4f e=tx e.name:=by cases e;simp only [Ex.kind] at h;subst h;rfl
theorem write_inp (h:e.kind=3):z4f e=33::tx e.name:=by cases e;simp only [Ex.kind] at h;subst h;rfl
theorem write_con0 (h:e.kind=4) (ha:e.args.length=0):z4f e=tx e.name:=by
 cases e with
 | mk k n s args arms =>
  simp only [Ex.kind] at h;subst h
  have:args=[]:=List.eq_nil_of_length_eq_zero ha
  subst this;rfl
theorem write_con (h:e.kind=4) (ha:¬e.args.length=0):z4f e=40::tx e.name++writePs e.args++[41]:=by
 cases e with
 | mk k n s args arms =>
  simp only [Ex.kind] at h;subst h
  cases args with
  | nil=>exact absurd rfl ha
  | cons a l=>rfl
theorem write_let (h:e.kind=6):z4f e=40::([108,101,116,32]++tx e.name)++writePs e.args++[41]:=by cases e;simp only [Ex.kind] at h;subst h;rfl
theorem write_case (h:e.kind=7):z4f e=[40,99,97,115,101,32]++writeH e.args++writePa e.arms++[41]:=by cases e;simp only [Ex.kind] at h;subst h;rfl
theorem write_other (h1:¬e.kind=1) (h2:¬e.kind=2) (h3:¬e.kind=3) (h4:¬e.kind=4) (h6:¬e.kind=6) (h7:¬e.kind=7):z4f e=40::tx e.name++writePs e.args++[41]:=by
 cases e with
 | mk k n s args arms =>
  simp only [Ex.kind] at *
  simp only [z4f,if_neg h1,if_neg h2,if_neg h3,if_neg h4,if_neg h6,if_neg h7];rfl
end
theorem join_sp:∀(x:Bs) (l:List Bs),tx (z8d ⟨#[32]⟩ (x::l))=tx x++(l.map fun v=>32::tx v).flatten
 | x,l=>by
  have:∀(l:List Bs) (a:Bs),tx (l.foldl (fun a s=>a++⟨#[32]⟩++s) a)=tx a++(l.map fun v=>32::tx v).flatten:=by
   intro l
   induction l with
   | nil=>intro a;simp
   | cons y l ih =>
    intro a
    rw [List.foldl_cons,ih]
    simp [tx,ByteArray.data_append,List.append_assoc]
  exact this l x
theorem digsR_dec:∀(f n:Nat),n < f→(digsR f n).reverse=Lib.decDigits n
 | 0,_,h=>by omega
 | f+1,n,h=>by
  rw [Lib.decDigits]
  simp only [digsR]
  by_cases hn:n < 10
  ·rw [if_pos hn,dif_pos hn];rfl
  ·rw [if_neg hn,dif_neg hn,List.reverse_cons,digsR_dec f (n / 10) (by omega)];try rfl
theorem itoa_eq (n:Int):Lib.itoa n=itoaL n:=by
 have h:∀u,digsL u=Lib.decDigits u:=fun u=>digsR_dec (u+1) u (Nat.lt_succ_self _)
 unfold Lib.itoa itoaL
 split
 ·rw [h,show n.natAbs=(-n).toNat by omega]
 ·rw [h]
theorem itoaP_eq (n:Int):itoaP n=ofTx (itoaL n):=by unfold itoaP ofTx;rw [itoa_eq]
theorem z2w (e:Ex):(wB e).size=(z4f e).length:=ofTx_size _
def z6c (op:Bs) (l:List Ex):Bs:=ofTx (40::tx op++writePs l++[41])
theorem w1_start (t op:Bs) (l:List Ex):(t++(⟨#[40]⟩++op))++ofTx (writePs l++[41])=t++z6c op l:=by (apply ByteArray.ext;apply Array.ext';simp [z6c,wB,wsB,ofTx,tx,ByteArray.data_append,List.append_assoc])
theorem w1_step {acc F:Bs} {l:List Ex} {i:Nat} {x:Ex} (hx:l[i]? = some x) (h:acc++ofTx (writePs (l.drop i)++[41])=F):((acc++⟨#[32]⟩)++wB x)++ofTx (writePs (l.drop (i+1))++[41])=F:=by
 rw [← h,writePs_drop hx];(apply ByteArray.ext;apply Array.ext';simp [z6c,wB,wsB,ofTx,tx,ByteArray.data_append,List.append_assoc])
theorem w1_end {acc F:Bs} {l:List Ex} {i:Nat} (hi:¬i < l.length) (h:acc++ofTx (writePs (l.drop i)++[41])=F):acc++⟨#[41]⟩=F:=by
 rw [← h,writePs_end hi];(apply ByteArray.ext;apply Array.ext';simp [z6c,wB,wsB,ofTx,tx,ByteArray.data_append,List.append_assoc])
theorem z5u {acc F:Bs} {l:Tx} (h:acc++ofTx l=F):acc.size+l.length=F.size:=by rw [← h,z0h,ofTx_size]
mutual
def wfE:Ex→Bool
 | .mk k n s args arms=>(decide (k≠7) || decide (0 < args.length))&&wfEs args&&wfEa arms&&decide (s.size≤24)&&decide ((itoaL n).length≤24)
def wfEs:List Ex→Bool
 | []=>true
 | e::es=>wfE e&&wfEs es
def wfEa:List Arm→Bool
 | []=>true
 | .mk c vs b::es=>wfE b&&wfEa es&&decide (c.size≤24)&&vs.all (fun v=>decide (v.size≤24))
end
theorem wfEs_mem:∀{l:List Ex},wfEs l=true→∀x∈l,wfE x=true
 | [],_,x,h=>by cases h
 | y::l,h,x,hx=>by
  simp only [wfEs,Bool.and_eq_true] at h
  rcases List.mem_cons.1 hx with rfl | hx
  ·exact h.1
  ·exact wfEs_mem h.2 x hx
theorem wfEa_mem:∀{l:List Arm},wfEa l=true→∀a∈l,wfE a.body=true
 | [],_,x,h=>by cases h
 | .mk c v b::l,h,x,hx=>by
  simp only [wfEa,Bool.and_eq_true] at h
  rcases List.mem_cons.1 hx with rfl | hx
  ·exact h.1.1.1
  ·exact wfEa_mem h.1.1.2 x hx
theorem wfE_sub {e:Ex} (h:wfE e=true):(e.kind=7→0 < e.args.length)∧(∀x∈e.args,wfE x=true)∧∀a∈e.arms,wfE a.body=true:=by
 cases e with
 | mk k n s args arms =>
  simp only [wfE,Bool.and_eq_true,Bool.or_eq_true,decide_eq_true_eq] at h
  exact ⟨fun hk=>h.1.1.1.1.resolve_left (fun hn=>hn hk),wfEs_mem h.1.1.1.2,wfEa_mem h.1.1.2⟩
theorem join_len (x:Bs) (l:List Bs):lens (x::l)+(⟨#[32]⟩:Bs).size * (x::l).length=(tx x++(l.map fun v=>32::tx v).flatten).length+1:=by
 have h1:(⟨#[32]⟩:Bs).size=1:=rfl
 rw [h1,z6y,List.length_append,tx_size,List.length_cons]
 have:∀l:List Bs,(l.map fun v=>32::tx v).flatten.length=lens l+l.length:=by
  intro l
  induction l with
  | nil=>rfl
  | cons y l ih=>rw [List.map_cons,List.flatten_cons,List.length_append,ih,z6y,List.length_cons,List.length_cons,tx_size];omega
 rw [this];omega
def armB (a:Arm):Bs:=((((⟨#[32,40]⟩:Bs)++z8d ⟨#[32]⟩ (a.con::a.vars))++⟨#[32,45,62,32]⟩)++wB a.body)++⟨#[41]⟩
theorem armB_eq (a:Arm) (l:List Arm):armB a++ofTx (writePa l)=ofTx (writePa (a::l)):=by
 rw [writePa_cons]
 have h:=join_sp a.con a.vars
 have h2:ofTx (tx a.con++(a.vars.map fun v=>32::tx v).flatten)=z8d ⟨#[32]⟩ (a.con::a.vars):=by rw [← h,ofTx_tx]
 simp only [y0t,armB,wB]
 rw [← y0t (tx a.con),h2]
 rfl
section
variable {e:Ex}
theorem wB_num (h:e.kind=1):itoaP e.num=wB e:=by unfold wB;rw [write_num h,itoaP_eq]
theorem wB_var (h:e.kind=2):e.name=wB e:=by unfold wB;rw [write_var h,ofTx_tx]
theorem wB_inp (h:e.kind=3):(⟨#[33]⟩:Bs)++e.name=wB e:=by unfold wB;rw [write_inp h];(apply ByteArray.ext;apply Array.ext';simp [z6c,wB,wsB,ofTx,tx,ByteArray.data_append,List.append_assoc])
theorem wB_con0 (h:e.kind=4) (ha:e.args.length=0):e.name=wB e:=by unfold wB;rw [write_con0 h ha,ofTx_tx]
theorem wB_con (h:e.kind=4) (ha:¬e.args.length=0):z6c e.name e.args=wB e:=by unfold wB z6c;rw [write_con h ha]
theorem wB_let (h:e.kind=6):z6c ((⟨#[108,101,116,32]⟩:Bs)++e.name) e.args=wB e:=by unfold wB z6c;rw [write_let h];(apply ByteArray.ext;apply Array.ext';simp [z6c,wB,wsB,ofTx,tx,ByteArray.data_append,List.append_assoc])
theorem wB_other (h1:¬e.kind=1) (h2:¬e.kind=2) (h3:¬e.kind=3) (h4:¬e.kind=4) (h6:¬e.kind=6) (h7:¬e.kind=7):z6c e.name e.args=wB e:=by
 unfold wB z6c;rw [write_other h1 h2 h3 h4 h6 h7]
theorem wc_start {t:Bs} {a:Ex} (h:e.kind=7) (ha:e.args[0]? = some a):((t++(⟨#[40,99,97,115,101,32]⟩:Bs))++wB a)++ofTx (writePa e.arms++[41])=t++wB e:=by
 have h1:writeH e.args=z4f a:=by
  cases hl:e.args with
  | nil=>rw [hl] at ha;simp at ha
  | cons x l=>rw [hl] at ha;simp only [List.getElem?_cons_zero,Option.some.injEq] at ha;subst ha;rfl
 have h2:wB e=ofTx ([40,99,97,115,101,32]++z4f a++writePa e.arms++[41]):=by unfold wB;rw [write_case h,h1]
 rw [h2];(apply ByteArray.ext;apply Array.ext';simp [z6c,wB,wsB,ofTx,tx,ByteArray.data_append,List.append_assoc])
end
theorem wc_step {acc F:Bs} {l:List Arm} {i:Nat} {x:Arm} (hx:l[i]? = some x) (h:acc++ofTx (writePa (l.drop i)++[41])=F) :
  (((acc++(((⟨#[32,40]⟩:Bs)++z8d (⟨#[32]⟩:Bs) (x.con::x.vars))++(⟨#[32,45,62,32]⟩:Bs)))++wB x.body)++⟨#[41]⟩)++ofTx (writePa (l.drop (i+1))++[41])=F:=by
 rw [← h,z0a hx,y0t (writePa (x::_)),← armB_eq,y0t]
 unfold armB;simp only [ByteArray.append_assoc]
theorem wc_end {acc F:Bs} {l:List Arm} {i:Nat} (hi:¬i < l.length) (h:acc++ofTx (writePa (l.drop i)++[41])=F):acc++⟨#[41]⟩=F:=by
 rw [← h,z0g hi];(apply ByteArray.ext;apply Array.ext';simp [z6c,wB,wsB,ofTx,tx,ByteArray.data_append,List.append_assoc]);rfl
theorem arm_len {l:List Arm} {i:Nat} {x:Arm} (hx:l[i]? = some x):(writePa (l.drop i)).length=(armB x).size+(writePa (l.drop (i+1))).length:=by
 have:=congrArg ByteArray.size (armB_eq x (l.drop (i+1)))
 rw [z0a hx]
 rw [z0h,ofTx_size,ofTx_size] at this
 exact this.symm
theorem z8b (a:Arm):(armB a).size=2+(z8d ⟨#[32]⟩ (a.con::a.vars)).size+4+(wB a.body).size+1:=by
 simp only [armB,z0h];rfl
theorem joinP_size (x:Bs) (l:List Bs):lens (x::l)+(⟨#[32]⟩:Bs).size * (x::l).length=(z8d ⟨#[32]⟩ (x::l)).size+1:=by
 rw [join_len,← join_sp,tx_size]
theorem formB_size (op:Bs) (l:List Ex):(z6c op l).size=2+op.size+(writePs l).length:=by
 unfold z6c;rw [ofTx_size];simp only [List.length_append,List.length_cons,List.length_nil,tx_size];omega
theorem vars_len:∀{vs:List Bs},(vs.all fun v=>decide (v.size≤24))=true→(vs.map fun v=>32::tx v).flatten.length≤25 * vs.length
 | [],_=>by simp
 | v::vs,h=>by
  simp only [List.all_cons,Bool.and_eq_true,decide_eq_true_eq] at h
  have:=vars_len h.2
  simp only [List.map_cons,List.flatten_cons,List.length_append,List.length_cons,tx_size];omega
mutual
theorem write_short:∀(e:Ex) (l:Int),wfE e=true→(meas e l).1=false→((z4f e).length:Int)≤500 * (l - (meas e l).2) - 440
 | .mk k n s args arms,l=>by
  intro hw h
  simp only [wfE,Bool.and_eq_true,decide_eq_true_eq] at hw
  obtain ⟨⟨⟨⟨_,ha⟩,hb⟩,hs⟩,hn⟩:=hw
  simp only [meas] at h ⊢
  split at h
  ·cases h
  ·rename_i hl
   rw [if_neg hl]
   cases hm:meass args (l - 1) with
   | mk b q =>
    rw [hm] at h
    cases b with
    | true=>cases h
    | false =>
     have k1:=writes_short args (l - 1) ha (by rw [hm])
     have k2:=writea_short arms q hb h
     rw [hm] at k1
     simp only at k1 ⊢
     have k3:(writeH args).length≤(writePs args).length:=by
      cases args with
      | nil=>simp [writeH,writePs]
      | cons x xs=>simp only [writeH,writePs,List.length_append,List.length_cons];omega
     have k4:=tx_size s
     have k5:=meass_le args (l - 1) (by rw [hm]) (by omega)
     rw [hm] at k5
     have k6:=measa_le arms q h (by simp only at k5;omega)
     simp only at k5
     simp only [z4f]
     split
     ·omega
     split
     ·omega
     split
     ·simp only [List.length_cons];omega
     split
     ·cases args with
      | nil=>simp only;omega
      | cons x xs=>simp only [List.length_append,List.length_cons,List.length_nil];omega
     split
     ·simp only [List.length_append,List.length_cons,List.length_nil];omega
     split
     ·simp only [List.length_append,List.length_cons,List.length_nil];omega
     ·simp only [List.length_append,List.length_cons,List.length_nil];omega
theorem writes_short:∀(es:List Ex) (l:Int),wfEs es=true→(meass es l).1=false→((writePs es).length:Int)≤500 * (l - (meass es l).2)
 | [],l=>by intro _ _;simp [writePs,meass]
 | e::es,l=>by
  intro hw h
  simp only [wfEs,Bool.and_eq_true] at hw
  simp only [meass] at h ⊢
  cases hm:meas e l with
  | mk b q =>
   rw [hm] at h
   cases b with
   | true=>cases h
   | false =>
    have k1:=write_short e l hw.1 (by rw [hm])
    have k2:=writes_short es q hw.2 h
    rw [hm] at k1
    simp only [writePs,List.length_append,List.length_cons] at k1 ⊢
    omega
theorem writea_short:∀(es:List Arm) (l:Int),wfEa es=true→(measa es l).1=false→((writePa es).length:Int)≤500 * (l - (measa es l).2)
 | [],l=>by intro _ _;simp [writePa,measa]
 | .mk c vs b::es,l=>by
  intro hw h
  simp only [wfEa,Bool.and_eq_true,decide_eq_true_eq] at hw
  simp only [measa] at h ⊢
  split at h
  ·cases h
  ·rename_i hv
   rw [if_neg hv]
   cases hm:meas b l with
   | mk q0 q =>
    rw [hm] at h
    cases q0 with
    | true=>cases h
    | false =>
     have k1:=write_short b l hw.1.1.1 (by rw [hm])
     have k2:=writea_short es q hw.1.1.2 h
     have k3:=vars_len hw.2
     rw [hm] at k1
     simp only [writePa,List.length_append,List.length_cons,List.length_nil,tx_size] at k1 ⊢
     omega
end
end Go.Sw

namespace Go.Sw
open Go.Proofs.Tryz
open Go.Proofs
set_option maxRecDepth 20000
set_option maxHeartbeats 4000000
theorem write1_ok {Φ:Fz} {K:List Res} {w:World} {b bb:Nat} {v va:Value} {bp:Option Addr} {t op:Bs} {l:List Ex} (ih:∀x:Ex,x∈l→∀{Φ:Fz} {K:List Res} {w:World} {d:List Value} {b:Nat} {v:Value} {bp:Option Addr} {t:Bs},REx Φ d x→(bp=none∨bp=some ⟨b,0,none⟩)→Tabs Φ→t.size+(z4f x).length≤8796093022208→Mem Φ (.blk b (ob [.pointer bp,v] 130)::.gs v 5 1 (Lib.strCells t)::K) w→Calls Tryz.prog 69 (List.toArray [.pointer (some ⟨b,0,none⟩),.agg d.toArray]) w (fun ee w'=>∃v2,ee=.returned (.tuple #[])∧True∧Mem Φ (.blk b (ob [.pointer (some ⟨b,0,none⟩),v2] 130)::.gs v2 5 1 (Lib.strCells (t++wB x))::K) w')) (rl:SliceOf REx Φ 5 va l) (hp:bp=none∨bp=some ⟨b,0,none⟩) (G:Tabs Φ) (hb:t.size+(z6c op l).size≤8796093022208) (hm:Mem Φ (.blk bb (ob [.pointer (some ⟨b,0,none⟩)] 127)::.blk b (ob [.pointer bp,v] 130)::.gs v 5 1 (Lib.strCells t)::K) w) :
  Calls Tryz.prog 121 (List.toArray [.string op,va,.pointer (some ⟨bb,0,none⟩)]) w (fun ee w'=>∃v2,ee=.returned (.tuple #[])∧True∧Mem Φ (.blk bb (ob [.pointer (some ⟨b,0,none⟩)] 127)::.blk b (ob [.pointer (some ⟨b,0,none⟩),v2] 130)::.gs v2 5 1 (Lib.strCells (t++z6c op l))::K) w'):=by
 obtain ⟨p1,c1,rfl,hm1,hn1⟩:=rl.fm
 refine z0l func121 ntmps121 fun Q hQ a he =>?_
 refine Qq he hm (fun a he =>?_) (o:=by exact fun _ _ _ he hs=>z5c he rfl rfl (by have h1_:=z5u (w1_start t op l);rw [z0h,z0h] at h1_;have h2_:(⟨#[40]⟩:Bs).size=1:=rfl;have hF_:(t++z6c op l).size=t.size+(z6c op l).size:=z0h _ _;omega))
 replace hm:=hm.ar [] [2,2]
 refine z2i call68 he hm (fun y2 w hG3 hm a he =>?_) (c:=z0t (t:=t) (s:=((⟨#[40]⟩:ByteArray)++op)) hp (by have hF_:(t++z6c op l).size=t.size+(z6c op l).size:=z0h _ _;have h1_:=z5u (w1_start t op l);rw [z0h,z0h] at h1_;have h2_:(⟨#[40]⟩:Bs).size=1:=rfl;rw [z0h];omega) hm)
 replace hm:=hm.nf
 refine go he hm fun a he =>?_
 refine z1i (he.ks [2,11,12]) hm (fun R mm a w=>∃(i:Nat) (bv:Value) (acc:Bs),mm=l.length - i∧R Φ [(13,.int .i64 ((i:Nat):Int))] [(0,.blk b (ob [.pointer (some ⟨b,0,none⟩),bv] 130)),(1,.gs (bv) 5 1 (Lib.strCells acc))] a w∧(acc++ofTx (writePs (l.drop i)++[41])=t++z6c op l)) (l.length - 0) ⟨0,y2,(t++((⟨#[40]⟩:ByteArray)++op)),rfl,⟨he.pk,hm⟩,w1_start t op l⟩ ?_
 clear hm he
 rintro mm a w ⟨i,bv,acc,hmu,⟨he,hm⟩,hI7⟩ L6 hL6
 replace hm:=hm.nf
 refine go he hm fun a he =>?_
 by_cases h9:i < l.length
 refine go he hm fun a he =>?_
 obtain ⟨q13,rfl,x14,hx15,cs16,hl17,ha18,hr19⟩:=rl.el hn1 h9
 obtain ⟨p22,c23,p28,c29,rfl,hi32,h21,h27,hm24,hn25,hm30,hn31⟩:=REx.fm hr19
 refine Alc he hm fun b33 w hm a he =>?_
 refine Sto 0 he hm fun w hm a he =>?_
 replace hm:=hm.ar [] [2,2]
 refine z2i call70 he hm (fun y35 w hG36 hm a he =>?_) (c:=z7d (t:=acc) (c:=32) (.inr rfl) (by have hF_:(t++z6c op l).size=t.size+(z6c op l).size:=z0h _ _;have h1_:=z5u hI7;simp only [List.length_append,List.length_cons,List.length_nil] at h1_;omega) hm)
 replace hm:=hm.nf
 replace hm:=hm.ar [] [1,1]
 refine z2i call69 he hm (fun y37 w hG38 hm a he =>?_) (c:=ih _ (List.mem_of_getElem? hx15) (t:=(acc++⟨#[32]⟩)) hr19 (.inr rfl) G (by have hF_:(t++z6c op l).size=t.size+(z6c op l).size:=z0h _ _;have h1_:=z5u hI7;rw [writePs_drop hx15] at h1_;simp only [List.length_append,List.length_cons,List.length_nil] at h1_;have h2_:(⟨#[32]⟩:Bs).size=1:=rfl;rw [z0h];omega) hm)
 replace hm:=hm.nf
 refine go he hm fun a he =>?_
 replace hm:=hm.dl [2]
 refine hL6 _ _ _ (by subst hmu;omega) ⟨(i+1),(y37),(((acc++⟨#[32]⟩)++wB x14)),rfl,⟨he.pk,by exact hm⟩,?_⟩
 exact w1_step hx15 hI7
 replace hm:=hm.ar [] [1,1]
 refine z2i call70 he hm (fun y40 w hG41 hm a he =>?_) (c:=z7d (t:=acc) (c:=41) (.inr rfl) (by have hF_:(t++z6c op l).size=t.size+(z6c op l).size:=z0h _ _;have h1_:=z5u hI7;simp only [List.length_append,List.length_cons,List.length_nil] at h1_;omega) hm)
 replace hm:=hm.nf
 refine go he hm fun a he =>?_
 replace hm:=hm.ar [] [1,1,2]
 refine hQ _ _ _ (ret0N he results121 ?_)
 refine ⟨y40,rfl,trivial,?_⟩
 rw [← w1_end h9 hI7];exact hm
end Go.Sw

namespace Go.Sw
open Go.Proofs.Tryz
open Go.Proofs
set_option maxRecDepth 20000
set_option maxHeartbeats 4000000
theorem write_step {Φ:Fz} {K:List Res} {w:World} {d:List Value} {e:Ex} {b:Nat} {v:Value} {bp:Option Addr} {t:Bs} (ih:∀x:Ex,x.sz < e.sz→wfE x=true→∀{Φ:Fz} {K:List Res} {w:World} {d:List Value} {b:Nat} {v:Value} {bp:Option Addr} {t:Bs},REx Φ d x→(bp=none∨bp=some ⟨b,0,none⟩)→Tabs Φ→t.size+(z4f x).length≤8796093022208→Mem Φ (.blk b (ob [.pointer bp,v] 130)::.gs v 5 1 (Lib.strCells t)::K) w→Calls Tryz.prog 69 (List.toArray [.pointer (some ⟨b,0,none⟩),.agg d.toArray]) w (fun ee w'=>∃v2,ee=.returned (.tuple #[])∧True∧Mem Φ (.blk b (ob [.pointer (some ⟨b,0,none⟩),v2] 130)::.gs v2 5 1 (Lib.strCells (t++wB x))::K) w')) (hwf:wfE e=true) (re:REx Φ d e) (hp:bp=none∨bp=some ⟨b,0,none⟩) (G:Tabs Φ) (hb:t.size+(z4f e).length≤8796093022208) (hm:Mem Φ (.blk b (ob [.pointer bp,v] 130)::.gs v 5 1 (Lib.strCells t)::K) w) :
  Calls Tryz.prog 69 (List.toArray [.pointer (some ⟨b,0,none⟩),.agg d.toArray]) w (fun ee w'=>∃v2,ee=.returned (.tuple #[])∧True∧Mem Φ (.blk b (ob [.pointer (some ⟨b,0,none⟩),v2] 130)::.gs v2 5 1 (Lib.strCells (t++wB e))::K) w'):=by
 obtain ⟨p3,c4,p9,c10,rfl,hi13,h2,h8,hm5,hn6,hm11,hn12⟩:=REx.fm re
 refine z0l func69 ntmps69 fun Q hQ a he =>?_
 refine Bx he hm fun b15 w hm a he =>?_
 refine Bx he hm fun b16 w hm a he =>?_
 refine go he hm fun a he =>?_
 by_cases h20:e.kind=1
 refine Reg [2,1,2,0,0] [0,1] he hm fun w hm a he =>?_
 have hq_:=congrArg ByteArray.size (wB_num h20)
 have hz_:=z2w e
 refine z0y call122 he hm (fun w hm a he =>?_) (c:=itoa_ok (by obtain ⟨_,_,_,h_,_⟩:=REx.iff.1 re;exact h_) G hm)
 replace hm:=hm.ar [] [3,3]
 refine z2i call68 he hm (fun y21 w hG22 hm a he =>?_) (c:=z0t (t:=t) (s:=(itoaP e.num)) hp (by omega) hm)
 replace hm:=hm.nf
 refine go he hm fun a he =>?_
 replace hm:=hm.dl [3,2]
 refine hQ _ _ _ (ret0N he results69 ?_)
 refine ⟨y21,rfl,trivial,?_⟩
 rw [← wB_num h20];exact hm
 refine go he hm fun a he =>?_
 by_cases h24:e.kind=2
 refine go he hm fun a he =>?_
 have hq_:=congrArg ByteArray.size (wB_var h24)
 have hz_:=z2w e
 replace hm:=hm.ar [] [3,3]
 refine z2i call68 he hm (fun y25 w hG26 hm a he =>?_) (c:=z0t (t:=t) (s:=e.name) hp (by omega) hm)
 replace hm:=hm.nf
 refine go he hm fun a he =>?_
 replace hm:=hm.dl [3,2]
 refine hQ _ _ _ (ret0N he results69 ?_)
 refine ⟨y25,rfl,trivial,?_⟩
 rw [← wB_var h24];exact hm
 refine go he hm fun a he =>?_
 by_cases h28:e.kind=3
 refine go he hm fun a he =>?_
 have hq_:=congrArg ByteArray.size (wB_inp h28)
 have hz_:=z2w e
 refine Qq he hm (fun a he =>?_) (o:=by exact fun _ _ _ he hs=>z5c he rfl rfl (by rw [z0h] at hq_;omega))
 replace hm:=hm.ar [] [3,3]
 refine z2i call68 he hm (fun y29 w hG30 hm a he =>?_) (c:=z0t (t:=t) (s:=((⟨#[33]⟩:ByteArray)++e.name)) hp (by omega) hm)
 replace hm:=hm.nf
 refine go he hm fun a he =>?_
 replace hm:=hm.dl [3,2]
 refine hQ _ _ _ (ret0N he results69 ?_)
 refine ⟨y29,rfl,trivial,?_⟩
 rw [← wB_inp h28];exact hm
 refine go he hm fun a he =>?_
 by_cases h32:e.kind=4
 refine go he hm fun a he =>?_
 by_cases h35:e.args.length=0
 refine go he hm fun a he =>?_
 have hq_:=congrArg ByteArray.size (wB_con0 h32 h35)
 have hz_:=z2w e
 replace hm:=hm.ar [] [3,3]
 refine z2i call68 he hm (fun y37 w hG38 hm a he =>?_) (c:=z0t (t:=t) (s:=e.name) hp (by omega) hm)
 replace hm:=hm.nf
 refine go he hm fun a he =>?_
 replace hm:=hm.dl [3,2]
 refine hQ _ _ _ (ret0 he results69 ?_)
 refine ⟨y37,rfl,trivial,?_⟩
 rw [← wB_con0 h32 h35];exact hm
 refine go he hm fun a he =>?_
 have hq_:=congrArg ByteArray.size (wB_con h32 h35)
 have hz_:=z2w e
 refine go he hm fun a he =>?_
 replace hm:=hm.ar [] [3,3,3]
 refine st he rfl rfl rfl (z9s he rfl rfl call121 (write1_ok (t:=t) (op:=e.name) (fun x hx _ _ _ _ _ _ _ _ r1 r2 r3 r4 r5=>ih x (Ex.lt_args hx) ((wfE_sub hwf).2.1 x hx) r1 r2 r3 r4 r5) h2 hp G (by omega) hm) (fun y39 w hG40 hm a he =>?_))
 replace hm:=hm.nf
 refine go he hm fun a he =>?_
 replace hm:=hm.dl [3,0]
 refine hQ _ _ _ (ret0N he results69 ?_)
 refine ⟨y39,rfl,trivial,?_⟩
 rw [← wB_con h32 h35];exact hm
 refine go he hm fun a he =>?_
 by_cases h42:e.kind=6
 refine go he hm fun a he =>?_
 have hq_:=congrArg ByteArray.size (wB_let h42)
 have hz_:=z2w e
 refine Qq he hm (fun a he =>?_) (o:=by exact fun _ _ _ he hs=>z5c he rfl rfl (by rw [formB_size,z0h] at hq_;omega))
 refine go he hm fun a he =>?_
 replace hm:=hm.ar [] [3,3,3]
 refine st he rfl rfl rfl (z9s he rfl rfl call121 (write1_ok (t:=t) (op:=((⟨#[108,101,116,32]⟩:ByteArray)++e.name)) (fun x hx _ _ _ _ _ _ _ _ r1 r2 r3 r4 r5=>ih x (Ex.lt_args hx) ((wfE_sub hwf).2.1 x hx) r1 r2 r3 r4 r5) h2 hp G (by omega) hm) (fun y43 w hG44 hm a he =>?_))
 replace hm:=hm.nf
 refine go he hm fun a he =>?_
 replace hm:=hm.dl [3,0]
 refine hQ _ _ _ (ret0N he results69 ?_)
 refine ⟨y43,rfl,trivial,?_⟩
 rw [← wB_let h42];exact hm
 refine go he hm fun a he =>?_
 by_cases h46:e.kind=7
 refine go he hm fun a he =>?_
 have hq0_:0 < e.args.length:=(wfE_sub hwf).1 h46
 obtain ⟨aa_,haa_⟩:=z2d hq0_
 have hwc_:=wc_start (t:=t) h46 haa_
 replace hm:=hm.ar [] [3,3]
 refine z2i call68 he hm (fun y48 w hG49 hm a he =>?_) (c:=z0t (t:=t) (s:=(⟨#[40,99,97,115,101,32]⟩:ByteArray)) hp (by have h1_:=z5u hwc_;rw [z0h,z0h,z0h t (wB e),z2w e] at h1_;omega) hm)
 replace hm:=hm.nf
 refine Reg [2,1,2,1,2,0] [2,3] he hm fun w hm a he =>?_
 refine go he hm fun a he =>?_
 obtain ⟨q51,rfl,x52,hx53,cs54,hl55,ha56,hr57⟩:=h2.el hn6 hq0_
 obtain ⟨p60,c61,p66,c67,rfl,hi70,h59,h65,hm62,hn63,hm68,hn69⟩:=REx.fm hr57
 refine go he hm fun a he =>?_
 obtain rfl:x52=aa_:=Option.some.inj (hx53.symm.trans haa_)
 replace hm:=hm.ar [] [1,1]
 refine z2i call69 he hm (fun y71 w hG72 hm a he =>?_) (c:=ih _ (Ex.lt_args (List.mem_of_getElem? hx53)) ((wfE_sub hwf).2.1 _ (List.mem_of_getElem? hx53)) (t:=(t++(⟨#[40,99,97,115,101,32]⟩:ByteArray))) hr57 (.inr rfl) G (by have h1_:=z5u hwc_;rw [z0h,z0h,z0h t (wB e),z2w e,z2w] at h1_;rw [z0h];omega) hm)
 replace hm:=hm.nf
 refine go he hm fun a he =>?_
 refine z1i (he.ks [2,72,73]) hm (fun R mm a w=>∃(i:Nat) (bv:Value) (acc:Bs),mm=e.arms.length - i∧R Φ [(74,.int .i64 ((i:Nat):Int))] [(0,.blk b (ob [.pointer (some ⟨b,0,none⟩),bv] 130)),(1,.gs (bv) 5 1 (Lib.strCells acc))] a w∧(acc++ofTx (writePa (e.arms.drop i)++[41])=t++wB e)) (e.arms.length - 0) ⟨0,y71,((t++(⟨#[40,99,97,115,101,32]⟩:ByteArray))++wB x52),rfl,⟨he.pk,hm⟩,hwc_⟩ ?_
 clear hm he
 rintro mm a w ⟨i,bv,acc,hmu,⟨he,hm⟩,hI76⟩ L75 hL75
 replace hm:=hm.nf
 refine go he hm fun a he =>?_
 by_cases h78:i < e.arms.length
 refine go he hm fun a he =>?_
 obtain ⟨q82,rfl,x83,hx84,cs85,hl86,ha87,hr88⟩:=h8.el hn12 h78
 obtain ⟨s89,b95,rfl,h90,h96⟩:=RArm.iff.1 hr88
 obtain ⟨p91,c92,rfl,hm93,hn94⟩:=h90.fm
 obtain ⟨p99,c100,p105,c106,rfl,hi109,h98,h104,hm101,hn102,hm107,hn108⟩:=REx.fm h96
 refine Alc he hm fun b110 w hm a he =>?_
 refine Sto 0 he hm fun w hm a he =>?_
 refine go he hm fun a he =>?_
 refine z1v [2,1,2,0,1,2,0,0,1,1,0] (.q 0 (.q 1 (.q 2 (.q 4 (.q 5 (.e 3 (.e 6 (.e 7 (.q 8 (.q 9 (.e 10 (.done)))))))))))) [0,3,4] he hm fun w hm =>?_
 refine BldS he hm fun v112 w hm a he =>?_
 refine App_ 0 z9k he hm (fun v113 w hm a he =>?_) (hr:=(SliceOf.strs.1 h90).rowIn hm.toSees) (h1:=z7t _) (hb:=by have h1_:=z5u hI76;rw [List.length_append,z0h t (wB e),z2w e] at h1_;have h2_:=arm_len hx84;rw [z8b] at h2_;have h3_:=joinP_size x83.con x83.vars;have h4_:(⟨#[32]⟩:Bs).size=1:=rfl;rw [h4_] at h3_;simp only [List.length_cons,List.length_nil,z1m] at h3_ ⊢;omega)
 refine z0y call67 he hm (fun w hm a he =>?_) (c:=joinG_ok (l:=x83.con::x83.vars) (sep:=⟨#[32]⟩) (by have h1_:=z5u hI76;rw [List.length_append,z0h t (wB e),z2w e] at h1_;have h2_:=arm_len hx84;rw [z8b] at h2_;have h3_:=joinP_size x83.con x83.vars;omega) hm)
 replace hm:=hm.nf
 refine Qq he hm (fun a he =>?_) (o:=by exact fun _ _ _ he hs=>z5c he rfl rfl (by have h1_:=z5u hI76;rw [List.length_append,z0h t (wB e),z2w e] at h1_;have h2_:=arm_len hx84;rw [z8b] at h2_;have h3_:=joinP_size x83.con x83.vars;have h4_:(⟨#[32,40]⟩:Bs).size=2:=rfl;omega))
 refine Qq he hm (fun a he =>?_) (o:=by exact fun _ _ _ he hs=>z5c he rfl rfl (by have h1_:=z5u hI76;rw [List.length_append,z0h t (wB e),z2w e] at h1_;have h2_:=arm_len hx84;rw [z8b] at h2_;have h3_:=joinP_size x83.con x83.vars;have h4_:(⟨#[32,40]⟩:Bs).size=2:=rfl;have h5_:(⟨#[32,45,62,32]⟩:Bs).size=4:=rfl;rw [z0h];omega))
 replace hm:=hm.ar [] [2,2]
 refine z2i call68 he hm (fun y114 w hG115 hm a he =>?_) (c:=z0t (t:=acc) (s:=(((⟨#[32,40]⟩:ByteArray)++(z8d (⟨#[32]⟩:Bs) (x83.con::x83.vars)))++(⟨#[32,45,62,32]⟩:ByteArray))) (.inr rfl) (by have h1_:=z5u hI76;rw [List.length_append,z0h t (wB e),z2w e] at h1_;have h2_:=arm_len hx84;rw [z8b,z2w] at h2_;have h3_:([41]:List UInt8).length=1:=rfl;have h4_:(⟨#[32,40]⟩:Bs).size=2:=rfl;have h5_:(⟨#[32,45,62,32]⟩:Bs).size=4:=rfl;have h6_:(⟨#[41]⟩:Bs).size=1:=rfl;rw [z0h,z0h];omega) hm)
 replace hm:=hm.nf
 replace hm:=hm.ar [] [1,1]
 refine z2i call69 he hm (fun y117 w hG118 hm a he =>?_) (c:=ih _ (Ex.lt_arms (List.mem_of_getElem? hx84)) ((wfE_sub hwf).2.2 _ (List.mem_of_getElem? hx84)) (t:=(acc++(((⟨#[32,40]⟩:ByteArray)++(z8d (⟨#[32]⟩:Bs) (x83.con::x83.vars)))++(⟨#[32,45,62,32]⟩:ByteArray)))) h96 (.inr rfl) G (by have h1_:=z5u hI76;rw [List.length_append,z0h t (wB e),z2w e] at h1_;have h2_:=arm_len hx84;rw [z8b,z2w] at h2_;have h3_:([41]:List UInt8).length=1:=rfl;have h4_:(⟨#[32,40]⟩:Bs).size=2:=rfl;have h5_:(⟨#[32,45,62,32]⟩:Bs).size=4:=rfl;have h6_:(⟨#[41]⟩:Bs).size=1:=rfl;rw [z0h,z0h,z0h];omega) hm)
 replace hm:=hm.nf
 replace hm:=hm.ar [] [1,1]
 refine z2i call70 he hm (fun y119 w hG120 hm a he =>?_) (c:=z7d (t:=((acc++(((⟨#[32,40]⟩:ByteArray)++(z8d (⟨#[32]⟩:Bs) (x83.con::x83.vars)))++(⟨#[32,45,62,32]⟩:ByteArray)))++wB x83.body)) (c:=41) (.inr rfl) (by have h1_:=z5u hI76;rw [List.length_append,z0h t (wB e),z2w e] at h1_;have h2_:=arm_len hx84;rw [z8b,z2w] at h2_;have h3_:([41]:List UInt8).length=1:=rfl;have h4_:(⟨#[32,40]⟩:Bs).size=2:=rfl;have h5_:(⟨#[32,45,62,32]⟩:Bs).size=4:=rfl;have h6_:(⟨#[41]⟩:Bs).size=1:=rfl;rw [z0h,z0h,z0h,z0h,z2w];omega) hm)
 replace hm:=hm.nf
 refine go he hm fun a he =>?_
 replace hm:=hm.dl [2]
 refine hL75 _ _ _ (by subst hmu;omega) ⟨(i+1),(y119),((((acc++(((⟨#[32,40]⟩:ByteArray)++(z8d (⟨#[32]⟩:Bs) (x83.con::x83.vars)))++(⟨#[32,45,62,32]⟩:ByteArray)))++wB x83.body)++⟨#[41]⟩)),rfl,⟨he.pk,by exact hm⟩,?_⟩
 exact wc_step hx84 hI76
 replace hm:=hm.ar [] [1,1]
 refine z2i call70 he hm (fun y122 w hG123 hm a he =>?_) (c:=z7d (t:=acc) (c:=41) (.inr rfl) (by have h1_:=z5u hI76;rw [List.length_append,z0h t (wB e),z2w e] at h1_;have h3_:([41]:List UInt8).length=1:=rfl;omega) hm)
 replace hm:=hm.nf
 refine go he hm fun a he =>?_
 replace hm:=hm.dl [3,2]
 refine hQ _ _ _ (ret0N he results69 ?_)
 refine ⟨y122,rfl,trivial,?_⟩
 rw [← wc_end h78 hI76];exact hm
 refine go he hm fun a he =>?_
 have hq_:=congrArg ByteArray.size (wB_other h20 h24 h28 h32 h42 h46)
 have hz_:=z2w e
 refine go he hm fun a he =>?_
 replace hm:=hm.ar [] [3,3,3]
 refine st he rfl rfl rfl (z9s he rfl rfl call121 (write1_ok (t:=t) (op:=e.name) (fun x hx _ _ _ _ _ _ _ _ r1 r2 r3 r4 r5=>ih x (Ex.lt_args hx) ((wfE_sub hwf).2.1 x hx) r1 r2 r3 r4 r5) h2 hp G (by omega) hm) (fun y124 w hG125 hm a he =>?_))
 replace hm:=hm.nf
 refine go he hm fun a he =>?_
 replace hm:=hm.dl [3,0]
 refine hQ _ _ _ (ret0N he results69 ?_)
 refine ⟨y124,rfl,trivial,?_⟩
 rw [← wB_other h20 h24 h28 h32 h42 h46];exact hm
theorem write_ok {Φ:Fz} {K:List Res} {w:World} {d:List Value} {e:Ex} {b:Nat} {v:Value} {bp:Option Addr} {t:Bs} (hwf:wfE e=true) (re:REx Φ d e) (hp:bp=none∨bp=some ⟨b,0,none⟩) (G:Tabs Φ) (hb:t.size+(z4f e).length≤8796093022208) (hm:Mem Φ (.blk b (ob [.pointer bp,v] 130)::.gs v 5 1 (Lib.strCells t)::K) w) :
  Calls Tryz.prog 69 (List.toArray [.pointer (some ⟨b,0,none⟩),.agg d.toArray]) w (fun ee w'=>∃v2,ee=.returned (.tuple #[])∧True∧Mem Φ (.blk b (ob [.pointer (some ⟨b,0,none⟩),v2] 130)::.gs v2 5 1 (Lib.strCells (t++wB e))::K) w'):=by
 suffices H:∀n (e:Ex),e.sz < n→wfE e=true→∀{Φ:Fz} {K:List Res} {w:World} {d:List Value} {b:Nat} {v:Value} {bp:Option Addr} {t:Bs},REx Φ d e→(bp=none∨bp=some ⟨b,0,none⟩)→Tabs Φ→t.size+(z4f e).length≤8796093022208→Mem Φ (.blk b (ob [.pointer bp,v] 130)::.gs v 5 1 (Lib.strCells t)::K) w →
   Calls Tryz.prog 69 (List.toArray [.pointer (some ⟨b,0,none⟩),.agg d.toArray]) w (fun ee w'=>∃v2,ee=.returned (.tuple #[])∧True∧Mem Φ (.blk b (ob [.pointer (some ⟨b,0,none⟩),v2] 130)::.gs v2 5 1 (Lib.strCells (t++wB e))::K) w') from H _ e (Nat.lt_succ_self _) hwf re hp G hb hm
 intro n
 induction n with
 | zero=>intro e h;omega
 | succ n ih=>intro e h hwf Φ K w d b v bp t re hp G hb hm;exact write_step (fun x hx hw _ _ _ _ _ _ _ _ r1 r2 r3 r4 r5=>ih x (by omega) hw r1 r2 r3 r4 r5) hwf re hp G hb hm
end Go.Sw

namespace Go.Sw
def catB:List Bs→Bs
 | []=>⟨#[]⟩
 | x::l=>x++catB l
def conT_ (c:Con):Bs:=z8d ⟨#[32]⟩ (c.name::c.fields)
def dataB (d:Data):Bs:=((((⟨#[100,97,116,97,32]⟩:Bs)++d.name)++⟨#[32,61,32]⟩)++z8d ⟨#[32,124,32]⟩ (d.cons.map conT_))++⟨#[10]⟩
def inputB (p:Param):Bs:=((((⟨#[105,110,112,117,116,32]⟩:Bs)++p.name)++⟨#[32,58,32]⟩)++p.type)++⟨#[10]⟩
def paramB (p:Param):Bs:=((((⟨#[32,40]⟩:Bs)++p.name)++⟨#[32,58,32]⟩)++p.type)++⟨#[41]⟩
def funB (f:Fun):Bs:=((((⟨#[102,117,110,32]⟩:Bs)++f.name)++catB (f.params.map paramB))++(((⟨#[32,58,32]⟩:Bs)++f.result)++⟨#[32,61,32]⟩))++(wB f.body++⟨#[10]⟩)
def outB (o:Bs):Bs:=((⟨#[111,117,116,112,117,116,32]⟩:Bs)++o)++⟨#[10]⟩
def printB (c:Core):Bs:=catB (c.datas.map dataB)++(catB (c.inputs.map inputB)++(catB (c.funs.map funB)++catB (c.outputs.map outB)))
def printP (c:Core):Bs×Int:=if z1g c≠0 then (sNo,z1g c) else if 60000 < (printB c).size then (sNo,2) else (printB c,0)
theorem app_empty (x:Bs):x++(⟨#[]⟩:Bs)=x:=by apply ByteArray.ext;simp [ByteArray.data_append]
theorem app_assoc (a b c:Bs):(a++b)++c=a++(b++c):=ByteArray.append_assoc
theorem cat_drop {α:Type} {f:α→Bs} {l:List α} {i:Nat} {x:α} (h:l[i]? = some x):catB ((l.drop i).map f)=f x++catB ((l.drop (i+1)).map f):=by
 rw [z0a h];rfl
theorem cat_end {α:Type} {f:α→Bs} {l:List α} {i:Nat} (h:¬i < l.length):catB ((l.drop i).map f)=⟨#[]⟩:=by
 rw [z0g h];rfl
theorem cat_step {α:Type} {f:α→Bs} {l:List α} {i:Nat} {x:α} {acc rest F:Bs} (hx:l[i]? = some x) (h:acc++(catB ((l.drop i).map f)++rest)=F):(acc++f x)++(catB ((l.drop (i+1)).map f)++rest)=F:=by
 rw [← h,cat_drop hx];simp only [app_assoc]
theorem cat_done {α:Type} {f:α→Bs} {l:List α} {i:Nat} {acc rest F:Bs} (hi:¬i < l.length) (h:acc++(catB ((l.drop i).map f)++rest)=F):acc++rest=F:=by
 rw [← h,cat_end hi,empty_app]
theorem z9q:∀{l:List Bs} {m:Nat},(∀x∈l,x.size≤m)→(catB l).size≤l.length * m
 | [],_,_=>by simp [catB];rfl
 | x::l,m,h=>by
  have h1:=h x List.mem_cons_self
  have h2:=z9q (l:=l) (m:=m) (fun y hy=>h y (List.mem_cons_of_mem _ hy))
  simp only [catB,z0h,List.length_cons,Nat.add_mul];omega
theorem cat_part {α:Type} {f:α→Bs} {l:List α} {i:Nat} {x:α} {acc rest F:Bs} (hx:l[i]? = some x) (h:acc++(catB ((l.drop i).map f)++rest)=F):acc.size+(f x).size≤F.size:=by
 rw [← h,cat_drop hx];simp only [z0h];omega
theorem map_take_snoc {α β:Type} {f:α→β} {l:List α} {j:Nat} {x:α} (hx:l[j]? = some x):(l.map f).take (j+1)=(l.map f).take j++[f x] :=
 take_snoc (by rw [List.getElem?_map,hx];rfl)
theorem map_take_all {α β:Type} {f:α→β} {l:List α} {j:Nat} (h:¬j < l.length):(l.map f).take j=l.map f:=take_all (by rw [List.length_map];exact h)
theorem fun_start {l:List Fun} {i:Nat} {f:Fun} {acc rest F:Bs} (hx:l[i]? = some f) (h:acc++(catB ((l.drop i).map funB)++rest)=F) :
  (acc++((⟨#[102,117,110,32]⟩:Bs)++f.name))++(catB ((f.params.drop 0).map paramB)++((((⟨#[32,58,32]⟩:Bs)++f.result)++⟨#[32,61,32]⟩)++((wB f.body++⟨#[10]⟩)++(catB ((l.drop (i+1)).map funB)++rest))))=F:=by
 rw [← h,cat_drop hx];simp only [funB,app_assoc,List.drop_zero]
theorem fun_step {acc m w n R F:Bs} (h:acc++(m++((w++n)++R))=F):(((acc++m)++w)++n)++R=F:=by
 rw [← h];simp only [app_assoc]
theorem printP_look {c:Core} (h:¬z1g c=0):printP c=(⟨#[]⟩,z1g c):=by unfold printP;rw [if_pos h];rfl
theorem printP_long {c:Core} (h:z1g c=0) (hl:60000 < (printB c).size):printP c=(⟨#[]⟩,2):=by unfold printP;rw [if_neg (not_not_intro h),if_pos hl];rfl
theorem printP_ok {c:Core} (h:z1g c=0) (hl:¬60000 < (printB c).size):printP c=(printB c,0):=by unfold printP;rw [if_neg (not_not_intro h),if_neg hl]
end Go.Sw
