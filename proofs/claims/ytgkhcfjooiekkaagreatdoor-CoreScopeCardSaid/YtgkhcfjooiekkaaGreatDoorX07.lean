import Derived.Test.YtgkhcfjooiekkaaGreatDoorProg
import Derived.Test.YtgkhcfjooiekkaaGreatDoorX01
import Derived.Test.YtgkhcfjooiekkaaGreatDoorX02
import Derived.Test.YtgkhcfjooiekkaaGreatDoorX04
import Derived.Test.YtgkhcfjooiekkaaGreatDoorX06
set_option linter.unusedVariables false
set_option linter.unusedSimpArgs false
namespace Go.Sw
open Go.Proofs.Tryz
open Go.Proofs
set_option maxRecDepth 20000
set_option maxHeartbeats 4000000
theorem isType_ok {Φ:Fz} {K:List Res} {w:World} {p0:Addr} {T:Table} {name:Bs} (rpT:RTable Φ p0 T) (hm:Mem Φ K w) :
  Calls Tryz.prog 80 (List.toArray [.pointer (some p0),.string name]) w (fun ee w'=>ee=.returned (.bool (z2b T name))∧Mem Φ K w'):=by
 obtain ⟨cs17,m1,m2,m3,m4,d5,d6,d7,d8,hat18,hcl19,hcore20,ma9,mr13,ma10,mr14,ma11,mr15,ma12,mr16⟩:=rpT.ex
 obtain ⟨p23,c24,p29,c30,p35,c36,p41,c42,rfl,h22,h28,h34,h40,hm25,hn26,hm31,hn32,hm37,hn38,hm43,hn44⟩:=RCore.fm hcore20
 refine z0l func80 ntmps80 fun Q hQ a he =>?_
 refine go he hm fun a he =>?_
 rcases hf47:mget (d5) name with _ | vf48
 have hf47_:=congrArg (z0i true (.agg (List.toArray [.string ⟨#[]⟩,.slice none 0 0]))) hf47
 refine Qq he hm (fun a he =>?_) (o:=by exact fun _ _ _ he hs=>Ok.cast (z0o runUnderlying101 runUnderlying9 zeroValue133 he hs rfl rfl ma9) (show z0i true (.agg (List.toArray [.string ⟨#[]⟩,.slice none 0 0])) (mget (d5) name)=.tuple (List.toArray [.agg (List.toArray [.string ⟨#[]⟩,.slice none 0 0]),.bool false]) from hf47_))
 refine Alc he hm fun b49 w hm a he =>?_
 refine Sto 0 he hm fun w hm a he =>?_
 refine Qq he hm (fun a he =>?_) (o:=by exact fun _ _ _ he hs=>y_seqlD he rfl rfl)
 refine go he hm fun a he =>?_
 replace hm:=hm.dl [0]
 refine Ret1 hQ he hm ?_
 exact z0v hm (by have e_:=MapRel.none mr13 hf47;simp [z2b,sInt, *] <;> rfl)
 obtain ⟨y51,hy52,cs53,rfl,hr54⟩:=mr13.get hf47
 obtain ⟨s55,rfl,h56⟩:=id hr54
 obtain ⟨p57,c58,rfl,hm59,hn60⟩:=h56.fm
 have hf47_:=congrArg (z0i true (.agg (List.toArray [.string ⟨#[]⟩,.slice none 0 0]))) hf47
 refine Qq he hm (fun a he =>?_) (o:=by exact fun _ _ _ he hs=>Ok.cast (z0o runUnderlying101 runUnderlying9 zeroValue133 he hs rfl rfl ma9) (show z0i true (.agg (List.toArray [.string ⟨#[]⟩,.slice none 0 0])) (mget (d5) name)=.tuple (List.toArray [.agg (List.toArray [.string y51.name,.slice p57 y51.cons.length c58]),.bool true]) from hf47_))
 refine Alc he hm fun b61 w hm a he =>?_
 refine Sto 0 he hm fun w hm a he =>?_
 refine go he hm fun a he =>?_
 replace hm:=hm.dl [0]
 refine Ret1 hQ he hm ?_
 exact z0v hm (by simp [z2b,sInt, *] <;> rfl)
theorem bare_ok {Φ:Fz} {K:List Res} {w:World} {d0:List Value} {e:Ex} {nm:Bool} {sn:Bool} {ar:Int} {rm:Int} (rpe:REx Φ d0 e) (hm:Mem Φ K w) :
  Calls Tryz.prog 186 (List.toArray [.agg d0.toArray,.bool nm,.bool sn,.int .i64 ar,.int .i64 rm]) w (fun ee w'=>ee=.returned (.bool (z2o e nm sn ar rm))∧Mem Φ K w'):=by
 obtain ⟨p3,c4,p9,c10,rfl,hi13,h2,h8,hm5,hn6,hm11,hn12⟩:=REx.fm rpe
 refine z0l func186 ntmps186 fun Q hQ a he =>?_
 refine Bx he hm fun b15 w hm a he =>?_
 refine go he hm fun a he =>?_
 cases nm
 refine go he hm fun a he =>?_
 by_cases h17:e.num=0
 refine go he hm fun a he =>?_
 cases sn
 refine go he hm fun a he =>?_
 by_cases h18:e.name=(⟨#[]⟩:ByteArray)
 refine go he hm fun a he =>?_
 by_cases h19:ar < 0
 refine go he hm fun a he =>?_
 by_cases h20:rm < 0
 refine go he hm fun a he =>?_
 replace hm:=hm.dl [0]
 refine Ret1 hQ he hm ?_
 exact z0v hm (by simp [z2o, *] <;> omega)
 refine Qq he hm (fun a he =>?_) (o:=by exact fun _ _ _ he hs=>z8u he rfl rfl)
 refine go he hm fun a he =>?_
 replace hm:=hm.dl [0]
 refine Ret1 hQ he hm ?_
 exact z0v hm (by simp [z2o, *] <;> omega)
 refine go he hm fun a he =>?_
 by_cases h21:((e.args.length:Nat):Int)=ar
 refine go he hm fun a he =>?_
 by_cases h22:rm < 0
 refine go he hm fun a he =>?_
 replace hm:=hm.dl [0]
 refine Ret1 hQ he hm ?_
 exact z0v hm (by simp [z2o, *] <;> omega)
 refine Qq he hm (fun a he =>?_) (o:=by exact fun _ _ _ he hs=>z8u he rfl rfl)
 refine go he hm fun a he =>?_
 replace hm:=hm.dl [0]
 refine Ret1 hQ he hm ?_
 exact z0v hm (by simp [z2o, *] <;> omega)
 refine go he hm fun a he =>?_
 replace hm:=hm.dl [0]
 refine Ret1 hQ he hm ?_
 exact z0v hm (by simp [z2o, *] <;> omega)
 refine go he hm fun a he =>?_
 replace hm:=hm.dl [0]
 refine Ret1 hQ he hm ?_
 exact z0v hm (by simp [z2o, *] <;> omega)
 refine go he hm fun a he =>?_
 by_cases h23:ar < 0
 refine go he hm fun a he =>?_
 by_cases h24:rm < 0
 refine go he hm fun a he =>?_
 replace hm:=hm.dl [0]
 refine Ret1 hQ he hm ?_
 exact z0v hm (by simp [z2o, *] <;> omega)
 refine Qq he hm (fun a he =>?_) (o:=by exact fun _ _ _ he hs=>z8u he rfl rfl)
 refine go he hm fun a he =>?_
 replace hm:=hm.dl [0]
 refine Ret1 hQ he hm ?_
 exact z0v hm (by simp [z2o, *] <;> omega)
 refine go he hm fun a he =>?_
 by_cases h25:((e.args.length:Nat):Int)=ar
 refine go he hm fun a he =>?_
 by_cases h26:rm < 0
 refine go he hm fun a he =>?_
 replace hm:=hm.dl [0]
 refine Ret1 hQ he hm ?_
 exact z0v hm (by simp [z2o, *] <;> omega)
 refine Qq he hm (fun a he =>?_) (o:=by exact fun _ _ _ he hs=>z8u he rfl rfl)
 refine go he hm fun a he =>?_
 replace hm:=hm.dl [0]
 refine Ret1 hQ he hm ?_
 exact z0v hm (by simp [z2o, *] <;> omega)
 refine go he hm fun a he =>?_
 replace hm:=hm.dl [0]
 refine Ret1 hQ he hm ?_
 exact z0v hm (by simp [z2o, *] <;> omega)
 refine go he hm fun a he =>?_
 replace hm:=hm.dl [0]
 refine Ret1 hQ he hm ?_
 exact z0v hm (by simp [z2o, *] <;> omega)
 refine go he hm fun a he =>?_
 cases sn
 refine go he hm fun a he =>?_
 by_cases h27:e.name=(⟨#[]⟩:ByteArray)
 refine go he hm fun a he =>?_
 by_cases h28:ar < 0
 refine go he hm fun a he =>?_
 by_cases h29:rm < 0
 refine go he hm fun a he =>?_
 replace hm:=hm.dl [0]
 refine Ret1 hQ he hm ?_
 exact z0v hm (by simp [z2o, *] <;> omega)
 refine Qq he hm (fun a he =>?_) (o:=by exact fun _ _ _ he hs=>z8u he rfl rfl)
 refine go he hm fun a he =>?_
 replace hm:=hm.dl [0]
 refine Ret1 hQ he hm ?_
 exact z0v hm (by simp [z2o, *] <;> omega)
 refine go he hm fun a he =>?_
 by_cases h30:((e.args.length:Nat):Int)=ar
 refine go he hm fun a he =>?_
 by_cases h31:rm < 0
 refine go he hm fun a he =>?_
 replace hm:=hm.dl [0]
 refine Ret1 hQ he hm ?_
 exact z0v hm (by simp [z2o, *] <;> omega)
 refine Qq he hm (fun a he =>?_) (o:=by exact fun _ _ _ he hs=>z8u he rfl rfl)
 refine go he hm fun a he =>?_
 replace hm:=hm.dl [0]
 refine Ret1 hQ he hm ?_
 exact z0v hm (by simp [z2o, *] <;> omega)
 refine go he hm fun a he =>?_
 replace hm:=hm.dl [0]
 refine Ret1 hQ he hm ?_
 exact z0v hm (by simp [z2o, *] <;> omega)
 refine go he hm fun a he =>?_
 replace hm:=hm.dl [0]
 refine Ret1 hQ he hm ?_
 exact z0v hm (by simp [z2o, *] <;> omega)
 refine go he hm fun a he =>?_
 by_cases h32:ar < 0
 refine go he hm fun a he =>?_
 by_cases h33:rm < 0
 refine go he hm fun a he =>?_
 replace hm:=hm.dl [0]
 refine Ret1 hQ he hm ?_
 exact z0v hm (by simp [z2o, *] <;> omega)
 refine Qq he hm (fun a he =>?_) (o:=by exact fun _ _ _ he hs=>z8u he rfl rfl)
 refine go he hm fun a he =>?_
 replace hm:=hm.dl [0]
 refine Ret1 hQ he hm ?_
 exact z0v hm (by simp [z2o, *] <;> omega)
 refine go he hm fun a he =>?_
 by_cases h34:((e.args.length:Nat):Int)=ar
 refine go he hm fun a he =>?_
 by_cases h35:rm < 0
 refine go he hm fun a he =>?_
 replace hm:=hm.dl [0]
 refine Ret1 hQ he hm ?_
 exact z0v hm (by simp [z2o, *] <;> omega)
 refine Qq he hm (fun a he =>?_) (o:=by exact fun _ _ _ he hs=>z8u he rfl rfl)
 refine go he hm fun a he =>?_
 replace hm:=hm.dl [0]
 refine Ret1 hQ he hm ?_
 exact z0v hm (by simp [z2o, *] <;> omega)
 refine go he hm fun a he =>?_
 replace hm:=hm.dl [0]
 refine Ret1 hQ he hm ?_
 exact z0v hm (by simp [z2o, *] <;> omega)
end Go.Sw

namespace Go.Sw
open Go.Proofs.Tryz
open Go.Proofs
set_option maxRecDepth 20000
set_option maxHeartbeats 4000000
variable {Φ:Fz} {K:List Res} {w:World}
theorem number_ok {p0:Addr} {T:Table} {d1:List Value} {e:Ex} {b:Nat} {s:Scope} (rpT:RTable Φ p0 T) (rpe:REx Φ d1 e) (hm:Mem Φ (.mp b (smap s)::K) w) :
  Calls Tryz.prog 139 (List.toArray [.pointer (some p0),.agg d1.toArray,.map (some b)]) w (fun ee w'=>ee=.returned (.string (numberT e))∧Mem Φ (.mp b (smap s)::K) w'):=by
 obtain ⟨cs17,m1,m2,m3,m4,d5,d6,d7,d8,hat18,hcl19,hcore20,ma9,mr13,ma10,mr14,ma11,mr15,ma12,mr16⟩:=rpT.ex
 obtain ⟨p23,c24,p29,c30,p35,c36,p41,c42,rfl,h22,h28,h34,h40,hm25,hn26,hm31,hn32,hm37,hn38,hm43,hn44⟩:=RCore.fm hcore20
 obtain ⟨p47,c48,p53,c54,rfl,hi57,h46,h52,hm49,hn50,hm55,hn56⟩:=REx.fm rpe
 refine z0l func139 ntmps139 fun Q hQ a he =>?_
 refine Bx he hm fun b59 w hm a he =>?_
 refine z1n call186 he hm (fun hB62 w hm a he =>?_) (fun hB62 w hm a he =>?_) (c:=bare_ok rpe hm)
 refine go he hm fun a he =>?_
 replace hm:=hm.dl [0]
 refine Ret1 hQ he hm ?_
 exact ret_s hm (by simp [numberT,sNo,sInt,hB62])
 refine go he hm fun a he =>?_
 replace hm:=hm.dl [0]
 refine Ret1 hQ he hm ?_
 exact ret_s hm (by simp [numberT,sNo,sInt,hB62])
theorem variable_ok {p0:Addr} {T:Table} {d1:List Value} {e:Ex} {b:Nat} {s:Scope} (rpT:RTable Φ p0 T) (rpe:REx Φ d1 e) (hm:Mem Φ (.mp b (smap s)::K) w) :
  Calls Tryz.prog 140 (List.toArray [.pointer (some p0),.agg d1.toArray,.map (some b)]) w (fun ee w'=>ee=.returned (.string (z5n e s))∧Mem Φ (.mp b (smap s)::K) w'):=by
 obtain ⟨cs17,m1,m2,m3,m4,d5,d6,d7,d8,hat18,hcl19,hcore20,ma9,mr13,ma10,mr14,ma11,mr15,ma12,mr16⟩:=rpT.ex
 obtain ⟨p23,c24,p29,c30,p35,c36,p41,c42,rfl,h22,h28,h34,h40,hm25,hn26,hm31,hn32,hm37,hn38,hm43,hn44⟩:=RCore.fm hcore20
 obtain ⟨p47,c48,p53,c54,rfl,hi57,h46,h52,hm49,hn50,hm55,hn56⟩:=REx.fm rpe
 refine z0l func140 ntmps140 fun Q hQ a he =>?_
 refine Bx he hm fun b59 w hm a he =>?_
 refine z1n call186 he hm (fun hB62 w hm a he =>?_) (fun hB62 w hm a he =>?_) (c:=bare_ok rpe hm)
 refine go he hm fun a he =>?_
 rcases hf64:mget ((smap s)) e.name with _ | vf65
 have hf64_:=congrArg (z0i false (.string ⟨#[]⟩)) hf64
 refine Qq he hm (fun a he =>?_) (o:=by exact fun _ _ _ he hs=>Ok.cast (z1c 1 runUnderlying157 runUnderlying9 zeroValue9 he hs rfl rfl rfl) (show z0i false (.string ⟨#[]⟩) (mget ((smap s)) e.name)=.string ⟨#[]⟩ from hf64_))
 refine go he hm fun a he =>?_
 replace hm:=hm.dl [0]
 refine Ret1 hQ he hm ?_
 exact ret_s hm (by have e_:=smap_none hf64;simp [z5n,sNo,hB62,e_])
 obtain ⟨y66,hy67,rfl⟩:=smap_some hf64
 have hf64_:=congrArg (z0i false (.string ⟨#[]⟩)) hf64
 refine Qq he hm (fun a he =>?_) (o:=by exact fun _ _ _ he hs=>Ok.cast (z1c 1 runUnderlying157 runUnderlying9 zeroValue9 he hs rfl rfl rfl) (show z0i false (.string ⟨#[]⟩) (mget ((smap s)) e.name)=.string y66 from hf64_))
 refine go he hm fun a he =>?_
 replace hm:=hm.dl [0]
 refine Ret1 hQ he hm ?_
 exact ret_s hm (by simp [z5n,sNo,hB62,hy67])
 refine go he hm fun a he =>?_
 replace hm:=hm.dl [0]
 refine Ret1 hQ he hm ?_
 exact ret_s hm (by simp [z5n,sNo,hB62])
theorem inputT_ok {p0:Addr} {T:Table} {d1:List Value} {e:Ex} {b:Nat} {s:Scope} (rpT:RTable Φ p0 T) (rpe:REx Φ d1 e) (hm:Mem Φ (.mp b (smap s)::K) w) :
  Calls Tryz.prog 141 (List.toArray [.pointer (some p0),.agg d1.toArray,.map (some b)]) w (fun ee w'=>ee=.returned (.string (inputT T e))∧Mem Φ (.mp b (smap s)::K) w'):=by
 obtain ⟨cs17,m1,m2,m3,m4,d5,d6,d7,d8,hat18,hcl19,hcore20,ma9,mr13,ma10,mr14,ma11,mr15,ma12,mr16⟩:=rpT.ex
 obtain ⟨p23,c24,p29,c30,p35,c36,p41,c42,rfl,h22,h28,h34,h40,hm25,hn26,hm31,hn32,hm37,hn38,hm43,hn44⟩:=RCore.fm hcore20
 obtain ⟨p47,c48,p53,c54,rfl,hi57,h46,h52,hm49,hn50,hm55,hn56⟩:=REx.fm rpe
 refine z0l func141 ntmps141 fun Q hQ a he =>?_
 refine Bx he hm fun b59 w hm a he =>?_
 refine z1n call186 he hm (fun hB62 w hm a he =>?_) (fun hB62 w hm a he =>?_) (c:=bare_ok rpe hm)
 refine Reg [1,1,1,2,1,2,2,1] [0,1] he hm fun w hm a he =>?_
 refine go he hm fun a he =>?_
 rcases hf64:mget (d8) e.name with _ | vf65
 have hf64_:=congrArg (z0i false (.string ⟨#[]⟩)) hf64
 refine Qq he hm (fun a he =>?_) (o:=by exact fun _ _ _ he hs=>Ok.cast (z0o runUnderlying104 runUnderlying9 zeroValue9 he hs rfl rfl ma12) (show z0i false (.string ⟨#[]⟩) (mget (d8) e.name)=.string ⟨#[]⟩ from hf64_))
 refine go he hm fun a he =>?_
 replace hm:=hm.dl [0]
 refine Ret1 hQ he hm ?_
 exact ret_s hm (by have e_:=MapRel.none mr16 hf64;simp [inputT,sNo,hB62,e_])
 obtain ⟨y66,hy67,rfl⟩:=mr16.get hf64
 have hf64_:=congrArg (z0i false (.string ⟨#[]⟩)) hf64
 refine Qq he hm (fun a he =>?_) (o:=by exact fun _ _ _ he hs=>Ok.cast (z0o runUnderlying104 runUnderlying9 zeroValue9 he hs rfl rfl ma12) (show z0i false (.string ⟨#[]⟩) (mget (d8) e.name)=.string y66 from hf64_))
 refine go he hm fun a he =>?_
 replace hm:=hm.dl [0]
 refine Ret1 hQ he hm ?_
 exact ret_s hm (by simp [inputT,sNo,hB62,hy67])
 refine go he hm fun a he =>?_
 replace hm:=hm.dl [0]
 refine Ret1 hQ he hm ?_
 exact ret_s hm (by simp [inputT,sNo,hB62])
theorem all_ok {p0:Addr} {T:Table} {v1:Value} {xs:List Ex} {b:Nat} {s:Scope} {v3:Value} {ts:List Bs} (rpT:RTable Φ p0 T) (rpxs:SliceOf REx Φ 5 v1 xs) (rpts:SliceOf RStr Φ 1 v3 ts) (ih:∀x:Ex,x∈xs→∀{Φ:Fz} {K:List Res} {w:World} {p:Addr} {d:List Value} {b:Nat} {s:Scope},RTable Φ p T→REx Φ d x→Mem Φ (.mp b (smap s)::K) w→Calls Tryz.prog 86 (List.toArray [.pointer (some p),.agg d.toArray,.map (some b)]) w (fun ee w'=>ee=.returned (.string (z0c T x s).1)∧Mem Φ (.mp b (smap (z0c T x s).2)::K) w')) (hm:Mem Φ (.mp b (smap s)::K) w) :
  Calls Tryz.prog 187 (List.toArray [.pointer (some p0),v1,.map (some b),v3]) w (fun ee w'=>ee=.returned (.bool ((allP T xs s ts).1))∧Mem Φ (.mp b (smap (allP T xs s ts).2)::K) w'):=by
 obtain ⟨cs17,m1,m2,m3,m4,d5,d6,d7,d8,hat18,hcl19,hcore20,ma9,mr13,ma10,mr14,ma11,mr15,ma12,mr16⟩:=rpT.ex
 obtain ⟨p23,c24,p29,c30,p35,c36,p41,c42,rfl,h22,h28,h34,h40,hm25,hn26,hm31,hn32,hm37,hn38,hm43,hn44⟩:=RCore.fm hcore20
 obtain ⟨p1,c1,rfl,hm1,hn1⟩:=rpxs.fm
 obtain ⟨p3,c3,rfl,hm3,hn3⟩:=rpts.fm
 refine z0l func187 ntmps187 fun Q hQ a he =>?_
 refine go he hm fun a he =>?_
 by_cases h48:xs.length=ts.length
 refine go he hm fun a he =>?_
 refine z1i (he.ks [0,2,3,17,18]) hm (fun R mm a w=>∃(i:Nat) (q:Scope),mm=xs.length - i∧R Φ [(19,.int .i64 ((i:Nat):Int))] [(0,.mp b (smap q))] a w∧(allP T xs s ts=allQ T (xs.drop i) q (ts.drop i))) (xs.length - 0) ⟨0,s,rfl,⟨he.pk,hm⟩,by simp [allP, *]⟩ ?_
 clear hm he
 rintro mm a w ⟨i,q,hmu,⟨he,hm⟩,hI52⟩ L51 hL51
 replace hm:=hm.nf
 refine go he hm fun a he =>?_
 by_cases h54:i < xs.length
 refine go he hm fun a he =>?_
 obtain ⟨q58,rfl,x59,hx60,cs61,hl62,ha63,hr64⟩:=rpxs.el hn1 h54
 obtain ⟨p67,c68,p73,c74,rfl,hi77,h66,h72,hm69,hn70,hm75,hn76⟩:=REx.fm hr64
 refine Alc he hm fun b78 w hm a he =>?_
 refine Sto 0 he hm fun w hm a he =>?_
 replace hm:=hm.pl 1
 refine z0y call86 he hm (fun w hm a he =>?_) (c:=ih _ (by exact List.mem_of_getElem? hx60) rpT hr64 hm)
 refine go he hm fun a he =>?_
 by_cases h81:(z0c T x59 q).1=(⟨#[]⟩:ByteArray)
 refine go he hm fun a he =>?_
 replace hm:=hm.dl [1]
 refine Ret1 hQ he hm ?_
 have hr_:allP T xs s ts=(false,(z0c T x59 q).2):=by
  rw [hI52,z0a hx60];simp [allQ,sNo, *]
 show _∧_;rw [hr_];exact ⟨rfl,hm⟩
 refine go he hm fun a he =>?_
 have hb83:i < ts.length:=by omega
 obtain ⟨q84,rfl,x85,hx86,cs87,hl88,ha89,hr90⟩:=rpts.el hn3 hb83
 obtain rfl:cs87=[.string x85]:=hr90
 refine go he hm fun a he =>?_
 by_cases h91:(z0c T x59 q).1=x85
 refine go he hm fun a he =>?_
 replace hm:=hm.dl [1]
 refine hL51 _ _ _ (by subst hmu;omega) ⟨(i+1),((z0c T x59 q).2),rfl,⟨he.pk,hm⟩,?_⟩
 rw [hI52,z0a hx60,z0a hx86];rw [allQ_cons,if_neg (by rintro (h_ | h_) <;> simp_all [sNo])]
 refine go he hm fun a he =>?_
 replace hm:=hm.dl [1]
 refine Ret1 hQ he hm ?_
 have hr_:allP T xs s ts=(false,(z0c T x59 q).2):=by
  rw [hI52,z0a hx60,z0a hx86];simp [allQ,sNo, *]
 show _∧_;rw [hr_];exact ⟨rfl,hm⟩
 refine Ret1 hQ he hm ?_
 have hr_:allP T xs s ts=(true,q):=by
  rw [hI52,z0g h54];rfl
 show _∧_;rw [hr_];exact ⟨rfl,hm⟩
 refine Ret1 hQ he hm ?_
 have hr_:allP T xs s ts=(false,s):=by
  simp [allP, *]
 show _∧_;rw [hr_];exact ⟨rfl,hm⟩
end Go.Sw

namespace Go.Sw
open Go.Proofs.Tryz
open Go.Proofs
set_option maxRecDepth 20000
set_option maxHeartbeats 4000000
theorem con_ok {Φ:Fz} {K:List Res} {w:World} {p0:Addr} {T:Table} {d1:List Value} {e:Ex} {b:Nat} {s:Scope} (rpT:RTable Φ p0 T) (rpe:REx Φ d1 e) (ih:∀x:Ex,x.sz < e.sz→∀{Φ:Fz} {K:List Res} {w:World} {p:Addr} {d:List Value} {b:Nat} {s:Scope},RTable Φ p T→REx Φ d x→Mem Φ (.mp b (smap s)::K) w→Calls Tryz.prog 86 (List.toArray [.pointer (some p),.agg d.toArray,.map (some b)]) w (fun ee w'=>ee=.returned (.string (z0c T x s).1)∧Mem Φ (.mp b (smap (z0c T x s).2)::K) w')) (hm:Mem Φ (.mp b (smap s)::K) w) :
  Calls Tryz.prog 142 (List.toArray [.pointer (some p0),.agg d1.toArray,.map (some b)]) w (fun ee w'=>ee=.returned (.string ((conT T e s).1))∧Mem Φ (.mp b (smap (conT T e s).2)::K) w'):=by
 obtain ⟨cs17,m1,m2,m3,m4,d5,d6,d7,d8,hat18,hcl19,hcore20,ma9,mr13,ma10,mr14,ma11,mr15,ma12,mr16⟩:=rpT.ex
 obtain ⟨p23,c24,p29,c30,p35,c36,p41,c42,rfl,h22,h28,h34,h40,hm25,hn26,hm31,hn32,hm37,hn38,hm43,hn44⟩:=RCore.fm hcore20
 obtain ⟨p47,c48,p53,c54,rfl,hi57,h46,h52,hm49,hn50,hm55,hn56⟩:=REx.fm rpe
 refine z0l func142 ntmps142 fun Q hQ a he =>?_
 refine Bx he hm fun b59 w hm a he =>?_
 refine Reg [1,1,1,2,1,2,2,1,1,1,0,0,1] [0,1] he hm fun w hm a he =>?_
 refine go he hm fun a he =>?_
 rcases hf61:mget (d6) e.name with _ | vf62
 have hf61_:=congrArg (z0i true (.agg (List.toArray [.string ⟨#[]⟩,.string ⟨#[]⟩,.slice none 0 0]))) hf61
 refine Qq he hm (fun a he =>?_) (o:=by exact fun _ _ _ he hs=>Ok.cast (z0o runUnderlying102 runUnderlying9 zeroValue190 he hs rfl rfl ma10) (show z0i true (.agg (List.toArray [.string ⟨#[]⟩,.string ⟨#[]⟩,.slice none 0 0])) (mget (d6) e.name)=.tuple (List.toArray [.agg (List.toArray [.string ⟨#[]⟩,.string ⟨#[]⟩,.slice none 0 0]),.bool false]) from hf61_))
 refine Alc he hm fun b63 w hm a he =>?_
 refine Sto 0 he hm fun w hm a he =>?_
 refine go he hm fun a he =>?_
 replace hm:=hm.dl [1,0]
 refine Ret1 hQ he hm ?_
 have hr_:conT T e s=((⟨#[]⟩:ByteArray),s):=by
  have e_:=MapRel.none mr14 hf61
  simp [conT,sNo, *]
 show _∧_;rw [hr_];exact ⟨rfl,hm⟩
 obtain ⟨y67,hy68,cs69,rfl,hr70⟩:=mr14.get hf61
 obtain ⟨b71,rfl,h72⟩:=id hr70
 obtain ⟨s73,rfl,h74⟩:=id h72
 obtain ⟨p75,c76,rfl,hm77,hn78⟩:=h74.fm
 have hf61_:=congrArg (z0i true (.agg (List.toArray [.string ⟨#[]⟩,.string ⟨#[]⟩,.slice none 0 0]))) hf61
 refine Qq he hm (fun a he =>?_) (o:=by exact fun _ _ _ he hs=>Ok.cast (z0o runUnderlying102 runUnderlying9 zeroValue190 he hs rfl rfl ma10) (show z0i true (.agg (List.toArray [.string ⟨#[]⟩,.string ⟨#[]⟩,.slice none 0 0])) (mget (d6) e.name)=.tuple (List.toArray [.agg (List.toArray [.string y67.data,.string y67.con.name,.slice p75 y67.con.fields.length c76]),.bool true]) from hf61_))
 refine Alc he hm fun b79 w hm a he =>?_
 refine Sto 0 he hm fun w hm a he =>?_
 refine z1n call186 he hm (fun hB82 w hm a he =>?_) (fun hB82 w hm a he =>?_) (c:=bare_ok rpe hm)
 replace hm:=hm.pl 2
 refine z1n call187 he hm (fun hB83 w hm a he =>?_) (fun hB83 w hm a he =>?_) (c:=all_ok (T:=T) rpT h46 h74 (fun x hx=>ih x (Ex.lt_args hx)) hm)
 refine go he hm fun a he =>?_
 replace hm:=hm.dl [2,1]
 refine Ret1 hQ he hm ?_
 have hr_:conT T e s=(y67.data,(allP T e.args s y67.con.fields).2):=by
  simp [conT,sNo, *]
 show _∧_;rw [hr_];exact ⟨rfl,hm⟩
 refine go he hm fun a he =>?_
 replace hm:=hm.dl [2,1]
 refine Ret1 hQ he hm ?_
 have hr_:conT T e s=((⟨#[]⟩:ByteArray),(allP T e.args s y67.con.fields).2):=by
  simp [conT,sNo, *]
 show _∧_;rw [hr_];exact ⟨rfl,hm⟩
 refine go he hm fun a he =>?_
 replace hm:=hm.dl [1,0]
 refine Ret1 hQ he hm ?_
 have hr_:conT T e s=((⟨#[]⟩:ByteArray),s):=by
  simp [conT,sNo, *]
 show _∧_;rw [hr_];exact ⟨rfl,hm⟩
end Go.Sw

namespace Go.Sw
open Go.Proofs
set_option maxRecDepth 20000
set_option maxHeartbeats 4000000
theorem truths_ok {Φ:Fz} {K:List Res} {w:World} (hm:Mem Φ K w) :
  Calls Tryz.prog 188 (List.toArray []) w (fun ee w'=>∃y:Fz×List Value,ee=.returned (.agg y.2.toArray)∧(Φ.Le y.1∧RData y.1 y.2 truthsD)∧Mem y.1 K w'):=by
 refine z0l Tryz.func188 Tryz.ntmps188 fun Q hQ a he =>?_
 refine Alc he hm fun b2 w hm a he =>?_
 refine z1h he hm fun a he =>?_
 refine z1h he hm fun a he =>?_
 refine BldS he hm fun v4 w hm a he =>?_
 have hm0_:=hm
 clear hm
 obtain ⟨Ψ5,le6,hm,hrow7⟩:=hm0_.freezeRow (i:=0) rfl
 clear hm0_
 replace hm:=hm.nf
 have hsl8:SliceOf RCon Ψ5 2 _ (truthsD.cons):=⟨_,hrow7,⟨[_,_],[_,_],rfl,rfl,⟨_,rfl,SliceOf.nil 1⟩,[_,_],[],rfl,rfl,⟨_,rfl,SliceOf.nil 1⟩,rfl⟩⟩
 obtain ⟨p9,c10,hv_,hm11,hn12⟩:=hsl8.form (by decide)
 have hmk_:=hm
 clear hm
 subst hv_
 have hm:=hmk_
 clear hmk_
 refine z1h he hm fun a he =>?_
 refine Sto 0 he hm fun w hm a he =>?_
 refine go he hm fun a he =>?_
 have hmr:=hm
 replace hm:=hm.dl [0]
 refine RetA hQ he hmr ?_
 exact ⟨(Ψ5,_),rfl,⟨le6,_,rfl,hsl8⟩,hm⟩
end Go.Sw

namespace Go.Sw
open Go.Proofs.Tryz
open Go.Proofs
set_option maxRecDepth 20000
set_option maxHeartbeats 4000000
theorem op_ok {Φ:Fz} {K:List Res} {w:World} {p0:Addr} {T:Table} {d1:List Value} {e:Ex} {b:Nat} {s:Scope} (rpT:RTable Φ p0 T) (rpe:REx Φ d1 e) (ih:∀x:Ex,x.sz < e.sz→∀{Φ:Fz} {K:List Res} {w:World} {p:Addr} {d:List Value} {b:Nat} {s:Scope},RTable Φ p T→REx Φ d x→Mem Φ (.mp b (smap s)::K) w→Calls Tryz.prog 86 (List.toArray [.pointer (some p),.agg d.toArray,.map (some b)]) w (fun ee w'=>ee=.returned (.string (z0c T x s).1)∧Mem Φ (.mp b (smap (z0c T x s).2)::K) w')) (hm:Mem Φ (.mp b (smap s)::K) w) :
  Calls Tryz.prog 146 (List.toArray [.pointer (some p0),.agg d1.toArray,.map (some b)]) w (fun ee w'=>ee=.returned (.string ((opsT T e s).1))∧Mem Φ (.mp b (smap (opsT T e s).2)::K) w'):=by
 obtain ⟨cs17,m1,m2,m3,m4,d5,d6,d7,d8,hat18,hcl19,hcore20,ma9,mr13,ma10,mr14,ma11,mr15,ma12,mr16⟩:=rpT.ex
 obtain ⟨p23,c24,p29,c30,p35,c36,p41,c42,rfl,h22,h28,h34,h40,hm25,hn26,hm31,hn32,hm37,hn38,hm43,hn44⟩:=RCore.fm hcore20
 obtain ⟨p47,c48,p53,c54,rfl,hi57,h46,h52,hm49,hn50,hm55,hn56⟩:=REx.fm rpe
 refine z0l func146 ntmps146 fun Q hQ a he =>?_
 refine Bx he hm fun b59 w hm a he =>?_
 refine z1n call186 he hm (fun hB62 w hm a he =>?_) (fun hB62 w hm a he =>?_) (c:=bare_ok rpe hm)
 refine BldS he hm fun v63 w hm a he =>?_
 have hm0_:=hm
 clear hm
 obtain ⟨Ψ64,le65,hm,hrow66⟩:=hm0_.freezeRow (i:=0) rfl
 clear hm0_
 replace hat18:=hat18.mono le65
 replace rpT:=rpT.mono le65
 replace h46:=h46.up le65
 replace rpe:=REx.mono _ _ _ _ le65 rpe
 replace hm:=hm.nf
 have hsl67:SliceOf RStr Ψ64 1 _ ([sInt,sInt]):=SliceOf.strs.2 hrow66
 obtain ⟨p68,c69,hv_,hm70,hn71⟩:=hsl67.form (by decide)
 have hmk_:=hm
 clear hm
 subst hv_
 have hm:=hmk_
 clear hmk_
 replace hm:=hm.pl 1
 refine z1n call187 he hm (fun hB72 w hm a he =>?_) (fun hB72 w hm a he =>?_) (c:=all_ok (T:=T) rpT h46 hsl67 (fun x hx=>ih x (Ex.lt_args hx)) hm)
 refine go he hm fun a he =>?_
 by_cases h77:e.name=(⟨#[43]⟩:ByteArray)
 refine go he hm fun a he =>?_
 replace hm:=hm.le (le65)
 replace hm:=hm.dl [1]
 refine Ret1 hQ he hm ?_
 have hr_:opsT T e s=((⟨#[73,110,116]⟩:ByteArray),(allP T e.args s ([sInt,sInt])).2):=by simp [opsT,opT,sNo,sBool,truthsD, *] <;> rfl
 show _∧_;rw [hr_];exact ⟨rfl,hm⟩
 refine go he hm fun a he =>?_
 by_cases h80:e.name=(⟨#[45]⟩:ByteArray)
 refine go he hm fun a he =>?_
 replace hm:=hm.le (le65)
 replace hm:=hm.dl [1]
 refine Ret1 hQ he hm ?_
 have hr_:opsT T e s=((⟨#[73,110,116]⟩:ByteArray),(allP T e.args s ([sInt,sInt])).2):=by simp [opsT,opT,sNo,sBool,truthsD, *] <;> rfl
 show _∧_;rw [hr_];exact ⟨rfl,hm⟩
 refine go he hm fun a he =>?_
 by_cases h83:e.name=(⟨#[42]⟩:ByteArray)
 refine go he hm fun a he =>?_
 replace hm:=hm.le (le65)
 replace hm:=hm.dl [1]
 refine Ret1 hQ he hm ?_
 have hr_:opsT T e s=((⟨#[73,110,116]⟩:ByteArray),(allP T e.args s ([sInt,sInt])).2):=by simp [opsT,opT,sNo,sBool,truthsD, *] <;> rfl
 show _∧_;rw [hr_];exact ⟨rfl,hm⟩
 refine go he hm fun a he =>?_
 by_cases h86:e.name=(⟨#[47]⟩:ByteArray)
 refine go he hm fun a he =>?_
 replace hm:=hm.le (le65)
 replace hm:=hm.dl [1]
 refine Ret1 hQ he hm ?_
 have hr_:opsT T e s=((⟨#[73,110,116]⟩:ByteArray),(allP T e.args s ([sInt,sInt])).2):=by simp [opsT,opT,sNo,sBool,truthsD, *] <;> rfl
 show _∧_;rw [hr_];exact ⟨rfl,hm⟩
 refine go he hm fun a he =>?_
 by_cases h88:e.name=(⟨#[37]⟩:ByteArray)
 refine go he hm fun a he =>?_
 replace hm:=hm.le (le65)
 replace hm:=hm.dl [1]
 refine Ret1 hQ he hm ?_
 have hr_:opsT T e s=((⟨#[73,110,116]⟩:ByteArray),(allP T e.args s ([sInt,sInt])).2):=by simp [opsT,opT,sNo,sBool,truthsD, *] <;> rfl
 show _∧_;rw [hr_];exact ⟨rfl,hm⟩
 refine go he hm fun a he =>?_
 by_cases h92:e.name=(⟨#[60]⟩:ByteArray)
 refine z2i call188 he hm (fun y94 w hG95 hm a he =>?_) (c:=truths_ok hm)
 obtain ⟨Ψ96,d97⟩:=y94
 obtain ⟨le98,hr99⟩:=hG95
 simp only at le98 hr99 hm he
 replace hat18:=hat18.mono le98
 replace rpe:=REx.mono _ _ _ _ le98 rpe
 replace hm:=hm.nf
 obtain ⟨s100,rfl,h101⟩:=id hr99
 obtain ⟨p102,c103,rfl,hm104,hn105⟩:=h101.fm
 refine Qq he hm (fun a he =>?_) (o:=by exact fun _ _ _ he hs=>y_field runUnderlying133 rfl isAgg9 he rfl rfl)
 refine go he hm fun a he =>?_
 replace hm:=hm.le ((le65).trans le98)
 replace hm:=hm.dl [1]
 refine Ret1 hQ he hm ?_
 have hr_:opsT T e s=(truthsD.name,(allP T e.args s ([sInt,sInt])).2):=by simp [opsT,opT,sNo,sBool,truthsD, *] <;> rfl
 show _∧_;rw [hr_];exact ⟨rfl,hm⟩
 refine go he hm fun a he =>?_
 by_cases h106:e.name=(⟨#[61]⟩:ByteArray)
 refine z2i call188 he hm (fun y108 w hG109 hm a he =>?_) (c:=truths_ok hm)
 obtain ⟨Ψ110,d111⟩:=y108
 obtain ⟨le112,hr113⟩:=hG109
 simp only at le112 hr113 hm he
 replace hat18:=hat18.mono le112
 replace rpe:=REx.mono _ _ _ _ le112 rpe
 replace hm:=hm.nf
 obtain ⟨s114,rfl,h115⟩:=id hr113
 obtain ⟨p116,c117,rfl,hm118,hn119⟩:=h115.fm
 refine Qq he hm (fun a he =>?_) (o:=by exact fun _ _ _ he hs=>y_field runUnderlying133 rfl isAgg9 he rfl rfl)
 refine go he hm fun a he =>?_
 replace hm:=hm.le ((le65).trans le112)
 replace hm:=hm.dl [1]
 refine Ret1 hQ he hm ?_
 have hr_:opsT T e s=(truthsD.name,(allP T e.args s ([sInt,sInt])).2):=by simp [opsT,opT,sNo,sBool,truthsD, *] <;> rfl
 show _∧_;rw [hr_];exact ⟨rfl,hm⟩
 refine go he hm fun a he =>?_
 replace hm:=hm.le (le65)
 replace hm:=hm.dl [1]
 refine Ret1 hQ he hm ?_
 have hr_:opsT T e s=((⟨#[]⟩:ByteArray),(allP T e.args s ([sInt,sInt])).2):=by simp [opsT,opT,sNo,sBool,truthsD, *] <;> rfl
 show _∧_;rw [hr_];exact ⟨rfl,hm⟩
 refine go he hm fun a he =>?_
 replace hm:=hm.le (le65)
 replace hm:=hm.dl [1]
 refine Ret1 hQ he hm ?_
 have hr_:opsT T e s=((⟨#[]⟩:ByteArray),(allP T e.args s ([sInt,sInt])).2):=by simp [opsT,opT,sNo,sBool,truthsD, *] <;> rfl
 show _∧_;rw [hr_];exact ⟨rfl,hm⟩
 refine go he hm fun a he =>?_
 replace hm:=hm.dl [0]
 refine Ret1 hQ he hm ?_
 have hr_:opsT T e s=((⟨#[]⟩:ByteArray),s):=by simp [opsT,opT,sNo,sBool,truthsD, *] <;> rfl
 show _∧_;rw [hr_];exact ⟨rfl,hm⟩
end Go.Sw

namespace Go.Sw
open Go.Proofs.Tryz
open Go.Proofs
set_option maxRecDepth 20000
set_option maxHeartbeats 4000000
theorem call_ok {Φ:Fz} {K:List Res} {w:World} {p0:Addr} {T:Table} {d1:List Value} {e:Ex} {b:Nat} {s:Scope} (rpT:RTable Φ p0 T) (rpe:REx Φ d1 e) (hT:∀n f,lget T.funs n=some f→f.params.length≤1000) (ih:∀x:Ex,x.sz < e.sz→∀{Φ:Fz} {K:List Res} {w:World} {p:Addr} {d:List Value} {b:Nat} {s:Scope},RTable Φ p T→REx Φ d x→Mem Φ (.mp b (smap s)::K) w→Calls Tryz.prog 86 (List.toArray [.pointer (some p),.agg d.toArray,.map (some b)]) w (fun ee w'=>ee=.returned (.string (z0c T x s).1)∧Mem Φ (.mp b (smap (z0c T x s).2)::K) w')) (hm:Mem Φ (.mp b (smap s)::K) w) :
  Calls Tryz.prog 143 (List.toArray [.pointer (some p0),.agg d1.toArray,.map (some b)]) w (fun ee w'=>ee=.returned (.string ((callT T e s).1))∧Mem Φ (.mp b (smap (callT T e s).2)::K) w'):=by
 obtain ⟨cs17,m1,m2,m3,m4,d5,d6,d7,d8,hat18,hcl19,hcore20,ma9,mr13,ma10,mr14,ma11,mr15,ma12,mr16⟩:=rpT.ex
 obtain ⟨p23,c24,p29,c30,p35,c36,p41,c42,rfl,h22,h28,h34,h40,hm25,hn26,hm31,hn32,hm37,hn38,hm43,hn44⟩:=RCore.fm hcore20
 obtain ⟨p47,c48,p53,c54,rfl,hi57,h46,h52,hm49,hn50,hm55,hn56⟩:=REx.fm rpe
 refine z0l func143 ntmps143 fun Q hQ a he =>?_
 refine Bx he hm fun b59 w hm a he =>?_
 refine Reg [1,1,1,2,1,2,2,1,1,1,0,0,1] [0,1] he hm fun w hm a he =>?_
 refine go he hm fun a he =>?_
 rcases hf61:mget (d7) e.name with _ | vf62
 have hf61_:=congrArg (z0i true (.agg (List.toArray [.string ⟨#[]⟩,.slice none 0 0,.string ⟨#[]⟩,.int .i64 ((0:Nat):Int),.int .i64 ((0:Nat):Int),.string ⟨#[]⟩,.slice none 0 0,.slice none 0 0]))) hf61
 refine Qq he hm (fun a he =>?_) (o:=by exact fun _ _ _ he hs=>Ok.cast (z0o runUnderlying103 runUnderlying9 zeroValue68 he hs rfl rfl ma11) (show z0i true (.agg (List.toArray [.string ⟨#[]⟩,.slice none 0 0,.string ⟨#[]⟩,.int .i64 ((0:Nat):Int),.int .i64 ((0:Nat):Int),.string ⟨#[]⟩,.slice none 0 0,.slice none 0 0])) (mget (d7) e.name)=.tuple (List.toArray [.agg (List.toArray [.string ⟨#[]⟩,.slice none 0 0,.string ⟨#[]⟩,.int .i64 ((0:Nat):Int),.int .i64 ((0:Nat):Int),.string ⟨#[]⟩,.slice none 0 0,.slice none 0 0]),.bool false]) from hf61_))
 refine Alc he hm fun b63 w hm a he =>?_
 refine Sto 0 he hm fun w hm a he =>?_
 refine go he hm fun a he =>?_
 replace hm:=hm.dl [1,0]
 refine Ret1 hQ he hm ?_
 have hr_:callT T e s=((⟨#[]⟩:ByteArray),s):=by
  have e_:=MapRel.none mr15 hf61
  simp [callT,sNo, *]
 show _∧_;rw [hr_];exact ⟨rfl,hm⟩
 obtain ⟨y67,hy68,cs69,rfl,hr70⟩:=mr15.get hf61
 obtain ⟨s71,b77,rfl,h72,h78⟩:=id hr70
 obtain ⟨p73,c74,rfl,hm75,hn76⟩:=h72.fm
 obtain ⟨p81,c82,p87,c88,rfl,hi91,h80,h86,hm83,hn84,hm89,hn90⟩:=REx.fm h78
 have hf61_:=congrArg (z0i true (.agg (List.toArray [.string ⟨#[]⟩,.slice none 0 0,.string ⟨#[]⟩,.int .i64 ((0:Nat):Int),.int .i64 ((0:Nat):Int),.string ⟨#[]⟩,.slice none 0 0,.slice none 0 0]))) hf61
 refine Qq he hm (fun a he =>?_) (o:=by exact fun _ _ _ he hs=>Ok.cast (z0o runUnderlying103 runUnderlying9 zeroValue68 he hs rfl rfl ma11) (show z0i true (.agg (List.toArray [.string ⟨#[]⟩,.slice none 0 0,.string ⟨#[]⟩,.int .i64 ((0:Nat):Int),.int .i64 ((0:Nat):Int),.string ⟨#[]⟩,.slice none 0 0,.slice none 0 0])) (mget (d7) e.name)=.tuple (List.toArray [.agg (List.toArray [.string y67.name,.slice p73 y67.params.length c74,.string y67.result,.int .i64 (y67.body.kind),.int .i64 (y67.body.num),.string y67.body.name,.slice p81 y67.body.args.length c82,.slice p87 y67.body.arms.length c88]),.bool true]) from hf61_))
 refine Alc he hm fun b92 w hm a he =>?_
 refine Sto 0 he hm fun w hm a he =>?_
 refine z1n call186 he hm (fun hB95 w hm a he =>?_) (fun hB95 w hm a he =>?_) (c:=bare_ok rpe hm)
 refine go he hm fun a he =>?_
 replace hm:=hm.nilRow 9 1
 replace hm:=hm.nf
 refine go he hm fun a he =>?_
 refine z1i (he.ks [0,2,4,7,30,31]) hm (fun R mm a w=>∃(i:Nat) (u:Value) (ty:List Bs),mm=y67.params.length - i∧R Φ [(9,u),(32,.int .i64 ((i:Nat):Int))] [(0,.gs (u) 9 1 (strs ty))] a w∧(y67.params.map Param.type=ty++(y67.params.drop i).map Param.type)) (y67.params.length - 0) ⟨0,.slice none 0 0,[],rfl,⟨he.pk,hm⟩,by simp⟩ ?_
 clear hm he
 rintro mm a w ⟨i,u,ty,hmu,⟨he,hm⟩,hI100⟩ L99 hL99
 replace hm:=hm.nf
 refine go he hm fun a he =>?_
 by_cases h102:i < y67.params.length
 refine go he hm fun a he =>?_
 obtain ⟨q106,rfl,x107,hx108,cs109,hl110,ha111,hr112⟩:=h72.el hn76 h102
 obtain rfl:=id hr112
 refine Alc he hm fun b113 w hm a he =>?_
 refine Sto 0 he hm fun w hm a he =>?_
 refine BldS he hm fun v114 w hm a he =>?_
 refine App_ 2 z9k he hm (fun v115 w hm a he =>?_) (hb:=by have hq_:=congrArg List.length hI100;have hp_:=hT _ _ hy68;simp only [List.length_map,List.length_append,z1m,List.length_cons,List.length_nil] at hq_ ⊢;omega)
 first | rw [z2u] at hm | rw [← z1l] at hm
 refine go he hm fun a he =>?_
 replace hm:=hm.dl [1,0]
 refine hL99 _ _ _ (by subst hmu;omega) ⟨(i+1),(v115),((ty++[x107.type])),rfl,⟨he.pk,hm⟩,?_⟩
 rw [hI100,z0a hx108];simp
 refine go he hm fun a he =>?_
 have htyp:ty=y67.params.map Param.type:=by rw [hI100,z0g h102];simp
 subst htyp
 refine go he hm fun a he =>?_
 have hm0_:=hm
 clear hm
 obtain ⟨Ψ119,le120,hm,hrow121⟩:=hm0_.freezeRow (i:=0) rfl
 clear hm0_
 replace hat18:=hat18.mono le120
 replace rpT:=rpT.mono le120
 replace h46:=h46.up le120
 replace rpe:=REx.mono _ _ _ _ le120 rpe
 replace hr70:=RFun.mono _ _ _ _ le120 hr70
 replace h78:=REx.mono _ _ _ _ le120 h78
 replace hm:=hm.nf
 have hsl122:SliceOf RStr Ψ119 1 _ ((y67.params.map Param.type)):=SliceOf.strs.2 hrow121
 obtain ⟨p123,c124,hv_,hm125,hn126⟩:=hsl122.form (by decide)
 have hmk_:=hm
 clear hm
 subst hv_
 have hm:=hmk_
 clear hmk_
 replace hm:=hm.pl 2
 refine z1n call187 he hm (fun hB127 w hm a he =>?_) (fun hB127 w hm a he =>?_) (c:=all_ok (T:=T) rpT h46 hsl122 (fun x hx=>ih x (Ex.lt_args hx)) hm)
 refine go he hm fun a he =>?_
 replace hm:=hm.le (le120)
 replace hm:=hm.dl [2,1]
 refine Ret1 hQ he hm ?_
 have hr_:callT T e s=(y67.result,(allP T e.args s (y67.params.map Param.type)).2):=by
  clear hI100
  simp [callT,sNo, *]
 show _∧_;rw [hr_];exact ⟨rfl,hm⟩
 refine go he hm fun a he =>?_
 replace hm:=hm.le (le120)
 replace hm:=hm.dl [2,1]
 refine Ret1 hQ he hm ?_
 have hr_:callT T e s=((⟨#[]⟩:ByteArray),(allP T e.args s (y67.params.map Param.type)).2):=by
  clear hI100
  simp [callT,sNo, *]
 show _∧_;rw [hr_];exact ⟨rfl,hm⟩
 refine go he hm fun a he =>?_
 replace hm:=hm.dl [1,0]
 refine Ret1 hQ he hm ?_
 have hr_:callT T e s=((⟨#[]⟩:ByteArray),s):=by
  simp [callT,sNo, *]
 show _∧_;rw [hr_];exact ⟨rfl,hm⟩
end Go.Sw

namespace Go.Sw
open Go.Proofs.Tryz
open Go.Proofs
set_option maxRecDepth 20000
set_option maxHeartbeats 4000000
theorem split_ok {Φ:Fz} {K:List Res} {w:World} {p0:Addr} {T:Table} {d1:List Value} {e:Ex} {b:Nat} {s:Scope} (rpT:RTable Φ p0 T) (rpe:REx Φ d1 e) (ih:∀x:Ex,x.sz < e.sz→∀{Φ:Fz} {K:List Res} {w:World} {p:Addr} {d:List Value} {b:Nat} {s:Scope},RTable Φ p T→REx Φ d x→Mem Φ (.mp b (smap s)::K) w→Calls Tryz.prog 86 (List.toArray [.pointer (some p),.agg d.toArray,.map (some b)]) w (fun ee w'=>ee=.returned (.string (z0c T x s).1)∧Mem Φ (.mp b (smap (z0c T x s).2)::K) w')) (hm:Mem Φ (.mp b (smap s)::K) w) :
  Calls Tryz.prog 145 (List.toArray [.pointer (some p0),.agg d1.toArray,.map (some b)]) w (fun ee w'=>ee=.returned (.string ((z3r T e s).1))∧Mem Φ (.mp b (smap (z3r T e s).2)::K) w'):=by
 obtain ⟨cs17,m1,m2,m3,m4,d5,d6,d7,d8,hat18,hcl19,hcore20,ma9,mr13,ma10,mr14,ma11,mr15,ma12,mr16⟩:=rpT.ex
 obtain ⟨p23,c24,p29,c30,p35,c36,p41,c42,rfl,h22,h28,h34,h40,hm25,hn26,hm31,hn32,hm37,hn38,hm43,hn44⟩:=RCore.fm hcore20
 obtain ⟨p47,c48,p53,c54,rfl,hi57,h46,h52,hm49,hn50,hm55,hn56⟩:=REx.fm rpe
 refine z0l func145 ntmps145 fun Q hQ a he =>?_
 refine Bx he hm fun b59 w hm a he =>?_
 refine z1n call186 he hm (fun hB62 w hm a he =>?_) (fun hB62 w hm a he =>?_) (c:=bare_ok rpe hm)
 refine go he hm fun a he =>?_
 refine z1v [1,1,1,2,1,1,2,1,2,1,0,2,1,1,1,0,0,1] (.q 0 (.q 1 (.q 2 (.q 3 (.q 4 (.q 5 (.q 6 (.q 7 (.q 8 (.q 9 (.e2 10 15 (.q 11 (.q 12 (.q 13 (.q 14 (.e 15 (.e 16 (.q 17 (.done)))))))) (.e 10 (.q 11 (.q 12 (.q 13 (.q 14 (.e 16 (.q 17 (.done))))))))))))))))))) [0] he hm fun w hm =>?_
 have hlen:=z3d (n:=1) hB62
 refine go he hm fun a he =>?_
 have hb64:0 < e.args.length:=by omega
 obtain ⟨q65,rfl,x66,hx67,cs68,hl69,ha70,hr71⟩:=h46.el hn50 hb64
 obtain ⟨p74,c75,p80,c81,rfl,hi84,h73,h79,hm76,hn77,hm82,hn83⟩:=REx.fm hr71
 refine go he hm fun a he =>?_
 refine d_e2 ?_ ?_
 replace hm:=hm.pl 1
 refine z0y call86 he hm (fun w hm a he =>?_) (c:=ih _ (by first | exact Ex.lt_args (List.mem_of_getElem? hx67) | exact Ex.lt_arms (List.mem_of_getElem? hx67)) rpT hr71 hm)
 rcases hf85:mget (d5) ((z0c T x66 s).1) with _ | vf86
 have hf85_:=congrArg (z0i true (.agg (List.toArray [.string ⟨#[]⟩,.slice none 0 0]))) hf85
 refine Qq he hm (fun a he =>?_) (o:=by exact fun _ _ _ he hs=>Ok.cast (z0o runUnderlying101 runUnderlying9 zeroValue133 he hs rfl rfl ma9) (show z0i true (.agg (List.toArray [.string ⟨#[]⟩,.slice none 0 0])) (mget (d5) ((z0c T x66 s).1))=.tuple (List.toArray [.agg (List.toArray [.string ⟨#[]⟩,.slice none 0 0]),.bool false]) from hf85_))
 refine Alc he hm fun b87 w hm a he =>?_
 refine Sto 0 he hm fun w hm a he =>?_
 refine go he hm fun a he =>?_
 replace hm:=hm.dl [2,0]
 refine Ret1 hQ he hm ?_
 have hr_:z3r T e s=((⟨#[]⟩:ByteArray),(z0c T x66 s).2):=by
  have e_:=MapRel.none mr13 hf85
  simp [z3r,z2h hx67,sNo, *]
 show _∧_;rw [hr_];exact ⟨rfl,hm⟩
 obtain ⟨y91,hy92,cs93,rfl,hr94⟩:=mr13.get hf85
 obtain ⟨s95,rfl,h96⟩:=id hr94
 obtain ⟨p97,c98,rfl,hm99,hn100⟩:=h96.fm
 have hf85_:=congrArg (z0i true (.agg (List.toArray [.string ⟨#[]⟩,.slice none 0 0]))) hf85
 refine Qq he hm (fun a he =>?_) (o:=by exact fun _ _ _ he hs=>Ok.cast (z0o runUnderlying101 runUnderlying9 zeroValue133 he hs rfl rfl ma9) (show z0i true (.agg (List.toArray [.string ⟨#[]⟩,.slice none 0 0])) (mget (d5) ((z0c T x66 s).1))=.tuple (List.toArray [.agg (List.toArray [.string y91.name,.slice p97 y91.cons.length c98]),.bool true]) from hf85_))
 refine Alc he hm fun b101 w hm a he =>?_
 refine Sto 0 he hm fun w hm a he =>?_
 refine go he hm fun a he =>?_
 by_cases h104:y91.cons.length=e.arms.length
 refine go he hm fun a he =>?_
 refine z1i (he.ks [0,2,4,48,49]) hm (fun R mm a w=>∃(i:Nat) (q:Scope) (out:Bs),mm=y91.cons.length - i∧R Φ [(9,.string out),(50,.int .i64 ((i:Nat):Int))] [(1,.mp b (smap q))] a w∧(splitP T e.arms y91.cons true sNo ((z0c T x66 s).2)=splitP T (e.arms.drop i) (y91.cons.drop i) (decide (i=0)) out q)) (y91.cons.length - 0) ⟨0,(z0c T x66 s).2,sNo,rfl,⟨he.pk,hm⟩,rfl⟩ ?_
 clear hm he
 rintro mm a w ⟨i,q,out,hmu,⟨he,hm⟩,hI109⟩ L108 hL108
 replace hm:=hm.nf
 refine go he hm fun a he =>?_
 by_cases h111:i < y91.cons.length
 refine go he hm fun a he =>?_
 obtain ⟨q115,rfl,x116,hx117,cs118,hl119,ha120,hr121⟩:=h96.el hn100 h111
 obtain ⟨s122,rfl,h123⟩:=id hr121
 obtain ⟨p124,c125,rfl,hm126,hn127⟩:=h123.fm
 refine Alc he hm fun b128 w hm a he =>?_
 refine Sto 0 he hm fun w hm a he =>?_
 refine go he hm fun a he =>?_
 have hb130:i < e.arms.length:=by omega
 obtain ⟨q131,rfl,x132,hx133,cs134,hl135,ha136,hr137⟩:=h52.el hn56 hb130
 obtain ⟨s138,b144,rfl,h139,h145⟩:=RArm.iff.1 hr137
 obtain ⟨p140,c141,rfl,hm142,hn143⟩:=h139.fm
 obtain ⟨p148,c149,p154,c155,rfl,hi158,h147,h153,hm150,hn151,hm156,hn157⟩:=REx.fm h145
 refine Alc he hm fun b159 w hm a he =>?_
 refine Sto 0 he hm fun w hm a he =>?_
 refine go he hm fun a he =>?_
 by_cases h162:x132.con=x116.name
 refine go he hm fun a he =>?_
 by_cases h163:x132.vars.length=x116.fields.length
 refine go he hm fun a he =>?_
 refine z1i (he.ks [0,2,4,9,10,11,12,48,49,50,75,76]) hm (fun R mm a w=>∃(k:Nat) (q2:Scope),mm=x132.vars.length - k∧R Φ [(77,.int .i64 ((k:Nat):Int))] [(3,.mp b (smap q2))] a w∧(putAll q x132.vars x116.fields=putAll q2 (x132.vars.drop k) (x116.fields.drop k))) (x132.vars.length - 0) ⟨0,q,rfl,⟨he.pk,hm⟩,rfl⟩ ?_
 clear hm he
 rintro mm a w ⟨k,q2,hmu,⟨he,hm⟩,hI167⟩ L166 hL166
 replace hm:=hm.nf
 refine go he hm fun a he =>?_
 by_cases h169:k < x132.vars.length
 refine go he hm fun a he =>?_
 obtain ⟨q173,rfl,x174,hx175,cs176,hl177,ha178,hr179⟩:=h139.el hn143 h169
 obtain rfl:cs176=[.string x174]:=hr179
 refine go he hm fun a he =>?_
 have hb180:k < x116.fields.length:=by omega
 obtain ⟨q181,rfl,x182,hx183,cs184,hl185,ha186,hr187⟩:=h123.el hn127 hb180
 obtain rfl:cs184=[.string x182]:=hr187
 refine MapU 3 runUnderlying157 runUnderlying9 he hm fun w hm a he =>?_
 rw [smap_put] at hm
 refine go he hm fun a he =>?_
 refine hL166 _ _ _ (by subst hmu;omega) ⟨(k+1),((lput q2 x174 x182)),rfl,⟨he.pk,hm⟩,?_⟩
 rw [hI167,z0a hx175,z0a hx183];rfl
 replace hm:=hm.pl 3
 refine z0y call86 he hm (fun w hm a he =>?_) (c:=ih _ (by first | exact Ex.lt_args (List.mem_of_getElem? hx133) | exact Ex.lt_arms (List.mem_of_getElem? hx133)) rpT h145 hm)
 refine go he hm fun a he =>?_
 refine z1i (he.ks [0,2,4,9,10,15,48,49,50,96,97]) hm (fun R mm a w=>∃(k3:Nat) (q3:Scope),mm=x132.vars.length - k3∧R Φ [(98,.int .i64 ((k3:Nat):Int))] [(0,.mp b (smap q3))] a w∧(delAll ((z0c T x132.body q2).2) x132.vars=delAll q3 (x132.vars.drop k3))) (x132.vars.length - 0) ⟨0,(z0c T x132.body q2).2,rfl,⟨he.pk,hm⟩,rfl⟩ ?_
 clear hm he
 rintro mm a w ⟨k3,q3,hmu,⟨he,hm⟩,hI193⟩ L192 hL192
 replace hm:=hm.nf
 refine go he hm fun a he =>?_
 by_cases h195:k3 < x132.vars.length
 refine go he hm fun a he =>?_
 obtain ⟨q199,rfl,x200,hx201,cs202,hl203,ha204,hr205⟩:=h139.el hn143 h195
 obtain rfl:cs202=[.string x200]:=hr205
 refine go he hm fun a he =>?_
 refine st0 he rfl rfl (eff_delete 0 runUnderlying157 runUnderlying9 he hm rfl rfl rfl fun w hm a he =>?_)
 rw [smap_del] at hm
 refine go he hm fun a he =>?_
 refine hL192 _ _ _ (by subst hmu;omega) ⟨(k3+1),((ldel q3 x200)),rfl,⟨he.pk,hm⟩,?_⟩
 rw [hI193,z0a hx201];rfl
 refine go he hm fun a he =>?_
 by_cases h209:(z0c T x132.body q2).1=(⟨#[]⟩:ByteArray)
 refine go he hm fun a he =>?_
 replace hm:=hm.dl [4,3,2,1]
 refine Ret1 hQ he hm ?_
 have hr_:z3r T e s=((⟨#[]⟩:ByteArray),q3):=by
  have ha_:armT T x132 x116 q=((z0c T x132.body q2).1,q3):=by
   have e1_:putAll q x132.vars x116.fields=q2:=by rw [hI167,z0g h169,z3a]
   have e2_:=hI193
   rw [z0g h195] at e2_
   rw [armT,e1_,e2_];rfl
  have hl_:y91.cons.length=e.arms.length:=by assumption
  rw [z3r,if_pos (by assumption),z2h hx67,hy92]
  simp only
  rw [if_pos hl_,hI109,z0a hx133,z0a hx117,z2e,if_neg (by simp [*]),ha_,if_pos (by simp_all [sNo] <;> omega)];rfl
 show _∧_;rw [hr_];exact ⟨rfl,hm⟩
 refine go he hm fun a he =>?_
 by_cases h211:0 < i
 refine go he hm fun a he =>?_
 by_cases h212:(z0c T x132.body q2).1=out
 refine go he hm fun a he =>?_
 replace hm:=hm.ar [2,1] [2,1,2]
 refine hL108 _ _ _ (by subst hmu;omega) ⟨(i+1),(q3),((z0c T x132.body q2).1),rfl,⟨he.pk,hm⟩,?_⟩
 have ha_:armT T x132 x116 q=((z0c T x132.body q2).1,q3):=by
  have e1_:putAll q x132.vars x116.fields=q2:=by rw [hI167,z0g h169,z3a]
  have e2_:=hI193
  rw [z0g h195] at e2_
  rw [armT,e1_,e2_];rfl
 rw [hI109,z0a hx133,z0a hx117,z2e,if_neg (by simp [*]),ha_,if_neg (by simp_all [sNo] <;> omega)];simp
 refine go he hm fun a he =>?_
 replace hm:=hm.dl [4,3,2,1]
 refine Ret1 hQ he hm ?_
 have hr_:z3r T e s=((⟨#[]⟩:ByteArray),q3):=by
  have ha_:armT T x132 x116 q=((z0c T x132.body q2).1,q3):=by
   have e1_:putAll q x132.vars x116.fields=q2:=by rw [hI167,z0g h169,z3a]
   have e2_:=hI193
   rw [z0g h195] at e2_
   rw [armT,e1_,e2_];rfl
  have hl_:y91.cons.length=e.arms.length:=by assumption
  rw [z3r,if_pos (by assumption),z2h hx67,hy92]
  simp only
  rw [if_pos hl_,hI109,z0a hx133,z0a hx117,z2e,if_neg (by simp [*]),ha_,if_pos (by simp_all [sNo] <;> omega)];rfl
 show _∧_;rw [hr_];exact ⟨rfl,hm⟩
 refine go he hm fun a he =>?_
 replace hm:=hm.ar [2,1] [2,1,2]
 refine hL108 _ _ _ (by subst hmu;omega) ⟨(i+1),(q3),((z0c T x132.body q2).1),rfl,⟨he.pk,hm⟩,?_⟩
 have ha_:armT T x132 x116 q=((z0c T x132.body q2).1,q3):=by
  have e1_:putAll q x132.vars x116.fields=q2:=by rw [hI167,z0g h169,z3a]
  have e2_:=hI193
  rw [z0g h195] at e2_
  rw [armT,e1_,e2_];rfl
 rw [hI109,z0a hx133,z0a hx117,z2e,if_neg (by simp [*]),ha_,if_neg (by simp_all [sNo] <;> omega)];simp
 refine go he hm fun a he =>?_
 replace hm:=hm.dl [4,2,1,0]
 refine Ret1 hQ he hm ?_
 have hr_:z3r T e s=((⟨#[]⟩:ByteArray),q):=by
  have hl_:y91.cons.length=e.arms.length:=by assumption
  rw [z3r,if_pos (by assumption),z2h hx67,hy92]
  simp only
  rw [if_pos hl_,hI109,z0a hx133,z0a hx117,z2e,if_pos (by simp [*])]
  all_goals rfl
 show _∧_;rw [hr_];exact ⟨rfl,hm⟩
 refine go he hm fun a he =>?_
 replace hm:=hm.dl [4,2,1,0]
 refine Ret1 hQ he hm ?_
 have hr_:z3r T e s=((⟨#[]⟩:ByteArray),q):=by
  have hl_:y91.cons.length=e.arms.length:=by assumption
  rw [z3r,if_pos (by assumption),z2h hx67,hy92]
  simp only
  rw [if_pos hl_,hI109,z0a hx133,z0a hx117,z2e,if_pos (by simp [*])]
  all_goals rfl
 show _∧_;rw [hr_];exact ⟨rfl,hm⟩
 refine go he hm fun a he =>?_
 replace hm:=hm.dl [2,0]
 refine Ret1 hQ he hm ?_
 have hr_:z3r T e s=(out,q):=by
  have hl_:y91.cons.length=e.arms.length:=by assumption
  rw [z3r,if_pos (by assumption),z2h hx67,hy92]
  simp only
  rw [if_pos hl_,hI109,z0g h111,z0g (l:=e.arms) (by omega)];rfl
 show _∧_;rw [hr_];exact ⟨rfl,hm⟩
 refine go he hm fun a he =>?_
 replace hm:=hm.dl [2,0]
 refine Ret1 hQ he hm ?_
 have hr_:z3r T e s=((⟨#[]⟩:ByteArray),(z0c T x66 s).2):=by
  simp [z3r,z2h hx67,sNo, *]
 show _∧_;rw [hr_];exact ⟨rfl,hm⟩
 refine Alc he hm fun b219 w hm a he =>?_
 replace hm:=hm.pl 2
 refine z0y call86 he hm (fun w hm a he =>?_) (c:=ih _ (by first | exact Ex.lt_args (List.mem_of_getElem? hx67) | exact Ex.lt_arms (List.mem_of_getElem? hx67)) rpT hr71 hm)
 rcases hf220:mget (d5) ((z0c T x66 s).1) with _ | vf221
 have hf220_:=congrArg (z0i true (.agg (List.toArray [.string ⟨#[]⟩,.slice none 0 0]))) hf220
 refine Qq he hm (fun a he =>?_) (o:=by exact fun _ _ _ he hs=>Ok.cast (z0o runUnderlying101 runUnderlying9 zeroValue133 he hs rfl rfl ma9) (show z0i true (.agg (List.toArray [.string ⟨#[]⟩,.slice none 0 0])) (mget (d5) ((z0c T x66 s).1))=.tuple (List.toArray [.agg (List.toArray [.string ⟨#[]⟩,.slice none 0 0]),.bool false]) from hf220_))
 refine Sto 1 he hm fun w hm a he =>?_
 refine go he hm fun a he =>?_
 replace hm:=hm.dl [2,1]
 refine Ret1 hQ he hm ?_
 have hr_:z3r T e s=((⟨#[]⟩:ByteArray),(z0c T x66 s).2):=by
  have e_:=MapRel.none mr13 hf220
  simp [z3r,z2h hx67,sNo, *]
 show _∧_;rw [hr_];exact ⟨rfl,hm⟩
 obtain ⟨y225,hy226,cs227,rfl,hr228⟩:=mr13.get hf220
 obtain ⟨s229,rfl,h230⟩:=id hr228
 obtain ⟨p231,c232,rfl,hm233,hn234⟩:=h230.fm
 have hf220_:=congrArg (z0i true (.agg (List.toArray [.string ⟨#[]⟩,.slice none 0 0]))) hf220
 refine Qq he hm (fun a he =>?_) (o:=by exact fun _ _ _ he hs=>Ok.cast (z0o runUnderlying101 runUnderlying9 zeroValue133 he hs rfl rfl ma9) (show z0i true (.agg (List.toArray [.string ⟨#[]⟩,.slice none 0 0])) (mget (d5) ((z0c T x66 s).1))=.tuple (List.toArray [.agg (List.toArray [.string y225.name,.slice p231 y225.cons.length c232]),.bool true]) from hf220_))
 refine Sto 1 he hm fun w hm a he =>?_
 refine go he hm fun a he =>?_
 by_cases h237:y225.cons.length=e.arms.length
 refine go he hm fun a he =>?_
 refine z1i (he.ks [0,2,4,48,49]) hm (fun R mm a w=>∃(i:Nat) (q:Scope) (out:Bs),mm=y225.cons.length - i∧R Φ [(9,.string out),(50,.int .i64 ((i:Nat):Int))] [(0,.mp b (smap q))] a w∧(splitP T e.arms y225.cons true sNo ((z0c T x66 s).2)=splitP T (e.arms.drop i) (y225.cons.drop i) (decide (i=0)) out q)) (y225.cons.length - 0) ⟨0,(z0c T x66 s).2,sNo,rfl,⟨he.pk,hm⟩,rfl⟩ ?_
 clear hm he
 rintro mm a w ⟨i,q,out,hmu,⟨he,hm⟩,hI242⟩ L241 hL241
 replace hm:=hm.nf
 refine go he hm fun a he =>?_
 by_cases h244:i < y225.cons.length
 refine go he hm fun a he =>?_
 obtain ⟨q248,rfl,x249,hx250,cs251,hl252,ha253,hr254⟩:=h230.el hn234 h244
 obtain ⟨s255,rfl,h256⟩:=id hr254
 obtain ⟨p257,c258,rfl,hm259,hn260⟩:=h256.fm
 refine Alc he hm fun b261 w hm a he =>?_
 refine Sto 0 he hm fun w hm a he =>?_
 refine go he hm fun a he =>?_
 have hb263:i < e.arms.length:=by omega
 obtain ⟨q264,rfl,x265,hx266,cs267,hl268,ha269,hr270⟩:=h52.el hn56 hb263
 obtain ⟨s271,b277,rfl,h272,h278⟩:=RArm.iff.1 hr270
 obtain ⟨p273,c274,rfl,hm275,hn276⟩:=h272.fm
 obtain ⟨p281,c282,p287,c288,rfl,hi291,h280,h286,hm283,hn284,hm289,hn290⟩:=REx.fm h278
 refine Alc he hm fun b292 w hm a he =>?_
 refine Sto 0 he hm fun w hm a he =>?_
 refine go he hm fun a he =>?_
 by_cases h295:x265.con=x249.name
 refine go he hm fun a he =>?_
 by_cases h296:x265.vars.length=x249.fields.length
 refine go he hm fun a he =>?_
 refine z1i (he.ks [0,2,4,9,10,11,12,48,49,50,75,76]) hm (fun R mm a w=>∃(k:Nat) (q2:Scope),mm=x265.vars.length - k∧R Φ [(77,.int .i64 ((k:Nat):Int))] [(2,.mp b (smap q2))] a w∧(putAll q x265.vars x249.fields=putAll q2 (x265.vars.drop k) (x249.fields.drop k))) (x265.vars.length - 0) ⟨0,q,rfl,⟨he.pk,hm⟩,rfl⟩ ?_
 clear hm he
 rintro mm a w ⟨k,q2,hmu,⟨he,hm⟩,hI300⟩ L299 hL299
 replace hm:=hm.nf
 refine go he hm fun a he =>?_
 by_cases h302:k < x265.vars.length
 refine go he hm fun a he =>?_
 obtain ⟨q306,rfl,x307,hx308,cs309,hl310,ha311,hr312⟩:=h272.el hn276 h302
 obtain rfl:cs309=[.string x307]:=hr312
 refine go he hm fun a he =>?_
 have hb313:k < x249.fields.length:=by omega
 obtain ⟨q314,rfl,x315,hx316,cs317,hl318,ha319,hr320⟩:=h256.el hn260 hb313
 obtain rfl:cs317=[.string x315]:=hr320
 refine MapU 2 runUnderlying157 runUnderlying9 he hm fun w hm a he =>?_
 rw [smap_put] at hm
 refine go he hm fun a he =>?_
 refine hL299 _ _ _ (by subst hmu;omega) ⟨(k+1),((lput q2 x307 x315)),rfl,⟨he.pk,hm⟩,?_⟩
 rw [hI300,z0a hx308,z0a hx316];rfl
 replace hm:=hm.pl 2
 refine z0y call86 he hm (fun w hm a he =>?_) (c:=ih _ (by first | exact Ex.lt_args (List.mem_of_getElem? hx266) | exact Ex.lt_arms (List.mem_of_getElem? hx266)) rpT h278 hm)
 refine go he hm fun a he =>?_
 refine z1i (he.ks [0,2,4,9,10,15,48,49,50,96,97]) hm (fun R mm a w=>∃(k3:Nat) (q3:Scope),mm=x265.vars.length - k3∧R Φ [(98,.int .i64 ((k3:Nat):Int))] [(0,.mp b (smap q3))] a w∧(delAll ((z0c T x265.body q2).2) x265.vars=delAll q3 (x265.vars.drop k3))) (x265.vars.length - 0) ⟨0,(z0c T x265.body q2).2,rfl,⟨he.pk,hm⟩,rfl⟩ ?_
 clear hm he
 rintro mm a w ⟨k3,q3,hmu,⟨he,hm⟩,hI326⟩ L325 hL325
 replace hm:=hm.nf
 refine go he hm fun a he =>?_
 by_cases h328:k3 < x265.vars.length
 refine go he hm fun a he =>?_
 obtain ⟨q332,rfl,x333,hx334,cs335,hl336,ha337,hr338⟩:=h272.el hn276 h328
 obtain rfl:cs335=[.string x333]:=hr338
 refine go he hm fun a he =>?_
 refine st0 he rfl rfl (eff_delete 0 runUnderlying157 runUnderlying9 he hm rfl rfl rfl fun w hm a he =>?_)
 rw [smap_del] at hm
 refine go he hm fun a he =>?_
 refine hL325 _ _ _ (by subst hmu;omega) ⟨(k3+1),((ldel q3 x333)),rfl,⟨he.pk,hm⟩,?_⟩
 rw [hI326,z0a hx334];rfl
 refine go he hm fun a he =>?_
 by_cases h342:(z0c T x265.body q2).1=(⟨#[]⟩:ByteArray)
 refine go he hm fun a he =>?_
 replace hm:=hm.dl [4,3,2,1]
 refine Ret1 hQ he hm ?_
 have hr_:z3r T e s=((⟨#[]⟩:ByteArray),q3):=by
  have ha_:armT T x265 x249 q=((z0c T x265.body q2).1,q3):=by
   have e1_:putAll q x265.vars x249.fields=q2:=by rw [hI300,z0g h302,z3a]
   have e2_:=hI326
   rw [z0g h328] at e2_
   rw [armT,e1_,e2_];rfl
  have hl_:y225.cons.length=e.arms.length:=by assumption
  rw [z3r,if_pos (by assumption),z2h hx67,hy226]
  simp only
  rw [if_pos hl_,hI242,z0a hx266,z0a hx250,z2e,if_neg (by simp [*]),ha_,if_pos (by simp_all [sNo] <;> omega)];rfl
 show _∧_;rw [hr_];exact ⟨rfl,hm⟩
 refine go he hm fun a he =>?_
 by_cases h344:0 < i
 refine go he hm fun a he =>?_
 by_cases h345:(z0c T x265.body q2).1=out
 refine go he hm fun a he =>?_
 replace hm:=hm.dl [2,1]
 refine hL241 _ _ _ (by subst hmu;omega) ⟨(i+1),(q3),((z0c T x265.body q2).1),rfl,⟨he.pk,hm⟩,?_⟩
 have ha_:armT T x265 x249 q=((z0c T x265.body q2).1,q3):=by
  have e1_:putAll q x265.vars x249.fields=q2:=by rw [hI300,z0g h302,z3a]
  have e2_:=hI326
  rw [z0g h328] at e2_
  rw [armT,e1_,e2_];rfl
 rw [hI242,z0a hx266,z0a hx250,z2e,if_neg (by simp [*]),ha_,if_neg (by simp_all [sNo] <;> omega)];simp
 refine go he hm fun a he =>?_
 replace hm:=hm.dl [4,3,2,1]
 refine Ret1 hQ he hm ?_
 have hr_:z3r T e s=((⟨#[]⟩:ByteArray),q3):=by
  have ha_:armT T x265 x249 q=((z0c T x265.body q2).1,q3):=by
   have e1_:putAll q x265.vars x249.fields=q2:=by rw [hI300,z0g h302,z3a]
   have e2_:=hI326
   rw [z0g h328] at e2_
   rw [armT,e1_,e2_];rfl
  have hl_:y225.cons.length=e.arms.length:=by assumption
  rw [z3r,if_pos (by assumption),z2h hx67,hy226]
  simp only
  rw [if_pos hl_,hI242,z0a hx266,z0a hx250,z2e,if_neg (by simp [*]),ha_,if_pos (by simp_all [sNo] <;> omega)];rfl
 show _∧_;rw [hr_];exact ⟨rfl,hm⟩
 refine go he hm fun a he =>?_
 replace hm:=hm.dl [2,1]
 refine hL241 _ _ _ (by subst hmu;omega) ⟨(i+1),(q3),((z0c T x265.body q2).1),rfl,⟨he.pk,hm⟩,?_⟩
 have ha_:armT T x265 x249 q=((z0c T x265.body q2).1,q3):=by
  have e1_:putAll q x265.vars x249.fields=q2:=by rw [hI300,z0g h302,z3a]
  have e2_:=hI326
  rw [z0g h328] at e2_
  rw [armT,e1_,e2_];rfl
 rw [hI242,z0a hx266,z0a hx250,z2e,if_neg (by simp [*]),ha_,if_neg (by simp_all [sNo] <;> omega)];simp
 refine go he hm fun a he =>?_
 replace hm:=hm.dl [4,3,1,0]
 refine Ret1 hQ he hm ?_
 have hr_:z3r T e s=((⟨#[]⟩:ByteArray),q):=by
  have hl_:y225.cons.length=e.arms.length:=by assumption
  rw [z3r,if_pos (by assumption),z2h hx67,hy226]
  simp only
  rw [if_pos hl_,hI242,z0a hx266,z0a hx250,z2e,if_pos (by simp [*])]
  all_goals rfl
 show _∧_;rw [hr_];exact ⟨rfl,hm⟩
 refine go he hm fun a he =>?_
 replace hm:=hm.dl [4,3,1,0]
 refine Ret1 hQ he hm ?_
 have hr_:z3r T e s=((⟨#[]⟩:ByteArray),q):=by
  have hl_:y225.cons.length=e.arms.length:=by assumption
  rw [z3r,if_pos (by assumption),z2h hx67,hy226]
  simp only
  rw [if_pos hl_,hI242,z0a hx266,z0a hx250,z2e,if_pos (by simp [*])]
  all_goals rfl
 show _∧_;rw [hr_];exact ⟨rfl,hm⟩
 refine go he hm fun a he =>?_
 replace hm:=hm.dl [2,1]
 refine Ret1 hQ he hm ?_
 have hr_:z3r T e s=(out,q):=by
  have hl_:y225.cons.length=e.arms.length:=by assumption
  rw [z3r,if_pos (by assumption),z2h hx67,hy226]
  simp only
  rw [if_pos hl_,hI242,z0g h244,z0g (l:=e.arms) (by omega)];rfl
 show _∧_;rw [hr_];exact ⟨rfl,hm⟩
 refine go he hm fun a he =>?_
 replace hm:=hm.dl [2,1]
 refine Ret1 hQ he hm ?_
 have hr_:z3r T e s=((⟨#[]⟩:ByteArray),(z0c T x66 s).2):=by
  simp [z3r,z2h hx67,sNo, *]
 show _∧_;rw [hr_];exact ⟨rfl,hm⟩
 refine go he hm fun a he =>?_
 replace hm:=hm.dl [0]
 refine Ret1 hQ he hm ?_
 have hr_:z3r T e s=((⟨#[]⟩:ByteArray),s):=by
  simp [z3r,sNo, *]
 show _∧_;rw [hr_];exact ⟨rfl,hm⟩
end Go.Sw

namespace Go.Sw
open Go.Proofs.Tryz
open Go.Proofs
set_option maxRecDepth 20000
set_option maxHeartbeats 4000000
theorem let_ok {Φ:Fz} {K:List Res} {w:World} {p0:Addr} {T:Table} {d1:List Value} {e:Ex} {b:Nat} {s:Scope} (rpT:RTable Φ p0 T) (rpe:REx Φ d1 e) (ih:∀x:Ex,x.sz < e.sz→∀{Φ:Fz} {K:List Res} {w:World} {p:Addr} {d:List Value} {b:Nat} {s:Scope},RTable Φ p T→REx Φ d x→Mem Φ (.mp b (smap s)::K) w→Calls Tryz.prog 86 (List.toArray [.pointer (some p),.agg d.toArray,.map (some b)]) w (fun ee w'=>ee=.returned (.string (z0c T x s).1)∧Mem Φ (.mp b (smap (z0c T x s).2)::K) w')) (hm:Mem Φ (.mp b (smap s)::K) w) :
  Calls Tryz.prog 144 (List.toArray [.pointer (some p0),.agg d1.toArray,.map (some b)]) w (fun ee w'=>ee=.returned (.string ((letT T e s).1))∧Mem Φ (.mp b (smap (letT T e s).2)::K) w'):=by
 obtain ⟨cs17,m1,m2,m3,m4,d5,d6,d7,d8,hat18,hcl19,hcore20,ma9,mr13,ma10,mr14,ma11,mr15,ma12,mr16⟩:=rpT.ex
 obtain ⟨p23,c24,p29,c30,p35,c36,p41,c42,rfl,h22,h28,h34,h40,hm25,hn26,hm31,hn32,hm37,hn38,hm43,hn44⟩:=RCore.fm hcore20
 obtain ⟨p47,c48,p53,c54,rfl,hi57,h46,h52,hm49,hn50,hm55,hn56⟩:=REx.fm rpe
 refine enterB func144 rfl ntmps144 rfl (fun Q hQ a he =>?_)
 refine Bx he hm fun b59 w hm a he =>?_
 refine z1n call186 he hm (fun hB62 w hm a he =>?_) (fun hB62 w hm a he =>?_) (c:=bare_ok rpe hm)
 refine go he hm fun a he =>?_
 have hlen:=z3d (n:=2) hB62
 refine go he hm fun a he =>?_
 have hb64:0 < e.args.length:=by omega
 obtain ⟨q65,rfl,x66,hx67,cs68,hl69,ha70,hr71⟩:=h46.el hn50 hb64
 obtain ⟨p74,c75,p80,c81,rfl,hi84,h73,h79,hm76,hn77,hm82,hn83⟩:=REx.fm hr71
 replace hm:=hm.pl 1
 refine z0y call86 he hm (fun w hm a he =>?_) (c:=ih _ (by exact Ex.lt_args (List.mem_of_getElem? hx67)) rpT hr71 hm)
 refine go he hm fun a he =>?_
 by_cases h87:(z0c T x66 s).1=(⟨#[]⟩:ByteArray)
 refine go he hm fun a he =>?_
 replace hm:=hm.dl [1]
 refine hQ _ _ _ (ret1B he results144 rfl ?_)
 have hr_:letT T e s=((⟨#[]⟩:ByteArray),(z0c T x66 s).2):=by
  rw [letT,if_pos hB62,letP_no hx67 h87];rfl
 show _∧_;rw [hr_];exact ⟨rfl,hm⟩
 refine MapU 0 runUnderlying157 runUnderlying9 he hm fun w hm a he =>?_
 rw [smap_put] at hm
 refine go he hm fun a he =>?_
 refine st_defer_builtin he rfl fun a fl91 he =>?_
 refine go he hm fun a he =>?_
 have hb93:1 < e.args.length:=by omega
 obtain ⟨x94,hx95⟩:=z2d hb93
 obtain ⟨cs96,hl97,ha98,hr99⟩:=h46.elem hx95
 obtain ⟨p102,c103,p108,c109,rfl,hi112,h101,h107,hm104,hn105,hm110,hn111⟩:=REx.fm hr99
 refine z0y call86 he hm (fun w hm a he =>?_) (c:=ih _ (by exact Ex.lt_args (List.mem_of_getElem? hx95)) rpT hr99 hm)
 refine go he hm fun a he =>?_
 replace hm:=hm.dl [1]
 refine hQ _ _ _ (ret1B_delete 0 runUnderlying157 runUnderlying9 he results144 rfl hm rfl fun w hm =>?_)
 rw [smap_del] at hm
 have hr_:letT T e s=((z0c T x94 (lput ((z0c T x66 s).2) e.name ((z0c T x66 s).1))).1,(ldel ((z0c T x94 (lput ((z0c T x66 s).2) e.name ((z0c T x66 s).1))).2) e.name)):=by
  rw [letT,if_pos hB62,letP_yes hx67 hx95 h87]
 show _∧_;rw [hr_];exact ⟨rfl,hm⟩
 refine go he hm fun a he =>?_
 replace hm:=hm.dl [0]
 refine hQ _ _ _ (ret1B he results144 rfl ?_)
 have hr_:letT T e s=((⟨#[]⟩:ByteArray),s):=by
  simp [letT,sNo, *]
 show _∧_;rw [hr_];exact ⟨rfl,hm⟩
end Go.Sw

namespace Go.Sw
open Go.Proofs.Tryz
open Go.Proofs
set_option maxRecDepth 20000
set_option maxHeartbeats 4000000
theorem typed_step {Φ:Fz} {K:List Res} {w:World} {p0:Addr} {T:Table} {d1:List Value} {e:Ex} {b:Nat} {s:Scope} (rpT:RTable Φ p0 T) (rpe:REx Φ d1 e) (hT:∀n f,lget T.funs n=some f→f.params.length≤1000) (ih:∀x:Ex,x.sz < e.sz→∀{Φ:Fz} {K:List Res} {w:World} {p:Addr} {d:List Value} {b:Nat} {s:Scope},RTable Φ p T→REx Φ d x→Mem Φ (.mp b (smap s)::K) w→Calls Tryz.prog 86 (List.toArray [.pointer (some p),.agg d.toArray,.map (some b)]) w (fun ee w'=>ee=.returned (.string (z0c T x s).1)∧Mem Φ (.mp b (smap (z0c T x s).2)::K) w')) (hm:Mem Φ (.mp b (smap s)::K) w) :
  Calls Tryz.prog 86 (List.toArray [.pointer (some p0),.agg d1.toArray,.map (some b)]) w (fun ee w'=>ee=.returned (.string ((z0c T e s).1))∧Mem Φ (.mp b (smap (z0c T e s).2)::K) w'):=by
 obtain ⟨cs17,m1,m2,m3,m4,d5,d6,d7,d8,hat18,hcl19,hcore20,ma9,mr13,ma10,mr14,ma11,mr15,ma12,mr16⟩:=rpT.ex
 obtain ⟨p23,c24,p29,c30,p35,c36,p41,c42,rfl,h22,h28,h34,h40,hm25,hn26,hm31,hn32,hm37,hn38,hm43,hn44⟩:=RCore.fm hcore20
 obtain ⟨p47,c48,p53,c54,rfl,hi57,h46,h52,hm49,hn50,hm55,hn56⟩:=REx.fm rpe
 refine z0l func86 ntmps86 fun Q hQ a he =>?_
 refine Bx he hm fun b59 w hm a he =>?_
 refine go he hm fun a he =>?_
 refine st he rfl rfl rfl (eff_makeMapI hm fun b61 w hm a he =>?_)
 refine go he hm fun a he =>?_
 refine st0 he rfl rfl (z4k 0 runUnderlying218 runUnderlying3 he hm rfl rfl rfl rfl fun w hm a he =>?_)
 replace hm:=hm.nf
 refine go he hm fun a he =>?_
 refine st0 he rfl rfl (z4k 0 runUnderlying218 runUnderlying3 he hm rfl rfl rfl rfl fun w hm a he =>?_)
 replace hm:=hm.nf
 refine go he hm fun a he =>?_
 refine st0 he rfl rfl (z4k 0 runUnderlying218 runUnderlying3 he hm rfl rfl rfl rfl fun w hm a he =>?_)
 replace hm:=hm.nf
 refine go he hm fun a he =>?_
 refine st0 he rfl rfl (z4k 0 runUnderlying218 runUnderlying3 he hm rfl rfl rfl rfl fun w hm a he =>?_)
 replace hm:=hm.nf
 refine go he hm fun a he =>?_
 refine st0 he rfl rfl (z4k 0 runUnderlying218 runUnderlying3 he hm rfl rfl rfl rfl fun w hm a he =>?_)
 replace hm:=hm.nf
 refine go he hm fun a he =>?_
 refine st0 he rfl rfl (z4k 0 runUnderlying218 runUnderlying3 he hm rfl rfl rfl rfl fun w hm a he =>?_)
 replace hm:=hm.nf
 refine go he hm fun a he =>?_
 refine st0 he rfl rfl (z4k 0 runUnderlying218 runUnderlying3 he hm rfl rfl rfl rfl fun w hm a he =>?_)
 replace hm:=hm.nf
 refine go he hm fun a he =>?_
 refine st0 he rfl rfl (z4k 0 runUnderlying218 runUnderlying3 he hm rfl rfl rfl rfl fun w hm a he =>?_)
 replace hm:=hm.nf
 refine go he hm fun a he =>?_
 by_cases h63:e.kind=1
 have hf64:iget [(1,.func (.func 139) (List.toArray [.pointer (some p0)]) (List.toArray [])),(2,.func (.func 140) (List.toArray [.pointer (some p0)]) (List.toArray [])),(3,.func (.func 141) (List.toArray [.pointer (some p0)]) (List.toArray [])),(4,.func (.func 142) (List.toArray [.pointer (some p0)]) (List.toArray [])),(5,.func (.func 143) (List.toArray [.pointer (some p0)]) (List.toArray [])),(6,.func (.func 144) (List.toArray [.pointer (some p0)]) (List.toArray [])),(7,.func (.func 145) (List.toArray [.pointer (some p0)]) (List.toArray [])),(8,.func (.func 146) (List.toArray [.pointer (some p0)]) (List.toArray []))] (e.kind)=some (.func (.func 139) (List.toArray [.pointer (some p0)]) (List.toArray [])):=by rw [h63];rfl
 have hf64_:=congrArg (z0i true (.nilFunc)) hf64
 refine Qq he hm (fun a he =>?_) (o:=by exact fun _ _ _ he hs=>Ok.cast (z2x 0 runUnderlying218 runUnderlying3 zeroValue160 he hs rfl rfl rfl) (show z0i true (.nilFunc) (iget [(1,.func (.func 139) (List.toArray [.pointer (some p0)]) (List.toArray [])),(2,.func (.func 140) (List.toArray [.pointer (some p0)]) (List.toArray [])),(3,.func (.func 141) (List.toArray [.pointer (some p0)]) (List.toArray [])),(4,.func (.func 142) (List.toArray [.pointer (some p0)]) (List.toArray [])),(5,.func (.func 143) (List.toArray [.pointer (some p0)]) (List.toArray [])),(6,.func (.func 144) (List.toArray [.pointer (some p0)]) (List.toArray [])),(7,.func (.func 145) (List.toArray [.pointer (some p0)]) (List.toArray [])),(8,.func (.func 146) (List.toArray [.pointer (some p0)]) (List.toArray []))] (e.kind))=.tuple (List.toArray [.func (.func 139) (List.toArray [.pointer (some p0)]) (List.toArray []),.bool true]) from hf64_))
 replace hm:=hm.pl 2
 refine FunR call139 he hm (fun w hm a he =>?_) (c:=by exact number_ok rpT rpe hm)
 refine go he hm fun a he =>?_
 replace hm:=hm.dl [2,1]
 refine Ret1 hQ he hm ?_
 have hr_:z0c T e s=((numberT e),s):=by rw [z7x T e s h63]
 show _∧_;rw [hr_];exact ⟨rfl,hm⟩
 by_cases h68:e.kind=2
 have hf69:iget [(1,.func (.func 139) (List.toArray [.pointer (some p0)]) (List.toArray [])),(2,.func (.func 140) (List.toArray [.pointer (some p0)]) (List.toArray [])),(3,.func (.func 141) (List.toArray [.pointer (some p0)]) (List.toArray [])),(4,.func (.func 142) (List.toArray [.pointer (some p0)]) (List.toArray [])),(5,.func (.func 143) (List.toArray [.pointer (some p0)]) (List.toArray [])),(6,.func (.func 144) (List.toArray [.pointer (some p0)]) (List.toArray [])),(7,.func (.func 145) (List.toArray [.pointer (some p0)]) (List.toArray [])),(8,.func (.func 146) (List.toArray [.pointer (some p0)]) (List.toArray []))] (e.kind)=some (.func (.func 140) (List.toArray [.pointer (some p0)]) (List.toArray [])):=by rw [h68];rfl
 have hf69_:=congrArg (z0i true (.nilFunc)) hf69
 refine Qq he hm (fun a he =>?_) (o:=by exact fun _ _ _ he hs=>Ok.cast (z2x 0 runUnderlying218 runUnderlying3 zeroValue160 he hs rfl rfl rfl) (show z0i true (.nilFunc) (iget [(1,.func (.func 139) (List.toArray [.pointer (some p0)]) (List.toArray [])),(2,.func (.func 140) (List.toArray [.pointer (some p0)]) (List.toArray [])),(3,.func (.func 141) (List.toArray [.pointer (some p0)]) (List.toArray [])),(4,.func (.func 142) (List.toArray [.pointer (some p0)]) (List.toArray [])),(5,.func (.func 143) (List.toArray [.pointer (some p0)]) (List.toArray [])),(6,.func (.func 144) (List.toArray [.pointer (some p0)]) (List.toArray [])),(7,.func (.func 145) (List.toArray [.pointer (some p0)]) (List.toArray [])),(8,.func (.func 146) (List.toArray [.pointer (some p0)]) (List.toArray []))] (e.kind))=.tuple (List.toArray [.func (.func 140) (List.toArray [.pointer (some p0)]) (List.toArray []),.bool true]) from hf69_))
 replace hm:=hm.pl 2
 refine FunR call140 he hm (fun w hm a he =>?_) (c:=by exact variable_ok rpT rpe hm)
 refine go he hm fun a he =>?_
 replace hm:=hm.dl [2,1]
 refine Ret1 hQ he hm ?_
 have hr_:z0c T e s=((z5n e s),s):=by rw [z7y T e s h68]
 show _∧_;rw [hr_];exact ⟨rfl,hm⟩
 by_cases h73:e.kind=3
 have hf74:iget [(1,.func (.func 139) (List.toArray [.pointer (some p0)]) (List.toArray [])),(2,.func (.func 140) (List.toArray [.pointer (some p0)]) (List.toArray [])),(3,.func (.func 141) (List.toArray [.pointer (some p0)]) (List.toArray [])),(4,.func (.func 142) (List.toArray [.pointer (some p0)]) (List.toArray [])),(5,.func (.func 143) (List.toArray [.pointer (some p0)]) (List.toArray [])),(6,.func (.func 144) (List.toArray [.pointer (some p0)]) (List.toArray [])),(7,.func (.func 145) (List.toArray [.pointer (some p0)]) (List.toArray [])),(8,.func (.func 146) (List.toArray [.pointer (some p0)]) (List.toArray []))] (e.kind)=some (.func (.func 141) (List.toArray [.pointer (some p0)]) (List.toArray [])):=by rw [h73];rfl
 have hf74_:=congrArg (z0i true (.nilFunc)) hf74
 refine Qq he hm (fun a he =>?_) (o:=by exact fun _ _ _ he hs=>Ok.cast (z2x 0 runUnderlying218 runUnderlying3 zeroValue160 he hs rfl rfl rfl) (show z0i true (.nilFunc) (iget [(1,.func (.func 139) (List.toArray [.pointer (some p0)]) (List.toArray [])),(2,.func (.func 140) (List.toArray [.pointer (some p0)]) (List.toArray [])),(3,.func (.func 141) (List.toArray [.pointer (some p0)]) (List.toArray [])),(4,.func (.func 142) (List.toArray [.pointer (some p0)]) (List.toArray [])),(5,.func (.func 143) (List.toArray [.pointer (some p0)]) (List.toArray [])),(6,.func (.func 144) (List.toArray [.pointer (some p0)]) (List.toArray [])),(7,.func (.func 145) (List.toArray [.pointer (some p0)]) (List.toArray [])),(8,.func (.func 146) (List.toArray [.pointer (some p0)]) (List.toArray []))] (e.kind))=.tuple (List.toArray [.func (.func 141) (List.toArray [.pointer (some p0)]) (List.toArray []),.bool true]) from hf74_))
 replace hm:=hm.pl 2
 refine FunR call141 he hm (fun w hm a he =>?_) (c:=by exact inputT_ok rpT rpe hm)
 refine go he hm fun a he =>?_
 replace hm:=hm.dl [2,1]
 refine Ret1 hQ he hm ?_
 have hr_:z0c T e s=((inputT T e),s):=by rw [z7v T e s h73]
 show _∧_;rw [hr_];exact ⟨rfl,hm⟩
 by_cases h78:e.kind=4
 have hf79:iget [(1,.func (.func 139) (List.toArray [.pointer (some p0)]) (List.toArray [])),(2,.func (.func 140) (List.toArray [.pointer (some p0)]) (List.toArray [])),(3,.func (.func 141) (List.toArray [.pointer (some p0)]) (List.toArray [])),(4,.func (.func 142) (List.toArray [.pointer (some p0)]) (List.toArray [])),(5,.func (.func 143) (List.toArray [.pointer (some p0)]) (List.toArray [])),(6,.func (.func 144) (List.toArray [.pointer (some p0)]) (List.toArray [])),(7,.func (.func 145) (List.toArray [.pointer (some p0)]) (List.toArray [])),(8,.func (.func 146) (List.toArray [.pointer (some p0)]) (List.toArray []))] (e.kind)=some (.func (.func 142) (List.toArray [.pointer (some p0)]) (List.toArray [])):=by rw [h78];rfl
 have hf79_:=congrArg (z0i true (.nilFunc)) hf79
 refine Qq he hm (fun a he =>?_) (o:=by exact fun _ _ _ he hs=>Ok.cast (z2x 0 runUnderlying218 runUnderlying3 zeroValue160 he hs rfl rfl rfl) (show z0i true (.nilFunc) (iget [(1,.func (.func 139) (List.toArray [.pointer (some p0)]) (List.toArray [])),(2,.func (.func 140) (List.toArray [.pointer (some p0)]) (List.toArray [])),(3,.func (.func 141) (List.toArray [.pointer (some p0)]) (List.toArray [])),(4,.func (.func 142) (List.toArray [.pointer (some p0)]) (List.toArray [])),(5,.func (.func 143) (List.toArray [.pointer (some p0)]) (List.toArray [])),(6,.func (.func 144) (List.toArray [.pointer (some p0)]) (List.toArray [])),(7,.func (.func 145) (List.toArray [.pointer (some p0)]) (List.toArray [])),(8,.func (.func 146) (List.toArray [.pointer (some p0)]) (List.toArray []))] (e.kind))=.tuple (List.toArray [.func (.func 142) (List.toArray [.pointer (some p0)]) (List.toArray []),.bool true]) from hf79_))
 replace hm:=hm.pl 2
 refine FunR call142 he hm (fun w hm a he =>?_) (c:=by exact con_ok rpT rpe ih hm)
 refine go he hm fun a he =>?_
 replace hm:=hm.dl [2,1]
 refine Ret1 hQ he hm ?_
 have hr_:z0c T e s=((conT T e s).1,(conT T e s).2):=by rw [z7u T e s h78]
 show _∧_;rw [hr_];exact ⟨rfl,hm⟩
 by_cases h83:e.kind=5
 have hf84:iget [(1,.func (.func 139) (List.toArray [.pointer (some p0)]) (List.toArray [])),(2,.func (.func 140) (List.toArray [.pointer (some p0)]) (List.toArray [])),(3,.func (.func 141) (List.toArray [.pointer (some p0)]) (List.toArray [])),(4,.func (.func 142) (List.toArray [.pointer (some p0)]) (List.toArray [])),(5,.func (.func 143) (List.toArray [.pointer (some p0)]) (List.toArray [])),(6,.func (.func 144) (List.toArray [.pointer (some p0)]) (List.toArray [])),(7,.func (.func 145) (List.toArray [.pointer (some p0)]) (List.toArray [])),(8,.func (.func 146) (List.toArray [.pointer (some p0)]) (List.toArray []))] (e.kind)=some (.func (.func 143) (List.toArray [.pointer (some p0)]) (List.toArray [])):=by rw [h83];rfl
 have hf84_:=congrArg (z0i true (.nilFunc)) hf84
 refine Qq he hm (fun a he =>?_) (o:=by exact fun _ _ _ he hs=>Ok.cast (z2x 0 runUnderlying218 runUnderlying3 zeroValue160 he hs rfl rfl rfl) (show z0i true (.nilFunc) (iget [(1,.func (.func 139) (List.toArray [.pointer (some p0)]) (List.toArray [])),(2,.func (.func 140) (List.toArray [.pointer (some p0)]) (List.toArray [])),(3,.func (.func 141) (List.toArray [.pointer (some p0)]) (List.toArray [])),(4,.func (.func 142) (List.toArray [.pointer (some p0)]) (List.toArray [])),(5,.func (.func 143) (List.toArray [.pointer (some p0)]) (List.toArray [])),(6,.func (.func 144) (List.toArray [.pointer (some p0)]) (List.toArray [])),(7,.func (.func 145) (List.toArray [.pointer (some p0)]) (List.toArray [])),(8,.func (.func 146) (List.toArray [.pointer (some p0)]) (List.toArray []))] (e.kind))=.tuple (List.toArray [.func (.func 143) (List.toArray [.pointer (some p0)]) (List.toArray []),.bool true]) from hf84_))
 replace hm:=hm.pl 2
 refine FunR call143 he hm (fun w hm a he =>?_) (c:=by exact call_ok rpT rpe hT ih hm)
 refine go he hm fun a he =>?_
 replace hm:=hm.dl [2,1]
 refine Ret1 hQ he hm ?_
 have hr_:z0c T e s=((callT T e s).1,(callT T e s).2):=by rw [z6s T e s h83]
 show _∧_;rw [hr_];exact ⟨rfl,hm⟩
 by_cases h88:e.kind=6
 have hf89:iget [(1,.func (.func 139) (List.toArray [.pointer (some p0)]) (List.toArray [])),(2,.func (.func 140) (List.toArray [.pointer (some p0)]) (List.toArray [])),(3,.func (.func 141) (List.toArray [.pointer (some p0)]) (List.toArray [])),(4,.func (.func 142) (List.toArray [.pointer (some p0)]) (List.toArray [])),(5,.func (.func 143) (List.toArray [.pointer (some p0)]) (List.toArray [])),(6,.func (.func 144) (List.toArray [.pointer (some p0)]) (List.toArray [])),(7,.func (.func 145) (List.toArray [.pointer (some p0)]) (List.toArray [])),(8,.func (.func 146) (List.toArray [.pointer (some p0)]) (List.toArray []))] (e.kind)=some (.func (.func 144) (List.toArray [.pointer (some p0)]) (List.toArray [])):=by rw [h88];rfl
 have hf89_:=congrArg (z0i true (.nilFunc)) hf89
 refine Qq he hm (fun a he =>?_) (o:=by exact fun _ _ _ he hs=>Ok.cast (z2x 0 runUnderlying218 runUnderlying3 zeroValue160 he hs rfl rfl rfl) (show z0i true (.nilFunc) (iget [(1,.func (.func 139) (List.toArray [.pointer (some p0)]) (List.toArray [])),(2,.func (.func 140) (List.toArray [.pointer (some p0)]) (List.toArray [])),(3,.func (.func 141) (List.toArray [.pointer (some p0)]) (List.toArray [])),(4,.func (.func 142) (List.toArray [.pointer (some p0)]) (List.toArray [])),(5,.func (.func 143) (List.toArray [.pointer (some p0)]) (List.toArray [])),(6,.func (.func 144) (List.toArray [.pointer (some p0)]) (List.toArray [])),(7,.func (.func 145) (List.toArray [.pointer (some p0)]) (List.toArray [])),(8,.func (.func 146) (List.toArray [.pointer (some p0)]) (List.toArray []))] (e.kind))=.tuple (List.toArray [.func (.func 144) (List.toArray [.pointer (some p0)]) (List.toArray []),.bool true]) from hf89_))
 replace hm:=hm.pl 2
 refine FunR call144 he hm (fun w hm a he =>?_) (c:=by exact let_ok rpT rpe ih hm)
 refine go he hm fun a he =>?_
 replace hm:=hm.dl [2,1]
 refine Ret1 hQ he hm ?_
 have hr_:z0c T e s=((letT T e s).1,(letT T e s).2):=by rw [z7w T e s h88]
 show _∧_;rw [hr_];exact ⟨rfl,hm⟩
 by_cases h93:e.kind=7
 have hf94:iget [(1,.func (.func 139) (List.toArray [.pointer (some p0)]) (List.toArray [])),(2,.func (.func 140) (List.toArray [.pointer (some p0)]) (List.toArray [])),(3,.func (.func 141) (List.toArray [.pointer (some p0)]) (List.toArray [])),(4,.func (.func 142) (List.toArray [.pointer (some p0)]) (List.toArray [])),(5,.func (.func 143) (List.toArray [.pointer (some p0)]) (List.toArray [])),(6,.func (.func 144) (List.toArray [.pointer (some p0)]) (List.toArray [])),(7,.func (.func 145) (List.toArray [.pointer (some p0)]) (List.toArray [])),(8,.func (.func 146) (List.toArray [.pointer (some p0)]) (List.toArray []))] (e.kind)=some (.func (.func 145) (List.toArray [.pointer (some p0)]) (List.toArray [])):=by rw [h93];rfl
 have hf94_:=congrArg (z0i true (.nilFunc)) hf94
 refine Qq he hm (fun a he =>?_) (o:=by exact fun _ _ _ he hs=>Ok.cast (z2x 0 runUnderlying218 runUnderlying3 zeroValue160 he hs rfl rfl rfl) (show z0i true (.nilFunc) (iget [(1,.func (.func 139) (List.toArray [.pointer (some p0)]) (List.toArray [])),(2,.func (.func 140) (List.toArray [.pointer (some p0)]) (List.toArray [])),(3,.func (.func 141) (List.toArray [.pointer (some p0)]) (List.toArray [])),(4,.func (.func 142) (List.toArray [.pointer (some p0)]) (List.toArray [])),(5,.func (.func 143) (List.toArray [.pointer (some p0)]) (List.toArray [])),(6,.func (.func 144) (List.toArray [.pointer (some p0)]) (List.toArray [])),(7,.func (.func 145) (List.toArray [.pointer (some p0)]) (List.toArray [])),(8,.func (.func 146) (List.toArray [.pointer (some p0)]) (List.toArray []))] (e.kind))=.tuple (List.toArray [.func (.func 145) (List.toArray [.pointer (some p0)]) (List.toArray []),.bool true]) from hf94_))
 replace hm:=hm.pl 2
 refine FunR call145 he hm (fun w hm a he =>?_) (c:=by exact split_ok rpT rpe ih hm)
 refine go he hm fun a he =>?_
 replace hm:=hm.dl [2,1]
 refine Ret1 hQ he hm ?_
 have hr_:z0c T e s=((z3r T e s).1,(z3r T e s).2):=by rw [z6t T e s h93]
 show _∧_;rw [hr_];exact ⟨rfl,hm⟩
 by_cases h98:e.kind=8
 have hf99:iget [(1,.func (.func 139) (List.toArray [.pointer (some p0)]) (List.toArray [])),(2,.func (.func 140) (List.toArray [.pointer (some p0)]) (List.toArray [])),(3,.func (.func 141) (List.toArray [.pointer (some p0)]) (List.toArray [])),(4,.func (.func 142) (List.toArray [.pointer (some p0)]) (List.toArray [])),(5,.func (.func 143) (List.toArray [.pointer (some p0)]) (List.toArray [])),(6,.func (.func 144) (List.toArray [.pointer (some p0)]) (List.toArray [])),(7,.func (.func 145) (List.toArray [.pointer (some p0)]) (List.toArray [])),(8,.func (.func 146) (List.toArray [.pointer (some p0)]) (List.toArray []))] (e.kind)=some (.func (.func 146) (List.toArray [.pointer (some p0)]) (List.toArray [])):=by rw [h98];rfl
 have hf99_:=congrArg (z0i true (.nilFunc)) hf99
 refine Qq he hm (fun a he =>?_) (o:=by exact fun _ _ _ he hs=>Ok.cast (z2x 0 runUnderlying218 runUnderlying3 zeroValue160 he hs rfl rfl rfl) (show z0i true (.nilFunc) (iget [(1,.func (.func 139) (List.toArray [.pointer (some p0)]) (List.toArray [])),(2,.func (.func 140) (List.toArray [.pointer (some p0)]) (List.toArray [])),(3,.func (.func 141) (List.toArray [.pointer (some p0)]) (List.toArray [])),(4,.func (.func 142) (List.toArray [.pointer (some p0)]) (List.toArray [])),(5,.func (.func 143) (List.toArray [.pointer (some p0)]) (List.toArray [])),(6,.func (.func 144) (List.toArray [.pointer (some p0)]) (List.toArray [])),(7,.func (.func 145) (List.toArray [.pointer (some p0)]) (List.toArray [])),(8,.func (.func 146) (List.toArray [.pointer (some p0)]) (List.toArray []))] (e.kind))=.tuple (List.toArray [.func (.func 146) (List.toArray [.pointer (some p0)]) (List.toArray []),.bool true]) from hf99_))
 replace hm:=hm.pl 2
 refine FunR call146 he hm (fun w hm a he =>?_) (c:=by exact op_ok rpT rpe ih hm)
 refine go he hm fun a he =>?_
 replace hm:=hm.dl [2,1]
 refine Ret1 hQ he hm ?_
 have hr_:z0c T e s=((opsT T e s).1,(opsT T e s).2):=by rw [y0d T e s h98]
 show _∧_;rw [hr_];exact ⟨rfl,hm⟩
 have hf103:iget [(1,.func (.func 139) (List.toArray [.pointer (some p0)]) (List.toArray [])),(2,.func (.func 140) (List.toArray [.pointer (some p0)]) (List.toArray [])),(3,.func (.func 141) (List.toArray [.pointer (some p0)]) (List.toArray [])),(4,.func (.func 142) (List.toArray [.pointer (some p0)]) (List.toArray [])),(5,.func (.func 143) (List.toArray [.pointer (some p0)]) (List.toArray [])),(6,.func (.func 144) (List.toArray [.pointer (some p0)]) (List.toArray [])),(7,.func (.func 145) (List.toArray [.pointer (some p0)]) (List.toArray [])),(8,.func (.func 146) (List.toArray [.pointer (some p0)]) (List.toArray []))] (e.kind)=none:=by simp [iget, *]
 have hf103_:=congrArg (z0i true (.nilFunc)) hf103
 refine Qq he hm (fun a he =>?_) (o:=by exact fun _ _ _ he hs=>Ok.cast (z2x 0 runUnderlying218 runUnderlying3 zeroValue160 he hs rfl rfl rfl) (show z0i true (.nilFunc) (iget [(1,.func (.func 139) (List.toArray [.pointer (some p0)]) (List.toArray [])),(2,.func (.func 140) (List.toArray [.pointer (some p0)]) (List.toArray [])),(3,.func (.func 141) (List.toArray [.pointer (some p0)]) (List.toArray [])),(4,.func (.func 142) (List.toArray [.pointer (some p0)]) (List.toArray [])),(5,.func (.func 143) (List.toArray [.pointer (some p0)]) (List.toArray [])),(6,.func (.func 144) (List.toArray [.pointer (some p0)]) (List.toArray [])),(7,.func (.func 145) (List.toArray [.pointer (some p0)]) (List.toArray [])),(8,.func (.func 146) (List.toArray [.pointer (some p0)]) (List.toArray []))] (e.kind))=.tuple (List.toArray [.nilFunc,.bool false]) from hf103_))
 refine go he hm fun a he =>?_
 replace hm:=hm.dl [1,0]
 refine Ret1 hQ he hm ?_
 have hr_:z0c T e s=((⟨#[]⟩:ByteArray),s):=by rw [z8q T e s h63 h68 h73 h78 h83 h88 h93 h98];rfl
 show _∧_;rw [hr_];exact ⟨rfl,hm⟩
theorem typed_ok {T:Table} (hT:∀n f,lget T.funs n=some f→f.params.length≤1000) {Φ:Fz} {K:List Res} {w:World} {p:Addr} {d:List Value} {e:Ex} {b:Nat} {s:Scope} (rT:RTable Φ p T) (re:REx Φ d e) (hm:Mem Φ (.mp b (smap s)::K) w) :
  Calls Tryz.prog 86 (List.toArray [.pointer (some p),.agg d.toArray,.map (some b)]) w (fun ee w'=>ee=.returned (.string (z0c T e s).1)∧Mem Φ (.mp b (smap (z0c T e s).2)::K) w'):=by
 suffices H:∀n (e:Ex),e.sz < n→∀{Φ:Fz} {K:List Res} {w:World} {p:Addr} {d:List Value} {b:Nat} {s:Scope},RTable Φ p T→REx Φ d e→Mem Φ (.mp b (smap s)::K) w →
   Calls Tryz.prog 86 (List.toArray [.pointer (some p),.agg d.toArray,.map (some b)]) w (fun ee w'=>ee=.returned (.string (z0c T e s).1)∧Mem Φ (.mp b (smap (z0c T e s).2)::K) w') from H _ e (Nat.lt_succ_self _) rT re hm
 intro n
 induction n with
 | zero=>intro e h;omega
 | succ n ih=>intro e h Φ K w p d b s rT re hm;exact typed_step rT re hT (fun x hx _ _ _ _ _ _ _ r1 r2 m=>ih x (by omega) r1 r2 m) hm
end Go.Sw
