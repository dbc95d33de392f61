import Derived.Test.YtgkhcfjooiekkaaGreatDoorProg
import Derived.Test.YtgkhcfjooiekkaaGreatDoorX02
import Derived.Test.YtgkhcfjooiekkaaGreatDoorX04
import Derived.Test.YtgkhcfjooiekkaaGreatDoorX07
set_option linter.unusedVariables false
set_option linter.unusedSimpArgs false
namespace Go.Sw
open Go.Proofs.Tryz
open Go.Proofs
set_option maxRecDepth 20000
set_option maxHeartbeats 4000000
theorem long_datas {c:Core} (h:z4y c=false):c.datas.length≤60:=by
 simp only [z4y,Bool.or_eq_false_iff,decide_eq_false_iff_not] at h;omega
theorem tabledX_ok {Φ:Fz} {K:List Res} {w:World} {d0:List Value} {c:Core} {v:Value} (rpc:RCoreX Φ d0 c v) (hlong:z4y c=false) (G:Glob Φ) (hm:Mem Φ K w) :
  Calls Tryz.prog 153 (List.toArray [.agg d0.toArray]) w (fun ee w'=>∃y:Fz×Addr,ee=.returned (.tuple (List.toArray [.pointer (some y.2),.bool (z4s c)]))∧(Φ.Le y.1∧RTableX y.1 y.2 (z0f c) v)∧Mem y.1 K w'):=by
 obtain ⟨s1,s2,s3,q4,cc5,rfl,rfl,h6,h7,h8⟩:=id rpc
 obtain ⟨p9,c10,rfl,hm11,hn12⟩:=h6.fm
 obtain ⟨p13,c14,rfl,hm15,hn16⟩:=h7.fm
 obtain ⟨p17,c18,rfl,hm19,hn20⟩:=h8.fm
 refine z0l func153 ntmps153 fun Q hQ a he =>?_
 refine Bx he hm fun b22 w hm a he =>?_
 refine MkM he hm fun b24 w hm a he =>?_
 refine MkM he hm fun b25 w hm a he =>?_
 refine MkM he hm fun b26 w hm a he =>?_
 refine MkM he hm fun b27 w hm a he =>?_
 refine BldT he hm fun a he =>?_
 refine Bx he hm fun b28 w hm a he =>?_
 refine go he hm fun a he =>?_
 refine z1v [0,0,1,2,0,1,1] (.q 2 (.q 3 (.q 6 (.e 0 (.e 1 (.e 4 (.q 5 (.done)))))))) [0,1,2,3,4,5] he hm fun w hm =>?_
 refine z2i call188 he hm (fun y32 w hG33 hm a he =>?_) (c:=truths_ok hm)
 obtain ⟨Ψ34,d35⟩:=y32
 obtain ⟨le36,hr37⟩:=hG33
 simp only at le36 hr37 hm he
 replace h6:=h6.up le36
 replace h7:=h7.up le36
 replace h8:=h8.up le36
 replace rpc:=rpc.mono le36
 replace G:=G.mono le36
 replace hm:=hm.nf
 obtain ⟨s38,rfl,h39⟩:=id hr37
 obtain ⟨p40,c41,rfl,hm42,hn43⟩:=h39.fm
 refine BldS he hm fun v44 w hm a he =>?_
 obtain ⟨cs46,hrow47,hch48⟩:=id h6
 refine App_ 0 rt_22 he hm (fun v45 w hm a he =>?_) (hr:=hrow47.rowIn hm.toSees) (h1:=hch48.ones RData.ones) (hb:=by have h_:=hch48.length;have h2_:=long_datas hlong;rw [h_];simp only [List.length_cons,List.length_nil];omega)
 have hm0_:=hm
 clear hm
 obtain ⟨Ψ49,le50,hm,hrow51⟩:=hm0_.freezeRow (i:=0) rfl
 clear hm0_
 replace h7:=h7.up le50
 replace h8:=h8.up le50
 replace rpc:=rpc.mono le50
 replace G:=G.mono le50
 replace hr37:=RData.mono _ _ _ _ le50 hr37
 replace hch48:=hch48.mono fun _ _ h=>RData.mono _ _ _ _ le50 h
 replace hm:=hm.nf
 have hsl52:SliceOf RData Ψ49 2 _ (truthsD::c.datas):=⟨_,hrow51,⟨_,_,rfl,rfl,hr37,hch48⟩⟩
 obtain ⟨p53,c54,hv_,hm55,hn56⟩:=hsl52.form (by decide)
 have hmk_:=hm
 clear hm
 subst hv_
 have hm:=hmk_
 clear hmk_
 refine go he hm fun a he =>?_
 refine z1i (he.ks [1,4,25,26]) hm (fun R mm a w=>∃(i:Nat) (o:Bool) (m0:List (Bs×Value)) (l0:List (Bs×Data)) (m1:List (Bs×Value)) (l1:List (Bs×Maker)),mm=(truthsD::c.datas).length - i∧R Ψ49 [(5,.bool o),(27,.int .i64 ((i:Nat):Int))] [(3,.mp b25 m1),(4,.mp b24 m0)] a w∧(tabD true [] [] (truthsD::c.datas)=tabD o l0 l1 ((truthsD::c.datas).drop i)∧MapRel (RVa RData Ψ49) m0 l0∧MapRel (RVa RMaker Ψ49) m1 l1)) ((truthsD::c.datas).length - 0) ⟨0,true,[],[],[],[],rfl,⟨he.pk,hm⟩,⟨rfl,MapRel.nil,MapRel.nil⟩⟩ ?_
 clear hm he
 rintro mm a w ⟨i,o,m0,l0,m1,l1,hmu,⟨he,hm⟩,hI58⟩ L57 hL57
 replace hm:=hm.nf
 obtain ⟨hI58,r0,r1⟩:=hI58
 refine go he hm fun a he =>?_
 by_cases h60:i < (truthsD::c.datas).length
 refine go he hm fun a he =>?_
 obtain ⟨q64,rfl,x65,hx66,cs67,hl68,ha69,hr70⟩:=hsl52.el hn56 h60
 obtain ⟨s71,rfl,h72⟩:=id hr70
 obtain ⟨p73,c74,rfl,hm75,hn76⟩:=h72.fm
 refine Alc he hm fun b77 w hm a he =>?_
 refine Sto 0 he hm fun w hm a he =>?_
 refine Reg [1,1,1,2,0,1,1,1,2,1,1,1,1,1,1,2,1,2,2,0,1,1,1,2,1,1,1,1] [0,1,2,3,4,6] he hm fun w hm a he =>?_
 refine go he hm fun a he =>?_
 cases o
 refine go he hm fun a he =>?_
 refine z1i (he.ks [1,4,7,25,26,27,59,60]) hm (fun R mm a w=>∃(k:Nat) (o2:Bool) (m1b:List (Bs×Value)) (l1b:List (Bs×Maker)),mm=x65.cons.length - k∧R Ψ49 [(5,.bool o2),(61,.int .i64 ((k:Nat):Int))] [(4,.mp b25 m1b)] a w∧(tabC x65.name false l1 x65.cons=tabC x65.name o2 l1b (x65.cons.drop k)∧MapRel (RVa RMaker Ψ49) m1b l1b)) (x65.cons.length - 0) ⟨0,false,m1,l1,rfl,⟨he.pk,hm⟩,⟨rfl,r1⟩⟩ ?_
 clear hm he
 rintro mm a w ⟨k,o2,m1b,l1b,hmu,⟨he,hm⟩,hI81⟩ L80 hL80
 replace hm:=hm.nf
 obtain ⟨hI81,r1b⟩:=hI81
 refine go he hm fun a he =>?_
 by_cases h83:k < x65.cons.length
 refine go he hm fun a he =>?_
 obtain ⟨q87,rfl,x88,hx89,cs90,hl91,ha92,hr93⟩:=h72.el hn76 h83
 obtain ⟨s94,rfl,h95⟩:=id hr93
 obtain ⟨p96,c97,rfl,hm98,hn99⟩:=h95.fm
 refine Alc he hm fun b100 w hm a he =>?_
 refine Sto 0 he hm fun w hm a he =>?_
 refine Reg [1,1,1,2,0,1,1,1,1,1,2,1,2,1,2,2,1,0,1,1] [0,1,2,3,4,6,7] he hm fun w hm a he =>?_
 refine go he hm fun a he =>?_
 cases o2
 refine go he hm fun a he =>?_
 replace hm:=hm.dl [0]
 refine hL80 _ _ _ (by subst hmu;omega) ⟨(k+1),(false),(m1b),(l1b),rfl,⟨he.pk,hm⟩,?_⟩
 refine ⟨?_,r1b⟩
 rw [hI81,z0a hx89];simp [tabC, *]
 refine z1n call178 he hm (fun hB101 w hm a he =>?_) (fun hB101 w hm a he =>?_) (c:=z6d G hm)
 refine BldT he hm fun a he =>?_
 replace hm:=hm.pl 5
 refine z1n call191 he hm (fun hB102 w hm a he =>?_) (fun hB102 w hm a he =>?_) (c:=z4z (m:=m1b) (l:=l1b) (x:=(⟨x65.name,x88⟩:Maker)) r1b (show RMaker Ψ49 _ (⟨x65.name,x88⟩:Maker) from ⟨_,rfl,hr93⟩) hm)
 replace hm:=hm.nf
 obtain ⟨M103,hM_⟩:∃M_,M_=(z5l m1b x88.name (.agg (List.toArray [.string x65.name,.string x88.name,.slice p96 x88.fields.length c97]))):=⟨_,rfl⟩
 have r104:MapRel (RVa RMaker Ψ49) M103 (z2z l1b x88.name (⟨x65.name,x88⟩:Maker)):=by rw [hM_];exact (MapRel.once r1b ⟨_,rfl,(show RMaker Ψ49 _ (⟨x65.name,x88⟩:Maker) from ⟨_,rfl,hr93⟩)⟩)
 rw [← hM_] at hm
 clear hM_
 refine go he hm fun a he =>?_
 replace hm:=hm.ar [1] [6,6,2,6,6,6,6]
 refine hL80 _ _ _ (by subst hmu;omega) ⟨(k+1),(true),(M103),((z2z l1b x88.name (⟨x65.name,x88⟩:Maker))),rfl,⟨he.pk,hm⟩,?_⟩
 refine ⟨?_,r104⟩
 rw [hI81,z0a hx89];simp [tabC, *]
 replace hm:=hm.nf
 obtain ⟨M105,hM_⟩:∃M_,M_=(z5l m1b x88.name (.agg (List.toArray [.string x65.name,.string x88.name,.slice p96 x88.fields.length c97]))):=⟨_,rfl⟩
 have r106:MapRel (RVa RMaker Ψ49) M105 (z2z l1b x88.name (⟨x65.name,x88⟩:Maker)):=by rw [hM_];exact (MapRel.once r1b ⟨_,rfl,(show RMaker Ψ49 _ (⟨x65.name,x88⟩:Maker) from ⟨_,rfl,hr93⟩)⟩)
 rw [← hM_] at hm
 clear hM_
 refine go he hm fun a he =>?_
 replace hm:=hm.ar [1] [6,6,2,6,6,6,6]
 refine hL80 _ _ _ (by subst hmu;omega) ⟨(k+1),(false),(M105),((z2z l1b x88.name (⟨x65.name,x88⟩:Maker))),rfl,⟨he.pk,hm⟩,?_⟩
 refine ⟨?_,r106⟩
 rw [hI81,z0a hx89];simp [tabC, *]
 refine go he hm fun a he =>?_
 replace hm:=hm.dl [0]
 refine hL80 _ _ _ (by subst hmu;omega) ⟨(k+1),(false),(m1b),(l1b),rfl,⟨he.pk,hm⟩,?_⟩
 refine ⟨?_,r1b⟩
 rw [hI81,z0a hx89];simp [tabC, *]
 refine go he hm fun a he =>?_
 replace hm:=hm.dl [0]
 refine hL57 _ _ _ (by subst hmu;omega) ⟨(i+1),(o2),(m0),(l0),(m1b),(l1b),rfl,⟨he.pk,hm⟩,?_⟩
 refine ⟨?_,r0,r1b⟩
 rw [z0g h83] at hI81
 rw [hI58,z0a hx66,y0c]
 simp only [tabC] at hI81
 have ht1_:tabOk false l0 x65=false:=by simp [tabOk,sInt, *]
 have ht2_:z7i false l0 x65=l0:=by simp [z7i,sInt, *]
 rw [ht1_,ht2_,hI81]
 refine z1n call178 he hm (fun hB108 w hm a he =>?_) (fun hB108 w hm a he =>?_) (c:=z6d G hm)
 refine go he hm fun a he =>?_
 by_cases h109:x65.name=(⟨#[73,110,116]⟩:ByteArray)
 refine go he hm fun a he =>?_
 refine z1i (he.ks [1,4,7,25,26,27,59,60]) hm (fun R mm a w=>∃(k:Nat) (o2:Bool) (m1b:List (Bs×Value)) (l1b:List (Bs×Maker)),mm=x65.cons.length - k∧R Ψ49 [(5,.bool o2),(61,.int .i64 ((k:Nat):Int))] [(4,.mp b25 m1b)] a w∧(tabC x65.name false l1 x65.cons=tabC x65.name o2 l1b (x65.cons.drop k)∧MapRel (RVa RMaker Ψ49) m1b l1b)) (x65.cons.length - 0) ⟨0,false,m1,l1,rfl,⟨he.pk,hm⟩,⟨rfl,r1⟩⟩ ?_
 clear hm he
 rintro mm a w ⟨k,o2,m1b,l1b,hmu,⟨he,hm⟩,hI112⟩ L111 hL111
 replace hm:=hm.nf
 obtain ⟨hI112,r1b⟩:=hI112
 refine go he hm fun a he =>?_
 by_cases h114:k < x65.cons.length
 refine go he hm fun a he =>?_
 obtain ⟨q118,rfl,x119,hx120,cs121,hl122,ha123,hr124⟩:=h72.el hn76 h114
 obtain ⟨s125,rfl,h126⟩:=id hr124
 obtain ⟨p127,c128,rfl,hm129,hn130⟩:=h126.fm
 refine Alc he hm fun b131 w hm a he =>?_
 refine Sto 0 he hm fun w hm a he =>?_
 refine Reg [1,1,1,2,0,1,1,1,1,1,2,1,2,1,2,2,1,0,1,1] [0,1,2,3,4,6,7] he hm fun w hm a he =>?_
 refine go he hm fun a he =>?_
 cases o2
 refine go he hm fun a he =>?_
 replace hm:=hm.dl [0]
 refine hL111 _ _ _ (by subst hmu;omega) ⟨(k+1),(false),(m1b),(l1b),rfl,⟨he.pk,hm⟩,?_⟩
 refine ⟨?_,r1b⟩
 rw [hI112,z0a hx120];simp [tabC, *]
 refine z1n call178 he hm (fun hB132 w hm a he =>?_) (fun hB132 w hm a he =>?_) (c:=z6d G hm)
 refine BldT he hm fun a he =>?_
 replace hm:=hm.pl 5
 refine z1n call191 he hm (fun hB133 w hm a he =>?_) (fun hB133 w hm a he =>?_) (c:=z4z (m:=m1b) (l:=l1b) (x:=(⟨x65.name,x119⟩:Maker)) r1b (show RMaker Ψ49 _ (⟨x65.name,x119⟩:Maker) from ⟨_,rfl,hr124⟩) hm)
 replace hm:=hm.nf
 obtain ⟨M134,hM_⟩:∃M_,M_=(z5l m1b x119.name (.agg (List.toArray [.string x65.name,.string x119.name,.slice p127 x119.fields.length c128]))):=⟨_,rfl⟩
 have r135:MapRel (RVa RMaker Ψ49) M134 (z2z l1b x119.name (⟨x65.name,x119⟩:Maker)):=by rw [hM_];exact (MapRel.once r1b ⟨_,rfl,(show RMaker Ψ49 _ (⟨x65.name,x119⟩:Maker) from ⟨_,rfl,hr124⟩)⟩)
 rw [← hM_] at hm
 clear hM_
 refine go he hm fun a he =>?_
 replace hm:=hm.ar [1] [6,6,2,6,6,6,6]
 refine hL111 _ _ _ (by subst hmu;omega) ⟨(k+1),(true),(M134),((z2z l1b x119.name (⟨x65.name,x119⟩:Maker))),rfl,⟨he.pk,hm⟩,?_⟩
 refine ⟨?_,r135⟩
 rw [hI112,z0a hx120];simp [tabC, *]
 replace hm:=hm.nf
 obtain ⟨M136,hM_⟩:∃M_,M_=(z5l m1b x119.name (.agg (List.toArray [.string x65.name,.string x119.name,.slice p127 x119.fields.length c128]))):=⟨_,rfl⟩
 have r137:MapRel (RVa RMaker Ψ49) M136 (z2z l1b x119.name (⟨x65.name,x119⟩:Maker)):=by rw [hM_];exact (MapRel.once r1b ⟨_,rfl,(show RMaker Ψ49 _ (⟨x65.name,x119⟩:Maker) from ⟨_,rfl,hr124⟩)⟩)
 rw [← hM_] at hm
 clear hM_
 refine go he hm fun a he =>?_
 replace hm:=hm.ar [1] [6,6,2,6,6,6,6]
 refine hL111 _ _ _ (by subst hmu;omega) ⟨(k+1),(false),(M136),((z2z l1b x119.name (⟨x65.name,x119⟩:Maker))),rfl,⟨he.pk,hm⟩,?_⟩
 refine ⟨?_,r137⟩
 rw [hI112,z0a hx120];simp [tabC, *]
 refine go he hm fun a he =>?_
 replace hm:=hm.dl [0]
 refine hL111 _ _ _ (by subst hmu;omega) ⟨(k+1),(false),(m1b),(l1b),rfl,⟨he.pk,hm⟩,?_⟩
 refine ⟨?_,r1b⟩
 rw [hI112,z0a hx120];simp [tabC, *]
 refine go he hm fun a he =>?_
 replace hm:=hm.dl [0]
 refine hL57 _ _ _ (by subst hmu;omega) ⟨(i+1),(o2),(m0),(l0),(m1b),(l1b),rfl,⟨he.pk,hm⟩,?_⟩
 refine ⟨?_,r0,r1b⟩
 rw [z0g h114] at hI112
 rw [hI58,z0a hx66,y0c]
 simp only [tabC] at hI112
 have ht1_:tabOk true l0 x65=false:=by simp [tabOk,sInt, *]
 have ht2_:z7i true l0 x65=l0:=by simp [z7i,sInt, *]
 rw [ht1_,ht2_,hI112]
 replace hm:=hm.pl 5
 refine z1n call190 he hm (fun hB139 w hm a he =>?_) (fun hB139 w hm a he =>?_) (c:=once_Data_ok (m:=m0) (l:=l0) (x:=x65) r0 hr70 hm)
 replace hm:=hm.nf
 obtain ⟨M140,hM_⟩:∃M_,M_=(z5l m0 x65.name (.agg (List.toArray [.string x65.name,.slice p73 x65.cons.length c74]))):=⟨_,rfl⟩
 have r141:MapRel (RVa RData Ψ49) M140 (z2z l0 x65.name x65):=by rw [hM_];exact (MapRel.once r0 ⟨_,rfl,hr70⟩)
 rw [← hM_] at hm
 clear hM_
 refine go he hm fun a he =>?_
 by_cases h142:0 < x65.cons.length
 refine go he hm fun a he =>?_
 refine z1i (he.ks [1,4,7,25,26,27,59,60]) hm (fun R mm a w=>∃(k:Nat) (o2:Bool) (m1b:List (Bs×Value)) (l1b:List (Bs×Maker)),mm=x65.cons.length - k∧R Ψ49 [(5,.bool o2),(61,.int .i64 ((k:Nat):Int))] [(5,.mp b25 m1b)] a w∧(tabC x65.name true l1 x65.cons=tabC x65.name o2 l1b (x65.cons.drop k)∧MapRel (RVa RMaker Ψ49) m1b l1b)) (x65.cons.length - 0) ⟨0,true,m1,l1,rfl,⟨he.pk,hm⟩,⟨rfl,r1⟩⟩ ?_
 clear hm he
 rintro mm a w ⟨k,o2,m1b,l1b,hmu,⟨he,hm⟩,hI145⟩ L144 hL144
 replace hm:=hm.nf
 obtain ⟨hI145,r1b⟩:=hI145
 refine go he hm fun a he =>?_
 by_cases h147:k < x65.cons.length
 refine go he hm fun a he =>?_
 obtain ⟨q151,rfl,x152,hx153,cs154,hl155,ha156,hr157⟩:=h72.el hn76 h147
 obtain ⟨s158,rfl,h159⟩:=id hr157
 obtain ⟨p160,c161,rfl,hm162,hn163⟩:=h159.fm
 refine Alc he hm fun b164 w hm a he =>?_
 refine Sto 0 he hm fun w hm a he =>?_
 refine Reg [1,1,1,2,0,1,1,1,1,1,2,1,2,1,2,2,1,0,1,1] [0,1,2,3,4,5,7] he hm fun w hm a he =>?_
 refine go he hm fun a he =>?_
 cases o2
 refine go he hm fun a he =>?_
 replace hm:=hm.dl [0]
 refine hL144 _ _ _ (by subst hmu;omega) ⟨(k+1),(false),(m1b),(l1b),rfl,⟨he.pk,hm⟩,?_⟩
 refine ⟨?_,r1b⟩
 rw [hI145,z0a hx153];simp [tabC, *]
 refine z1n call178 he hm (fun hB165 w hm a he =>?_) (fun hB165 w hm a he =>?_) (c:=z6d G hm)
 refine BldT he hm fun a he =>?_
 replace hm:=hm.pl 6
 refine z1n call191 he hm (fun hB166 w hm a he =>?_) (fun hB166 w hm a he =>?_) (c:=z4z (m:=m1b) (l:=l1b) (x:=(⟨x65.name,x152⟩:Maker)) r1b (show RMaker Ψ49 _ (⟨x65.name,x152⟩:Maker) from ⟨_,rfl,hr157⟩) hm)
 replace hm:=hm.nf
 obtain ⟨M167,hM_⟩:∃M_,M_=(z5l m1b x152.name (.agg (List.toArray [.string x65.name,.string x152.name,.slice p160 x152.fields.length c161]))):=⟨_,rfl⟩
 have r168:MapRel (RVa RMaker Ψ49) M167 (z2z l1b x152.name (⟨x65.name,x152⟩:Maker)):=by rw [hM_];exact (MapRel.once r1b ⟨_,rfl,(show RMaker Ψ49 _ (⟨x65.name,x152⟩:Maker) from ⟨_,rfl,hr157⟩)⟩)
 rw [← hM_] at hm
 clear hM_
 refine go he hm fun a he =>?_
 replace hm:=hm.ar [1] [6,1,6,6,6,6,6]
 refine hL144 _ _ _ (by subst hmu;omega) ⟨(k+1),(true),(M167),((z2z l1b x152.name (⟨x65.name,x152⟩:Maker))),rfl,⟨he.pk,hm⟩,?_⟩
 refine ⟨?_,r168⟩
 rw [hI145,z0a hx153];simp [tabC, *]
 replace hm:=hm.nf
 obtain ⟨M169,hM_⟩:∃M_,M_=(z5l m1b x152.name (.agg (List.toArray [.string x65.name,.string x152.name,.slice p160 x152.fields.length c161]))):=⟨_,rfl⟩
 have r170:MapRel (RVa RMaker Ψ49) M169 (z2z l1b x152.name (⟨x65.name,x152⟩:Maker)):=by rw [hM_];exact (MapRel.once r1b ⟨_,rfl,(show RMaker Ψ49 _ (⟨x65.name,x152⟩:Maker) from ⟨_,rfl,hr157⟩)⟩)
 rw [← hM_] at hm
 clear hM_
 refine go he hm fun a he =>?_
 replace hm:=hm.ar [1] [6,1,6,6,6,6,6]
 refine hL144 _ _ _ (by subst hmu;omega) ⟨(k+1),(false),(M169),((z2z l1b x152.name (⟨x65.name,x152⟩:Maker))),rfl,⟨he.pk,hm⟩,?_⟩
 refine ⟨?_,r170⟩
 rw [hI145,z0a hx153];simp [tabC, *]
 refine go he hm fun a he =>?_
 replace hm:=hm.dl [0]
 refine hL144 _ _ _ (by subst hmu;omega) ⟨(k+1),(false),(m1b),(l1b),rfl,⟨he.pk,hm⟩,?_⟩
 refine ⟨?_,r1b⟩
 rw [hI145,z0a hx153];simp [tabC, *]
 refine go he hm fun a he =>?_
 replace hm:=hm.ar [1] [5,1,5,5,5,5]
 refine hL57 _ _ _ (by subst hmu;omega) ⟨(i+1),(o2),(M140),((z2z l0 x65.name x65)),(m1b),(l1b),rfl,⟨he.pk,hm⟩,?_⟩
 refine ⟨?_,r141,r1b⟩
 rw [z0g h147] at hI145
 rw [hI58,z0a hx66,y0c]
 simp only [tabC] at hI145
 have ht1_:tabOk true l0 x65=true:=by simp [tabOk,sInt, *]
 have ht2_:z7i true l0 x65=(z2z l0 x65.name x65):=by simp [z7i,sInt, *]
 rw [ht1_,ht2_,hI145]
 refine go he hm fun a he =>?_
 refine z1i (he.ks [1,4,7,25,26,27,59,60]) hm (fun R mm a w=>∃(k:Nat) (o2:Bool) (m1b:List (Bs×Value)) (l1b:List (Bs×Maker)),mm=x65.cons.length - k∧R Ψ49 [(5,.bool o2),(61,.int .i64 ((k:Nat):Int))] [(5,.mp b25 m1b)] a w∧(tabC x65.name false l1 x65.cons=tabC x65.name o2 l1b (x65.cons.drop k)∧MapRel (RVa RMaker Ψ49) m1b l1b)) (x65.cons.length - 0) ⟨0,false,m1,l1,rfl,⟨he.pk,hm⟩,⟨rfl,r1⟩⟩ ?_
 clear hm he
 rintro mm a w ⟨k,o2,m1b,l1b,hmu,⟨he,hm⟩,hI174⟩ L173 hL173
 replace hm:=hm.nf
 obtain ⟨hI174,r1b⟩:=hI174
 refine go he hm fun a he =>?_
 by_cases h176:k < x65.cons.length
 refine go he hm fun a he =>?_
 obtain ⟨q180,rfl,x181,hx182,cs183,hl184,ha185,hr186⟩:=h72.el hn76 h176
 obtain ⟨s187,rfl,h188⟩:=id hr186
 obtain ⟨p189,c190,rfl,hm191,hn192⟩:=h188.fm
 refine Alc he hm fun b193 w hm a he =>?_
 refine Sto 0 he hm fun w hm a he =>?_
 refine Reg [1,1,1,2,0,1,1,1,1,1,2,1,2,1,2,2,1,0,1,1] [0,1,2,3,4,5,7] he hm fun w hm a he =>?_
 refine go he hm fun a he =>?_
 cases o2
 refine go he hm fun a he =>?_
 replace hm:=hm.dl [0]
 refine hL173 _ _ _ (by subst hmu;omega) ⟨(k+1),(false),(m1b),(l1b),rfl,⟨he.pk,hm⟩,?_⟩
 refine ⟨?_,r1b⟩
 rw [hI174,z0a hx182];simp [tabC, *]
 refine z1n call178 he hm (fun hB194 w hm a he =>?_) (fun hB194 w hm a he =>?_) (c:=z6d G hm)
 refine BldT he hm fun a he =>?_
 replace hm:=hm.pl 6
 refine z1n call191 he hm (fun hB195 w hm a he =>?_) (fun hB195 w hm a he =>?_) (c:=z4z (m:=m1b) (l:=l1b) (x:=(⟨x65.name,x181⟩:Maker)) r1b (show RMaker Ψ49 _ (⟨x65.name,x181⟩:Maker) from ⟨_,rfl,hr186⟩) hm)
 replace hm:=hm.nf
 obtain ⟨M196,hM_⟩:∃M_,M_=(z5l m1b x181.name (.agg (List.toArray [.string x65.name,.string x181.name,.slice p189 x181.fields.length c190]))):=⟨_,rfl⟩
 have r197:MapRel (RVa RMaker Ψ49) M196 (z2z l1b x181.name (⟨x65.name,x181⟩:Maker)):=by rw [hM_];exact (MapRel.once r1b ⟨_,rfl,(show RMaker Ψ49 _ (⟨x65.name,x181⟩:Maker) from ⟨_,rfl,hr186⟩)⟩)
 rw [← hM_] at hm
 clear hM_
 refine go he hm fun a he =>?_
 replace hm:=hm.ar [1] [6,1,6,6,6,6,6]
 refine hL173 _ _ _ (by subst hmu;omega) ⟨(k+1),(true),(M196),((z2z l1b x181.name (⟨x65.name,x181⟩:Maker))),rfl,⟨he.pk,hm⟩,?_⟩
 refine ⟨?_,r197⟩
 rw [hI174,z0a hx182];simp [tabC, *]
 replace hm:=hm.nf
 obtain ⟨M198,hM_⟩:∃M_,M_=(z5l m1b x181.name (.agg (List.toArray [.string x65.name,.string x181.name,.slice p189 x181.fields.length c190]))):=⟨_,rfl⟩
 have r199:MapRel (RVa RMaker Ψ49) M198 (z2z l1b x181.name (⟨x65.name,x181⟩:Maker)):=by rw [hM_];exact (MapRel.once r1b ⟨_,rfl,(show RMaker Ψ49 _ (⟨x65.name,x181⟩:Maker) from ⟨_,rfl,hr186⟩)⟩)
 rw [← hM_] at hm
 clear hM_
 refine go he hm fun a he =>?_
 replace hm:=hm.ar [1] [6,1,6,6,6,6,6]
 refine hL173 _ _ _ (by subst hmu;omega) ⟨(k+1),(false),(M198),((z2z l1b x181.name (⟨x65.name,x181⟩:Maker))),rfl,⟨he.pk,hm⟩,?_⟩
 refine ⟨?_,r199⟩
 rw [hI174,z0a hx182];simp [tabC, *]
 refine go he hm fun a he =>?_
 replace hm:=hm.dl [0]
 refine hL173 _ _ _ (by subst hmu;omega) ⟨(k+1),(false),(m1b),(l1b),rfl,⟨he.pk,hm⟩,?_⟩
 refine ⟨?_,r1b⟩
 rw [hI174,z0a hx182];simp [tabC, *]
 refine go he hm fun a he =>?_
 replace hm:=hm.ar [1] [5,1,5,5,5,5]
 refine hL57 _ _ _ (by subst hmu;omega) ⟨(i+1),(o2),(M140),((z2z l0 x65.name x65)),(m1b),(l1b),rfl,⟨he.pk,hm⟩,?_⟩
 refine ⟨?_,r141,r1b⟩
 rw [z0g h176] at hI174
 rw [hI58,z0a hx66,y0c]
 simp only [tabC] at hI174
 have ht1_:tabOk true l0 x65=false:=by simp [tabOk,sInt, *]
 have ht2_:z7i true l0 x65=(z2z l0 x65.name x65):=by simp [z7i,sInt, *]
 rw [ht1_,ht2_,hI174]
 replace hm:=hm.nf
 obtain ⟨M201,hM_⟩:∃M_,M_=(z5l m0 x65.name (.agg (List.toArray [.string x65.name,.slice p73 x65.cons.length c74]))):=⟨_,rfl⟩
 have r202:MapRel (RVa RData Ψ49) M201 (z2z l0 x65.name x65):=by rw [hM_];exact (MapRel.once r0 ⟨_,rfl,hr70⟩)
 rw [← hM_] at hm
 clear hM_
 refine go he hm fun a he =>?_
 refine z1i (he.ks [1,4,7,25,26,27,59,60]) hm (fun R mm a w=>∃(k:Nat) (o2:Bool) (m1b:List (Bs×Value)) (l1b:List (Bs×Maker)),mm=x65.cons.length - k∧R Ψ49 [(5,.bool o2),(61,.int .i64 ((k:Nat):Int))] [(5,.mp b25 m1b)] a w∧(tabC x65.name false l1 x65.cons=tabC x65.name o2 l1b (x65.cons.drop k)∧MapRel (RVa RMaker Ψ49) m1b l1b)) (x65.cons.length - 0) ⟨0,false,m1,l1,rfl,⟨he.pk,hm⟩,⟨rfl,r1⟩⟩ ?_
 clear hm he
 rintro mm a w ⟨k,o2,m1b,l1b,hmu,⟨he,hm⟩,hI205⟩ L204 hL204
 replace hm:=hm.nf
 obtain ⟨hI205,r1b⟩:=hI205
 refine go he hm fun a he =>?_
 by_cases h207:k < x65.cons.length
 refine go he hm fun a he =>?_
 obtain ⟨q211,rfl,x212,hx213,cs214,hl215,ha216,hr217⟩:=h72.el hn76 h207
 obtain ⟨s218,rfl,h219⟩:=id hr217
 obtain ⟨p220,c221,rfl,hm222,hn223⟩:=h219.fm
 refine Alc he hm fun b224 w hm a he =>?_
 refine Sto 0 he hm fun w hm a he =>?_
 refine Reg [1,1,1,2,0,1,1,1,1,1,2,1,2,1,2,2,1,0,1,1] [0,1,2,3,4,5,7] he hm fun w hm a he =>?_
 refine go he hm fun a he =>?_
 cases o2
 refine go he hm fun a he =>?_
 replace hm:=hm.dl [0]
 refine hL204 _ _ _ (by subst hmu;omega) ⟨(k+1),(false),(m1b),(l1b),rfl,⟨he.pk,hm⟩,?_⟩
 refine ⟨?_,r1b⟩
 rw [hI205,z0a hx213];simp [tabC, *]
 refine z1n call178 he hm (fun hB225 w hm a he =>?_) (fun hB225 w hm a he =>?_) (c:=z6d G hm)
 refine BldT he hm fun a he =>?_
 replace hm:=hm.pl 6
 refine z1n call191 he hm (fun hB226 w hm a he =>?_) (fun hB226 w hm a he =>?_) (c:=z4z (m:=m1b) (l:=l1b) (x:=(⟨x65.name,x212⟩:Maker)) r1b (show RMaker Ψ49 _ (⟨x65.name,x212⟩:Maker) from ⟨_,rfl,hr217⟩) hm)
 replace hm:=hm.nf
 obtain ⟨M227,hM_⟩:∃M_,M_=(z5l m1b x212.name (.agg (List.toArray [.string x65.name,.string x212.name,.slice p220 x212.fields.length c221]))):=⟨_,rfl⟩
 have r228:MapRel (RVa RMaker Ψ49) M227 (z2z l1b x212.name (⟨x65.name,x212⟩:Maker)):=by rw [hM_];exact (MapRel.once r1b ⟨_,rfl,(show RMaker Ψ49 _ (⟨x65.name,x212⟩:Maker) from ⟨_,rfl,hr217⟩)⟩)
 rw [← hM_] at hm
 clear hM_
 refine go he hm fun a he =>?_
 replace hm:=hm.ar [1] [6,1,6,6,6,6,6]
 refine hL204 _ _ _ (by subst hmu;omega) ⟨(k+1),(true),(M227),((z2z l1b x212.name (⟨x65.name,x212⟩:Maker))),rfl,⟨he.pk,hm⟩,?_⟩
 refine ⟨?_,r228⟩
 rw [hI205,z0a hx213];simp [tabC, *]
 replace hm:=hm.nf
 obtain ⟨M229,hM_⟩:∃M_,M_=(z5l m1b x212.name (.agg (List.toArray [.string x65.name,.string x212.name,.slice p220 x212.fields.length c221]))):=⟨_,rfl⟩
 have r230:MapRel (RVa RMaker Ψ49) M229 (z2z l1b x212.name (⟨x65.name,x212⟩:Maker)):=by rw [hM_];exact (MapRel.once r1b ⟨_,rfl,(show RMaker Ψ49 _ (⟨x65.name,x212⟩:Maker) from ⟨_,rfl,hr217⟩)⟩)
 rw [← hM_] at hm
 clear hM_
 refine go he hm fun a he =>?_
 replace hm:=hm.ar [1] [6,1,6,6,6,6,6]
 refine hL204 _ _ _ (by subst hmu;omega) ⟨(k+1),(false),(M229),((z2z l1b x212.name (⟨x65.name,x212⟩:Maker))),rfl,⟨he.pk,hm⟩,?_⟩
 refine ⟨?_,r230⟩
 rw [hI205,z0a hx213];simp [tabC, *]
 refine go he hm fun a he =>?_
 replace hm:=hm.dl [0]
 refine hL204 _ _ _ (by subst hmu;omega) ⟨(k+1),(false),(m1b),(l1b),rfl,⟨he.pk,hm⟩,?_⟩
 refine ⟨?_,r1b⟩
 rw [hI205,z0a hx213];simp [tabC, *]
 refine go he hm fun a he =>?_
 replace hm:=hm.ar [1] [5,1,5,5,5,5]
 refine hL57 _ _ _ (by subst hmu;omega) ⟨(i+1),(o2),(M201),((z2z l0 x65.name x65)),(m1b),(l1b),rfl,⟨he.pk,hm⟩,?_⟩
 refine ⟨?_,r202,r1b⟩
 rw [z0g h207] at hI205
 rw [hI58,z0a hx66,y0c]
 simp only [tabC] at hI205
 have ht1_:tabOk true l0 x65=false:=by simp [tabOk,sInt, *]
 have ht2_:z7i true l0 x65=(z2z l0 x65.name x65):=by simp [z7i,sInt, *]
 rw [ht1_,ht2_,hI205]
 refine go he hm fun a he =>?_
 refine z1i (he.ks [1,4,7,25,26,27,59,60]) hm (fun R mm a w=>∃(k:Nat) (o2:Bool) (m1b:List (Bs×Value)) (l1b:List (Bs×Maker)),mm=x65.cons.length - k∧R Ψ49 [(5,.bool o2),(61,.int .i64 ((k:Nat):Int))] [(4,.mp b25 m1b)] a w∧(tabC x65.name false l1 x65.cons=tabC x65.name o2 l1b (x65.cons.drop k)∧MapRel (RVa RMaker Ψ49) m1b l1b)) (x65.cons.length - 0) ⟨0,false,m1,l1,rfl,⟨he.pk,hm⟩,⟨rfl,r1⟩⟩ ?_
 clear hm he
 rintro mm a w ⟨k,o2,m1b,l1b,hmu,⟨he,hm⟩,hI234⟩ L233 hL233
 replace hm:=hm.nf
 obtain ⟨hI234,r1b⟩:=hI234
 refine go he hm fun a he =>?_
 by_cases h236:k < x65.cons.length
 refine go he hm fun a he =>?_
 obtain ⟨q240,rfl,x241,hx242,cs243,hl244,ha245,hr246⟩:=h72.el hn76 h236
 obtain ⟨s247,rfl,h248⟩:=id hr246
 obtain ⟨p249,c250,rfl,hm251,hn252⟩:=h248.fm
 refine Alc he hm fun b253 w hm a he =>?_
 refine Sto 0 he hm fun w hm a he =>?_
 refine Reg [1,1,1,2,0,1,1,1,1,1,2,1,2,1,2,2,1,0,1,1] [0,1,2,3,4,6,7] he hm fun w hm a he =>?_
 refine go he hm fun a he =>?_
 cases o2
 refine go he hm fun a he =>?_
 replace hm:=hm.dl [0]
 refine hL233 _ _ _ (by subst hmu;omega) ⟨(k+1),(false),(m1b),(l1b),rfl,⟨he.pk,hm⟩,?_⟩
 refine ⟨?_,r1b⟩
 rw [hI234,z0a hx242];simp [tabC, *]
 refine z1n call178 he hm (fun hB254 w hm a he =>?_) (fun hB254 w hm a he =>?_) (c:=z6d G hm)
 refine BldT he hm fun a he =>?_
 replace hm:=hm.pl 5
 refine z1n call191 he hm (fun hB255 w hm a he =>?_) (fun hB255 w hm a he =>?_) (c:=z4z (m:=m1b) (l:=l1b) (x:=(⟨x65.name,x241⟩:Maker)) r1b (show RMaker Ψ49 _ (⟨x65.name,x241⟩:Maker) from ⟨_,rfl,hr246⟩) hm)
 replace hm:=hm.nf
 obtain ⟨M256,hM_⟩:∃M_,M_=(z5l m1b x241.name (.agg (List.toArray [.string x65.name,.string x241.name,.slice p249 x241.fields.length c250]))):=⟨_,rfl⟩
 have r257:MapRel (RVa RMaker Ψ49) M256 (z2z l1b x241.name (⟨x65.name,x241⟩:Maker)):=by rw [hM_];exact (MapRel.once r1b ⟨_,rfl,(show RMaker Ψ49 _ (⟨x65.name,x241⟩:Maker) from ⟨_,rfl,hr246⟩)⟩)
 rw [← hM_] at hm
 clear hM_
 refine go he hm fun a he =>?_
 replace hm:=hm.ar [1] [6,6,2,6,6,6,6]
 refine hL233 _ _ _ (by subst hmu;omega) ⟨(k+1),(true),(M256),((z2z l1b x241.name (⟨x65.name,x241⟩:Maker))),rfl,⟨he.pk,hm⟩,?_⟩
 refine ⟨?_,r257⟩
 rw [hI234,z0a hx242];simp [tabC, *]
 replace hm:=hm.nf
 obtain ⟨M258,hM_⟩:∃M_,M_=(z5l m1b x241.name (.agg (List.toArray [.string x65.name,.string x241.name,.slice p249 x241.fields.length c250]))):=⟨_,rfl⟩
 have r259:MapRel (RVa RMaker Ψ49) M258 (z2z l1b x241.name (⟨x65.name,x241⟩:Maker)):=by rw [hM_];exact (MapRel.once r1b ⟨_,rfl,(show RMaker Ψ49 _ (⟨x65.name,x241⟩:Maker) from ⟨_,rfl,hr246⟩)⟩)
 rw [← hM_] at hm
 clear hM_
 refine go he hm fun a he =>?_
 replace hm:=hm.ar [1] [6,6,2,6,6,6,6]
 refine hL233 _ _ _ (by subst hmu;omega) ⟨(k+1),(false),(M258),((z2z l1b x241.name (⟨x65.name,x241⟩:Maker))),rfl,⟨he.pk,hm⟩,?_⟩
 refine ⟨?_,r259⟩
 rw [hI234,z0a hx242];simp [tabC, *]
 refine go he hm fun a he =>?_
 replace hm:=hm.dl [0]
 refine hL233 _ _ _ (by subst hmu;omega) ⟨(k+1),(false),(m1b),(l1b),rfl,⟨he.pk,hm⟩,?_⟩
 refine ⟨?_,r1b⟩
 rw [hI234,z0a hx242];simp [tabC, *]
 refine go he hm fun a he =>?_
 replace hm:=hm.dl [0]
 refine hL57 _ _ _ (by subst hmu;omega) ⟨(i+1),(o2),(m0),(l0),(m1b),(l1b),rfl,⟨he.pk,hm⟩,?_⟩
 refine ⟨?_,r0,r1b⟩
 rw [z0g h236] at hI234
 rw [hI58,z0a hx66,y0c]
 simp only [tabC] at hI234
 have ht1_:tabOk true l0 x65=false:=by simp [tabOk,sInt, *]
 have ht2_:z7i true l0 x65=l0:=by simp [z7i,sInt, *]
 rw [ht1_,ht2_,hI234]
 refine go he hm fun a he =>?_
 have hD_:=hI58
 rw [z0g h60] at hD_
 simp only [tabD] at hD_
 refine go he hm fun a he =>?_
 refine z1i (he.ks [1,4,87,88]) hm (fun R mm a w=>∃(i:Nat) (oF:Bool) (m2:List (Bs×Value)) (l2:List (Bs×Fun)),mm=c.funs.length - i∧R Ψ49 [(5,.bool oF),(89,.int .i64 ((i:Nat):Int))] [(2,.mp b26 m2)] a w∧(tabF o [] c.funs=tabF oF l2 (c.funs.drop i)∧MapRel (RVa RFun Ψ49) m2 l2)) (c.funs.length - 0) ⟨0,o,[],[],rfl,⟨he.pk,hm⟩,⟨rfl,MapRel.nil⟩⟩ ?_
 clear hm he
 rintro mm a w ⟨i,oF,m2,l2,hmu,⟨he,hm⟩,hI265⟩ L264 hL264
 replace hm:=hm.nf
 obtain ⟨hI265,r2⟩:=hI265
 refine go he hm fun a he =>?_
 by_cases h267:i < c.funs.length
 refine go he hm fun a he =>?_
 obtain ⟨q271,rfl,x272,hx273,cs274,hl275,ha276,hr277⟩:=h8.el hn20 h267
 obtain ⟨s278,b284,rfl,h279,h285⟩:=id hr277
 obtain ⟨p280,c281,rfl,hm282,hn283⟩:=h279.fm
 obtain ⟨p288,c289,p294,c295,rfl,hi298,h287,h293,hm290,hn291,hm296,hn297⟩:=REx.fm h285
 refine Alc he hm fun b299 w hm a he =>?_
 refine Sto 0 he hm fun w hm a he =>?_
 refine Reg [1,1,1,2,0,1,1,1,1,1,2,1,2,2,0,1,1] [0,1,2,4,5,6] he hm fun w hm a he =>?_
 refine go he hm fun a he =>?_
 cases oF
 refine go he hm fun a he =>?_
 replace hm:=hm.dl [0]
 refine hL264 _ _ _ (by subst hmu;omega) ⟨(i+1),(false),(m2),(l2),rfl,⟨he.pk,hm⟩,?_⟩
 refine ⟨?_,r2⟩
 rw [hI265,z0a hx273];simp [tabF, *]
 refine z1n call138 he hm (fun hB300 w hm a he =>?_) (fun hB300 w hm a he =>?_) (c:=isName_ok G hm)
 replace hm:=hm.pl 3
 refine z1n call192 he hm (fun hB301 w hm a he =>?_) (fun hB301 w hm a he =>?_) (c:=once_Fun_ok (m:=m2) (l:=l2) (x:=x272) r2 hr277 hm)
 replace hm:=hm.nf
 obtain ⟨M302,hM_⟩:∃M_,M_=(z5l m2 x272.name (.agg (List.toArray [.string x272.name,.slice p280 x272.params.length c281,.string x272.result,.int .i64 (x272.body.kind),.int .i64 (x272.body.num),.string x272.body.name,.slice p288 x272.body.args.length c289,.slice p294 x272.body.arms.length c295]))):=⟨_,rfl⟩
 have r303:MapRel (RVa RFun Ψ49) M302 (z2z l2 x272.name x272):=by rw [hM_];exact (MapRel.once r2 ⟨_,rfl,hr277⟩)
 rw [← hM_] at hm
 clear hM_
 refine go he hm fun a he =>?_
 replace hm:=hm.ar [1] [5,5,5,3,5,5]
 refine hL264 _ _ _ (by subst hmu;omega) ⟨(i+1),(true),(M302),((z2z l2 x272.name x272)),rfl,⟨he.pk,hm⟩,?_⟩
 refine ⟨?_,r303⟩
 rw [hI265,z0a hx273];simp [tabF, *]
 replace hm:=hm.nf
 obtain ⟨M304,hM_⟩:∃M_,M_=(z5l m2 x272.name (.agg (List.toArray [.string x272.name,.slice p280 x272.params.length c281,.string x272.result,.int .i64 (x272.body.kind),.int .i64 (x272.body.num),.string x272.body.name,.slice p288 x272.body.args.length c289,.slice p294 x272.body.arms.length c295]))):=⟨_,rfl⟩
 have r305:MapRel (RVa RFun Ψ49) M304 (z2z l2 x272.name x272):=by rw [hM_];exact (MapRel.once r2 ⟨_,rfl,hr277⟩)
 rw [← hM_] at hm
 clear hM_
 refine go he hm fun a he =>?_
 replace hm:=hm.ar [1] [5,5,5,3,5,5]
 refine hL264 _ _ _ (by subst hmu;omega) ⟨(i+1),(false),(M304),((z2z l2 x272.name x272)),rfl,⟨he.pk,hm⟩,?_⟩
 refine ⟨?_,r305⟩
 rw [hI265,z0a hx273];simp [tabF, *]
 refine go he hm fun a he =>?_
 replace hm:=hm.dl [0]
 refine hL264 _ _ _ (by subst hmu;omega) ⟨(i+1),(false),(m2),(l2),rfl,⟨he.pk,hm⟩,?_⟩
 refine ⟨?_,r2⟩
 rw [hI265,z0a hx273];simp [tabF, *]
 refine go he hm fun a he =>?_
 have hF_:=hI265
 rw [z0g h267] at hF_
 simp only [tabF] at hF_
 refine go he hm fun a he =>?_
 refine z1i (he.ks [4,111,112]) hm (fun R mm a w=>∃(i:Nat) (oI:Bool) (m3:List (Bs×Value)) (l3:List (Bs×Bs)),mm=c.inputs.length - i∧R Ψ49 [(5,.bool oI),(113,.int .i64 ((i:Nat):Int))] [(1,.mp b27 m3)] a w∧(tabI oF [] c.inputs=tabI oI l3 (c.inputs.drop i)∧MapRel RVs m3 l3)) (c.inputs.length - 0) ⟨0,oF,[],[],rfl,⟨he.pk,hm⟩,⟨rfl,MapRel.nil⟩⟩ ?_
 clear hm he
 rintro mm a w ⟨i,oI,m3,l3,hmu,⟨he,hm⟩,hI310⟩ L309 hL309
 replace hm:=hm.nf
 obtain ⟨hI310,r3⟩:=hI310
 refine go he hm fun a he =>?_
 by_cases h312:i < c.inputs.length
 refine go he hm fun a he =>?_
 obtain ⟨q316,rfl,x317,hx318,cs319,hl320,ha321,hr322⟩:=h7.el hn16 h312
 obtain rfl:=id hr322
 refine Alc he hm fun b323 w hm a he =>?_
 refine Sto 0 he hm fun w hm a he =>?_
 refine Reg [1,1,1,2,0,1,1,1,1,1,2,1,2,1,2,0,1,1] [0,1,3,4,5,6] he hm fun w hm a he =>?_
 refine go he hm fun a he =>?_
 cases oI
 refine go he hm fun a he =>?_
 replace hm:=hm.dl [0]
 refine hL309 _ _ _ (by subst hmu;omega) ⟨(i+1),(false),(m3),(l3),rfl,⟨he.pk,hm⟩,?_⟩
 refine ⟨?_,r3⟩
 rw [hI310,z0a hx318];simp [tabI, *]
 refine z1n call138 he hm (fun hB324 w hm a he =>?_) (fun hB324 w hm a he =>?_) (c:=isName_ok G hm)
 replace hm:=hm.pl 2
 refine z1n call193 he hm (fun hB325 w hm a he =>?_) (fun hB325 w hm a he =>?_) (c:=once_Bs_ok (m:=m3) (l:=l3) (x:=x317.type) r3 hm)
 replace hm:=hm.nf
 obtain ⟨M326,hM_⟩:∃M_,M_=(z5l m3 x317.name (.string x317.type)):=⟨_,rfl⟩
 have r327:MapRel RVs M326 (z2z l3 x317.name x317.type):=by rw [hM_];exact (MapRel.once r3 rfl)
 rw [← hM_] at hm
 clear hM_
 refine go he hm fun a he =>?_
 replace hm:=hm.ar [1] [5,5,5,5,4,5]
 refine hL309 _ _ _ (by subst hmu;omega) ⟨(i+1),(true),(M326),((z2z l3 x317.name x317.type)),rfl,⟨he.pk,hm⟩,?_⟩
 refine ⟨?_,r327⟩
 rw [hI310,z0a hx318];simp [tabI, *]
 replace hm:=hm.nf
 obtain ⟨M328,hM_⟩:∃M_,M_=(z5l m3 x317.name (.string x317.type)):=⟨_,rfl⟩
 have r329:MapRel RVs M328 (z2z l3 x317.name x317.type):=by rw [hM_];exact (MapRel.once r3 rfl)
 rw [← hM_] at hm
 clear hM_
 refine go he hm fun a he =>?_
 replace hm:=hm.ar [1] [5,5,5,5,4,5]
 refine hL309 _ _ _ (by subst hmu;omega) ⟨(i+1),(false),(M328),((z2z l3 x317.name x317.type)),rfl,⟨he.pk,hm⟩,?_⟩
 refine ⟨?_,r329⟩
 rw [hI310,z0a hx318];simp [tabI, *]
 refine go he hm fun a he =>?_
 replace hm:=hm.dl [0]
 refine hL309 _ _ _ (by subst hmu;omega) ⟨(i+1),(false),(m3),(l3),rfl,⟨he.pk,hm⟩,?_⟩
 refine ⟨?_,r3⟩
 rw [hI310,z0a hx318];simp [tabI, *]
 refine go he hm fun a he =>?_
 have hm0_:=hm
 clear hm
 obtain ⟨Ψ332,le333,hm,hma334⟩:=hm0_.freezeMap (i:=4) rfl
 clear hm0_
 replace rpc:=rpc.mono le333
 replace G:=G.mono le333
 replace hr37:=RData.mono _ _ _ _ le333 hr37
 replace r0:=r0.up le333
 replace r1:=r1.up le333
 replace r2:=r2.up le333
 replace hm:=hm.nf
 have hm0_:=hm
 clear hm
 obtain ⟨Ψ335,le336,hm,hma337⟩:=hm0_.freezeMap (i:=3) rfl
 clear hm0_
 replace rpc:=rpc.mono le336
 replace G:=G.mono le336
 replace hr37:=RData.mono _ _ _ _ le336 hr37
 replace r0:=r0.up le336
 replace r1:=r1.up le336
 replace r2:=r2.up le336
 replace hma334:=hma334.mono le336
 replace hm:=hm.nf
 have hm0_:=hm
 clear hm
 obtain ⟨Ψ338,le339,hm,hma340⟩:=hm0_.freezeMap (i:=2) rfl
 clear hm0_
 replace rpc:=rpc.mono le339
 replace G:=G.mono le339
 replace hr37:=RData.mono _ _ _ _ le339 hr37
 replace r0:=r0.up le339
 replace r1:=r1.up le339
 replace r2:=r2.up le339
 replace hma334:=hma334.mono le339
 replace hma337:=hma337.mono le339
 replace hm:=hm.nf
 have hm0_:=hm
 clear hm
 obtain ⟨Ψ341,le342,hm,hma343⟩:=hm0_.freezeMap (i:=1) rfl
 clear hm0_
 replace rpc:=rpc.mono le342
 replace G:=G.mono le342
 replace hr37:=RData.mono _ _ _ _ le342 hr37
 replace r0:=r0.up le342
 replace r1:=r1.up le342
 replace r2:=r2.up le342
 replace hma334:=hma334.mono le342
 replace hma337:=hma337.mono le342
 replace hma340:=hma340.mono le342
 replace hm:=hm.nf
 have hm0_:=hm
 clear hm
 obtain ⟨Ψ344,le345,hm,hat346⟩:=hm0_.freezeBlk (i:=0) rfl
 clear hm0_
 replace rpc:=rpc.mono le345
 replace G:=G.mono le345
 replace hr37:=RData.mono _ _ _ _ le345 hr37
 replace r0:=r0.up le345
 replace r1:=r1.up le345
 replace r2:=r2.up le345
 replace hma334:=hma334.mono le345
 replace hma337:=hma337.mono le345
 replace hma340:=hma340.mono le345
 replace hma343:=hma343.mono le345
 replace hm:=hm.nf
 have hT:RTableX Ψ344 ⟨b28,0,none⟩ ⟨c,l0,l1,l2,l3⟩ _:=⟨⟨[.slice p9 c.datas.length c10,.slice p13 c.inputs.length c14,.slice p17 c.funs.length c18,.slice q4 c.outputs.length cc5],_,_,_,_,_,_,_,_,hat346,rfl,rpc,hma334,r0,hma337,r1,hma340,r2,hma343,r3⟩⟩
 refine go he hm fun a he =>?_
 replace hm:=hm.dl [0]
 refine Ret2 hQ he hm ?_
 rw [z0g h312] at hI310
 simp only [tabI] at hI310
 obtain ⟨e1_,e2_⟩:=table_eq hD_ hF_ hI310
 rw [e1_,e2_]
 exact ⟨(Ψ344,_),rfl,⟨((((((le36).trans le50).trans le333).trans le336).trans le339).trans le342).trans le345,hT⟩,hm⟩
end Go.Sw

namespace Go.Sw
open Go.Proofs.Tryz
open Go.Proofs
set_option maxRecDepth 20000
set_option maxHeartbeats 4000000
theorem right1_ok {Φ:Fz} {K:List Res} {w:World} {pt:Addr} {T:Table} {s:Bs} {b:Nat}  (rT:RTable Φ pt T) (hm:Mem Φ (.blk b (ob [.pointer (some pt)] 89)::K) w) :
  Calls Tryz.prog 155 (List.toArray [.string s,.pointer (some ⟨b,0,none⟩)]) w (fun ee w'=>ee=.returned (.bool ((!z2b T s)))∧Mem Φ (.blk b (ob [.pointer (some pt)] 89)::K) w'):=by
 refine z0l func155 ntmps155 fun Q hQ a he =>?_
 refine z0y call80 he hm (fun w hm a he =>?_) (c:=isType_ok rT hm)
 refine Ret1 hQ he hm ?_
 exact z0v hm (by simp [*])
theorem right2_ok {Φ:Fz} {K:List Res} {w:World} {pz:Option Addr} {cz:Nat} {ds:List Data} {x1 x2 x3:Value} {d0:List Value} {p:Param} {b:Nat} (rpp:RParam Φ d0 p) (rd:SliceOf RData Φ 2 (.slice pz ds.length cz) ds) (hm:Mem Φ (.blk b (ob [.slice pz ds.length cz,x1,x2,x3] 27)::K) w) :
  Calls Tryz.prog 157 (List.toArray [.agg d0.toArray,.pointer (some ⟨b,0,none⟩)]) w (fun ee w'=>ee=.returned (.bool ((!z2p ds p.type)))∧Mem Φ (.blk b (ob [.slice pz ds.length cz,x1,x2,x3] 27)::K) w'):=by
 obtain rfl:=id rpp
 refine z0l func157 ntmps157 fun Q hQ a he =>?_
 refine Bx he hm fun b2 w hm a he =>?_
 refine z0y call114 he hm (fun w hm a he =>?_) (c:=inputType_ok rd hm)
 refine go he hm fun a he =>?_
 replace hm:=hm.dl [0]
 refine Ret1 hQ he hm ?_
 exact z0v hm (by simp [*])
theorem rightX_ok {Φ:Fz} {R K:List Res} {w:World} {d0:List Value} {c:Core} {v:Value} (rpc:RCoreX Φ d0 c v) (hfz:Thaw R Φ v c.outputs) (hlong:z4y c=false) (G:Glob Φ) (hm:Mem Φ (R++K) w) :
  Calls Tryz.prog 99 (List.toArray [.agg d0.toArray]) w (fun ee w'=>∃y:Fz×Addr,ee=.returned (.tuple (List.toArray [.pointer (some y.2),.bool (z2a c)]))∧(Φ.Le y.1∧RTableX y.1 y.2 (z0f c) v)∧Mem y.1 (R++K) w'):=by
 obtain ⟨s1,s2,s3,q4,cc5,rfl,rfl,h6,h7,h8⟩:=id rpc
 obtain ⟨p9,c10,rfl,hm11,hn12⟩:=h6.fm
 obtain ⟨p13,c14,rfl,hm15,hn16⟩:=h7.fm
 obtain ⟨p17,c18,rfl,hm19,hn20⟩:=h8.fm
 refine z0l func99 ntmps99 fun Q hQ a he =>?_
 refine Bx he hm fun b22 w hm a he =>?_
 refine z2i call153 he hm (fun y24 w hG25 hm a he =>?_) (c:=tabledX_ok rpc hlong G hm)
 obtain ⟨Ψ26,p27⟩:=y24
 obtain ⟨le28,hX29⟩:=hG25
 simp only at le28 hX29 hm he
 replace h6:=h6.up le28
 replace h7:=h7.up le28
 replace h8:=h8.up le28
 replace G:=G.mono le28
 replace hm:=hm.nf
 obtain ⟨Ψ31,le32,hm2_,hsl33,hbk34⟩:=hfz Ψ26 _ _ le28 (hm.perm List.perm_middle.symm)
 have hm:=hm2_
 clear hm2_
 replace h6:=h6.up le32
 replace h7:=h7.up le32
 replace h8:=h8.up le32
 replace G:=G.mono le32
 replace hm:=hm.nf
 obtain ⟨hmx35,hn36⟩:=hsl33.formO (by decide)
 have hT30:RTable Ψ31 p27 (z0f c):=(hX29.mono le32).full hsl33
 obtain ⟨cs53,m37,m38,m39,m40,d41,d42,d43,d44,hat54,hcl55,hcore56,ma45,mr49,ma46,mr50,ma47,mr51,ma48,mr52⟩:=hT30.ex
 obtain ⟨p59,c60,p65,c66,p71,c72,p77,c78,rfl,h58,h64,h70,h76,hm61,hn62,hm67,hn68,hm73,hn74,hm79,hn80⟩:=RCore.fm hcore56
 refine Alc he hm fun b81 w hm a he =>?_
 refine Sto 0 he hm fun w hm a he =>?_
 refine go he hm fun a he =>?_
 generalize hb85:(!(z4s c))=bb84 at he
 cases bb84
 refine go he hm fun a he =>?_
 by_cases h86:c.outputs.length=0
 refine go he hm fun a he =>?_
 replace hm:=hm.dl [1,0]
 refine Ret2 hQ he hm ?_
 have hr_:z2a c=false:=by
  have e_:c.outputs=[]:=List.eq_nil_of_length_eq_zero h86
  simp [z2a,e_]
 rw [hr_]
 exact ⟨(Ψ26,_),rfl,⟨le28,hX29⟩,hbk34 _ _ (hm.le (Fz.Le.refl _))⟩
 refine go he hm fun a he =>?_
 have hTb_:z4s c=true:=by simpa using hb85
 have hO_:c.outputs≠[]:=by intro e_;simp [e_] at h86
 refine go he hm fun a he =>?_
 refine z1i (he.ks [1,4,36,37]) hm (fun R mm a w=>∃(i:Nat),mm=c.datas.length - i∧R Ψ31 [(38,.int .i64 ((i:Nat):Int))] [] a w∧(c.datas.all (z4x (z0f c))=(c.datas.drop i).all (z4x (z0f c)))) (c.datas.length - 0) ⟨0,rfl,⟨he.pk,hm⟩,rfl⟩ ?_
 clear hm he
 rintro mm a w ⟨i,hmu,⟨he,hm⟩,hI91⟩ L90 hL90
 refine go he hm fun a he =>?_
 by_cases h93:i < c.datas.length
 refine go he hm fun a he =>?_
 obtain ⟨q97,rfl,x98,hx99,cs100,hl101,ha102,hr103⟩:=h6.el hn12 h93
 obtain ⟨s104,rfl,h105⟩:=id hr103
 obtain ⟨p106,c107,rfl,hm108,hn109⟩:=h105.fm
 refine Alc he hm fun b110 w hm a he =>?_
 refine Sto 0 he hm fun w hm a he =>?_
 refine go he hm fun a he =>?_
 refine z1i (he.ks [1,4,36,37,38,43,44]) hm (fun R mm a w=>∃(k:Nat),mm=x98.cons.length - k∧R Ψ31 [(45,.int .i64 ((k:Nat):Int))] [] a w∧(z4x (z0f c) x98=(x98.cons.drop k).all (fun x=>x.fields.all fun s=>z2b (z0f c) s))) (x98.cons.length - 0) ⟨0,rfl,⟨he.pk,hm⟩,rfl⟩ ?_
 clear hm he
 rintro mm a w ⟨k,hmu,⟨he,hm⟩,hI113⟩ L112 hL112
 refine go he hm fun a he =>?_
 by_cases h115:k < x98.cons.length
 refine go he hm fun a he =>?_
 obtain ⟨q119,rfl,x120,hx121,cs122,hl123,ha124,hr125⟩:=h105.el hn109 h115
 obtain ⟨s126,rfl,h127⟩:=id hr125
 obtain ⟨p128,c129,rfl,hm130,hn131⟩:=h127.fm
 refine Alc he hm fun b132 w hm a he =>?_
 refine Sto 0 he hm fun w hm a he =>?_
 replace hm:=hm.pl 2
 refine z1n call154 he hm (fun hB134 w hm a he =>?_) (fun hB134 w hm a he =>?_) (c:=anyFunc_Bs (Φ:=Ψ31) (K:=.blk b81 (ob [.pointer (some p27)] 89)::.blk b132 (ob [.string x120.name,.slice p128 x120.fields.length c129] 135)::.blk b110 (ob [.string x98.name,.slice (some q119) x98.cons.length c107] 133)::.blk b22 (ob [.slice (some q97) c.datas.length c10,.slice p13 c.inputs.length c14,.slice p17 c.funs.length c18,.slice q4 c.outputs.length cc5] 27)::K) (p:=fun s => !z2b (z0f c) s) (fs:=[]) (cs:=[.pointer (some ⟨b81,0,none⟩)]) h127 call155 (fun x c w hx hc hm=>right1_ok hT30 hm) hm)
 refine go he hm fun a he =>?_
 replace hm:=hm.dl [3,2,1,0]
 refine Ret2 hQ he hm ?_
 have hr_:z2a c=false:=by
  have e1_:c.datas.all (z4x (z0f c))=false:=by
   rw [hI91,z4v hx99,hI113,z4v hx121]
   simp only [all_of_anyT hB134,Bool.false_and]
  simp [z2a,e1_]
 rw [hr_]
 exact ⟨(Ψ26,_),rfl,⟨le28,hX29⟩,hbk34 _ _ (hm.le (Fz.Le.refl _))⟩
 refine go he hm fun a he =>?_
 replace hm:=hm.ar [1] [2,1,2]
 refine hL112 _ _ _ (by subst hmu;omega) ⟨(k+1),rfl,⟨he.pk,hm⟩,?_⟩
 rw [hI113,z4v hx121];simp only [all_of_anyF hB134,Bool.true_and]
 refine go he hm fun a he =>?_
 replace hm:=hm.dl [0]
 refine hL90 _ _ _ (by subst hmu;omega) ⟨(i+1),rfl,⟨he.pk,hm⟩,?_⟩
 rw [hI91,z4v hx99];have hF_:=hI113;rw [all_end h115] at hF_;rw [hF_];rfl
 refine go he hm fun a he =>?_
 have hD_:c.datas.all (z4x (z0f c))=true:=by rw [hI91,all_end h93]
 replace hm:=hm.pl 1
 refine z1n call156 he hm (fun hB140 w hm a he =>?_) (fun hB140 w hm a he =>?_) (c:=anyFunc_Param (Φ:=Ψ31) (K:=.blk b22 (ob [.slice p9 c.datas.length c10,.slice p13 c.inputs.length c14,.slice p17 c.funs.length c18,.slice q4 c.outputs.length cc5] 27)::.blk b81 (ob [.pointer (some p27)] 89)::K) (p:=fun p => !z2p c.datas p.type) (fs:=[]) (cs:=[.pointer (some ⟨b22,0,none⟩)]) h7 call157 (fun x c w hx hc hm=>right2_ok hc h6 hm) hm)
 refine go he hm fun a he =>?_
 replace hm:=hm.dl [1,0]
 refine Ret2 hQ he hm ?_
 have hr_:z2a c=false:=by
  have e1_:=all_of_anyT hB140
  simp [z2a,e1_]
 rw [hr_]
 exact ⟨(Ψ26,_),rfl,⟨le28,hX29⟩,hbk34 _ _ (hm.le (Fz.Le.refl _))⟩
 refine go he hm fun a he =>?_
 have hIn_:c.inputs.all (fun p=>z2p c.datas p.type)=true:=all_of_anyF hB140
 refine go he hm fun a he =>?_
 refine z1i (he.ks [1,4,62,63]) hm (fun R mm a w=>∃(i:Nat),mm=c.funs.length - i∧R Ψ31 [(64,.int .i64 ((i:Nat):Int))] [] a w∧(c.funs.all (z6k (z0f c))=(c.funs.drop i).all (z6k (z0f c)))) (c.funs.length - 0) ⟨0,rfl,⟨he.pk,hm⟩,rfl⟩ ?_
 clear hm he
 rintro mm a w ⟨i,hmu,⟨he,hm⟩,hI145⟩ L144 hL144
 refine go he hm fun a he =>?_
 by_cases h147:i < c.funs.length
 refine go he hm fun a he =>?_
 obtain ⟨q151,rfl,x152,hx153,cs154,hl155,ha156,hr157⟩:=h8.el hn20 h147
 obtain ⟨s158,b164,rfl,h159,h165⟩:=id hr157
 obtain ⟨p160,c161,rfl,hm162,hn163⟩:=h159.fm
 obtain ⟨p168,c169,p174,c175,rfl,hi178,h167,h173,hm170,hn171,hm176,hn177⟩:=REx.fm h165
 refine Alc he hm fun b179 w hm a he =>?_
 refine Sto 0 he hm fun w hm a he =>?_
 refine go he hm fun a he =>?_
 replace hm:=hm.nilRow 9 1
 replace hm:=hm.nf
 refine MkM he hm fun b182 w hm a he =>?_
 refine go he hm fun a he =>?_
 replace hm:=hm.nf
 refine go he hm fun a he =>?_
 refine z1i (he.ks [1,4,11,13,62,63,64,70,71]) hm (fun R mm a w=>∃(k:Nat) (u:Value) (nl:List Bs) (sc:Scope),mm=x152.params.length - k∧R Ψ31 [(12,u),(72,.int .i64 ((k:Nat):Int))] [(0,.mp b182 (smap sc)),(1,.gs (u) 9 1 (strs nl))] a w∧(x152.params.all (fun p=>z2b (z0f c) p.type)=(x152.params.drop k).all (fun p=>z2b (z0f c) p.type)∧x152.params.map Param.name=nl++(x152.params.drop k).map Param.name∧z3q x152.params=(x152.params.drop k).foldl (fun s p=>lput s p.name p.type) sc)) (x152.params.length - 0) ⟨0,.slice none 0 0,[],[],rfl,⟨he.pk,hm⟩,⟨rfl,rfl,rfl⟩⟩ ?_
 clear hm he
 rintro mm a w ⟨k,u,nl,sc,hmu,⟨he,hm⟩,hI186⟩ L185 hL185
 replace hm:=hm.nf
 refine go he hm fun a he =>?_
 by_cases h188:k < x152.params.length
 refine go he hm fun a he =>?_
 obtain ⟨q192,rfl,x193,hx194,cs195,hl196,ha197,hr198⟩:=h159.el hn163 h188
 obtain rfl:=id hr198
 refine Alc he hm fun b199 w hm a he =>?_
 refine Sto 0 he hm fun w hm a he =>?_
 refine z1n call80 he hm (fun hB202 w hm a he =>?_) (fun hB202 w hm a he =>?_) (c:=isType_ok hT30 hm)
 refine BldS he hm fun v204 w hm a he =>?_
 refine App_ 3 z9k he hm (fun v205 w hm a he =>?_) (hb:=by have hq_:=congrArg List.length (hI186).2.1;have h_:=(long_fun hlong (List.mem_of_getElem? hx153)).1;simp only [List.length_map,List.length_append,z1m,List.length_cons,List.length_nil] at hq_ ⊢;omega)
 first | rw [z2u] at hm | rw [← z1l] at hm
 refine MapU 2 runUnderlying157 runUnderlying9 he hm fun w hm a he =>?_
 rw [smap_put] at hm
 refine go he hm fun a he =>?_
 replace hm:=hm.dl [1,0]
 refine hL185 _ _ _ (by subst hmu;omega) ⟨(k+1),(v205),(nl++[x193.name]),((lput sc x193.name x193.type)),rfl,⟨he.pk,hm⟩,?_⟩
 obtain ⟨hA_,hN_,hS_⟩:=hI186
 refine ⟨?_,?_,?_⟩
 rw [hA_,z4v hx194,hB202];rfl
 rw [hN_,z0a hx194];simp
 rw [hS_,z0a hx194];rfl
 refine go he hm fun a he =>?_
 replace hm:=hm.dl [5,4,3,2,1,0]
 refine Ret2 hQ he hm ?_
 have hr_:z2a c=false:=by
  obtain ⟨hA_,_,_⟩:=hI186
  have e_:z6k (z0f c) x152=false:=by
   have e2_:x152.params.all (fun p=>z2b (z0f c) p.type)=false:=by rw [hA_,z4v hx194];simp only [hB202,Bool.false_and]
   simp only [z6k,e2_,Bool.false_and]
  have e1_:c.funs.all (z6k (z0f c))=false:=by rw [hI145,z4v hx153,e_];rfl
  simp [z2a,e1_]
 rw [hr_]
 exact ⟨(Ψ26,_),rfl,⟨le28,hX29⟩,hbk34 _ _ (hm.le (Fz.Le.refl _))⟩
 refine go he hm fun a he =>?_
 refine z1v [2,1,2,0,1,1,1,2,1,0,0,1,1,1,2,1,2,1,0,1,2,1,1] (.q 0 (.q 1 (.q 2 (.e 3 (.q 4 (.q 5 (.q 6 (.q 7 (.q 8 (.e 9 (.e 10 (.q 11 (.q 12 (.q 13 (.q 14 (.q 15 (.q 16 (.q 17 (.q 19 (.q 20 (.e 18 (.q 21 (.q 22 (.done)))))))))))))))))))))))) [2,3,4] he hm fun w hm =>?_
 obtain ⟨hA_,hN_,hS_⟩:=hI186
 rw [z0g h188] at hA_ hN_ hS_
 simp only [List.map_nil,List.append_nil,List.foldl_nil,List.all_nil] at hA_ hN_ hS_
 replace hm:Mem Ψ31 (.mp b182 (smap (z3q x152.params))::.gs (u) 9 1 (strs (x152.params.map Param.name))::.blk b179 (ob [.string x152.name,.slice p160 x152.params.length c161,.string x152.result,.int .i64 (x152.body.kind),.int .i64 (x152.body.num),.string x152.body.name,.slice p168 x152.body.args.length c169,.slice p174 x152.body.arms.length c175] 68)::.blk b22 (ob [.slice p9 c.datas.length c10,.slice p13 c.inputs.length c14,.slice (some q151) c.funs.length c18,.slice q4 c.outputs.length cc5] 27)::.blk b81 (ob [.pointer (some p27)] 89)::K) w:=by rw [hN_,hS_];exact hm
 have hmk_:=hm
 clear hm
 subst hN_
 subst hS_
 have hm:=hmk_
 clear hmk_
 refine z1n call80 he hm (fun hB209 w hm a he =>?_) (fun hB209 w hm a he =>?_) (c:=isType_ok hT30 hm)
 refine go he hm fun a he =>?_
 replace hm:=hm.pl 1
 refine d_eg he rfl rfl rfl rfl rfl (z4d he rfl call85 (binders_ok (l:=(x152.params.map Param.name)) (by have h_:=long_fun hlong (List.mem_of_getElem? hx153);simp only [List.length_map];omega) h165 hm) fun v210 w hm=>⟨fun _=>hm.sn (Fz.Le.refl _),fun a he =>?_⟩)
 replace hm:=hm.nf
 have hm0_:=hm
 clear hm
 obtain ⟨Ψ211,le212,hm,hrow213⟩:=hm0_.freezeRow (i:=0) rfl
 clear hm0_
 replace G:=G.mono le212
 replace hsl33:=hsl33.up le212
 replace hT30:=hT30.mono le212
 replace hat54:=hat54.mono le212
 replace ma47:=ma47.mono le212
 replace mr51:=mr51.up le212
 replace ha156:=ha156.mono le212
 replace hr157:=RFun.mono _ _ _ _ le212 hr157
 replace h165:=REx.mono _ _ _ _ le212 h165
 replace hm:=hm.nf
 have hsl214:SliceOf RStr Ψ211 1 _ (((x152.params.map Param.name)++z0n x152.body)):=SliceOf.strs.2 hrow213
 obtain ⟨p215,c216,hv_,hm217,hn218⟩:=hsl214.form (by decide)
 have hmk_:=hm
 clear hm
 subst hv_
 have hm:=hmk_
 clear hmk_
 refine z1n call84 he hm (fun hB219 w hm a he =>?_) (fun hB219 w hm a he =>?_) (c:=apart_ok hsl214 G hm)
 refine z0y call86 he hm (fun w hm a he =>?_) (c:=typed_ok (table_params hlong hTb_) hT30 h165 hm)
 by_cases h220:(z0c (z0f c) x152.body (z3q x152.params)).1=x152.result
 refine go he hm fun a he =>?_
 replace hm:=hm.le (le212)
 replace hm:=hm.dl [1,0]
 refine hL144 _ _ _ (by subst hmu;omega) ⟨(i+1),rfl,⟨he.pk,hm⟩,?_⟩
 rw [hI145,z4v hx153];simp [z6k, *]
 refine go he hm fun a he =>?_
 replace hm:=hm.dl [3,2,1,0]
 refine Ret2 hQ he hm ?_
 have hr_:z2a c=false:=by
  have e_:z6k (z0f c) x152=false:=by simp [z6k, *]
  have e1_:c.funs.all (z6k (z0f c))=false:=by rw [hI145,z4v hx153,e_];rfl
  simp [z2a,e1_]
 rw [hr_]
 exact ⟨(Ψ26,_),rfl,⟨le28,hX29⟩,hbk34 _ _ (hm.le (le212))⟩
 refine go he hm fun a he =>?_
 replace hm:=hm.dl [3,2,1,0]
 refine Ret2 hQ he hm ?_
 have hr_:z2a c=false:=by
  have e_:z6k (z0f c) x152=false:=by simp [z6k, *]
  have e1_:c.funs.all (z6k (z0f c))=false:=by rw [hI145,z4v hx153,e_];rfl
  simp [z2a,e1_]
 rw [hr_]
 exact ⟨(Ψ26,_),rfl,⟨le28,hX29⟩,hbk34 _ _ (hm.le (le212))⟩
 refine go he hm fun a he =>?_
 replace hm:=hm.dl [4,3,2,1,0]
 refine Ret2 hQ he hm ?_
 have hr_:z2a c=false:=by
  have e_:z6k (z0f c) x152=false:=by simp [z6k, *]
  have e1_:c.funs.all (z6k (z0f c))=false:=by rw [hI145,z4v hx153,e_];rfl
  simp [z2a,e1_]
 rw [hr_]
 exact ⟨(Ψ26,_),rfl,⟨le28,hX29⟩,hbk34 _ _ (hm.le (Fz.Le.refl _))⟩
 refine go he hm fun a he =>?_
 have hF_:c.funs.all (z6k (z0f c))=true:=by rw [hI145,all_end h147]
 refine MkM he hm fun b226 w hm a he =>?_
 refine go he hm fun a he =>?_
 refine z1i (he.ks [4,16,120,121]) hm (fun R mm a w=>∃(i:Nat) (ds:List Bs),mm=c.outputs.length - i∧R Ψ31 [(122,.int .i64 ((i:Nat):Int))] [(0,.mp b226 (z3c ds))] a w∧(z6m (z0f c) [] c.outputs=z6m (z0f c) ds (c.outputs.drop i))) (c.outputs.length - 0) ⟨0,[],rfl,⟨he.pk,hm⟩,rfl⟩ ?_
 clear hm he
 rintro mm a w ⟨i,ds,hmu,⟨he,hm⟩,hI230⟩ L229 hL229
 replace hm:=hm.nf
 refine go he hm fun a he =>?_
 by_cases h232:i < c.outputs.length
 refine go he hm fun a he =>?_
 obtain ⟨q236,rfl,x237,hx238,cs239,hl240,ha241,hr242⟩:=hsl33.el hn36 h232
 obtain rfl:cs239=[.string x237]:=hr242
 refine go he hm fun a he =>?_
 rcases hf244:mget (d43) x237 with _ | vf245
 have hf244_:=congrArg (z0i true (.agg (List.toArray [.string ⟨#[]⟩,.slice none 0 0,.string ⟨#[]⟩,.int .i64 ((0:Nat):Int),.int .i64 ((0:Nat):Int),.string ⟨#[]⟩,.slice none 0 0,.slice none 0 0]))) hf244
 refine Qq he hm (fun a he =>?_) (o:=by exact fun _ _ _ he hs=>Ok.cast (z0o runUnderlying103 runUnderlying9 zeroValue68 he hs rfl rfl ma47) (show z0i true (.agg (List.toArray [.string ⟨#[]⟩,.slice none 0 0,.string ⟨#[]⟩,.int .i64 ((0:Nat):Int),.int .i64 ((0:Nat):Int),.string ⟨#[]⟩,.slice none 0 0,.slice none 0 0])) (mget (d43) x237)=.tuple (List.toArray [.agg (List.toArray [.string ⟨#[]⟩,.slice none 0 0,.string ⟨#[]⟩,.int .i64 ((0:Nat):Int),.int .i64 ((0:Nat):Int),.string ⟨#[]⟩,.slice none 0 0,.slice none 0 0]),.bool false]) from hf244_))
 refine Alc he hm fun b246 w hm a he =>?_
 refine Sto 0 he hm fun w hm a he =>?_
 refine go he hm fun a he =>?_
 replace hm:=hm.dl [3,2,1,0]
 refine Ret2 hQ he hm ?_
 have hr_:z2a c=false:=by
  have e2_:=MapRel.none mr51 hf244
  have e1_:z6m (z0f c) [] c.outputs=false:=by rw [hI230,z0a hx238];simp [z6m, *] <;> (intro e_;simp_all)
  simp [z2a,e1_]
 rw [hr_]
 exact ⟨(Ψ26,_),rfl,⟨le28,hX29⟩,hbk34 _ _ (hm.le (Fz.Le.refl _))⟩
 obtain ⟨y250,hy251,cs252,rfl,hr253⟩:=mr51.get hf244
 obtain ⟨s254,b260,rfl,h255,h261⟩:=id hr253
 obtain ⟨p256,c257,rfl,hm258,hn259⟩:=h255.fm
 obtain ⟨p264,c265,p270,c271,rfl,hi274,h263,h269,hm266,hn267,hm272,hn273⟩:=REx.fm h261
 have hf244_:=congrArg (z0i true (.agg (List.toArray [.string ⟨#[]⟩,.slice none 0 0,.string ⟨#[]⟩,.int .i64 ((0:Nat):Int),.int .i64 ((0:Nat):Int),.string ⟨#[]⟩,.slice none 0 0,.slice none 0 0]))) hf244
 refine Qq he hm (fun a he =>?_) (o:=by exact fun _ _ _ he hs=>Ok.cast (z0o runUnderlying103 runUnderlying9 zeroValue68 he hs rfl rfl ma47) (show z0i true (.agg (List.toArray [.string ⟨#[]⟩,.slice none 0 0,.string ⟨#[]⟩,.int .i64 ((0:Nat):Int),.int .i64 ((0:Nat):Int),.string ⟨#[]⟩,.slice none 0 0,.slice none 0 0])) (mget (d43) x237)=.tuple (List.toArray [.agg (List.toArray [.string y250.name,.slice p256 y250.params.length c257,.string y250.result,.int .i64 (y250.body.kind),.int .i64 (y250.body.num),.string y250.body.name,.slice p264 y250.body.args.length c265,.slice p270 y250.body.arms.length c271]),.bool true]) from hf244_))
 refine Alc he hm fun b275 w hm a he =>?_
 refine Sto 0 he hm fun w hm a he =>?_
 refine go he hm fun a he =>?_
 by_cases h278:0 < y250.params.length
 refine go he hm fun a he =>?_
 replace hm:=hm.dl [3,2,1,0]
 refine Ret2 hQ he hm ?_
 have hr_:z2a c=false:=by
  have e1_:z6m (z0f c) [] c.outputs=false:=by rw [hI230,z0a hx238];simp [z6m, *] <;> (intro e_;simp_all)
  simp [z2a,e1_]
 rw [hr_]
 exact ⟨(Ψ26,_),rfl,⟨le28,hX29⟩,hbk34 _ _ (hm.le (Fz.Le.refl _))⟩
 refine go he hm fun a he =>?_
 rcases hf280:mget ((z3c ds)) x237 with _ | vf281
 have hf280_:=congrArg (z0i false (.bool false)) hf280
 refine Qq he hm (fun a he =>?_) (o:=by exact fun _ _ _ he hs=>Ok.cast (z1c 1 runUnderlying121 runUnderlying9 zeroValue4 he hs rfl rfl rfl) (show z0i false (.bool false) (mget ((z3c ds)) x237)=.bool false from hf280_))
 refine MapU 1 runUnderlying121 runUnderlying9 he hm fun w hm a he =>?_
 rw [← seenM_snoc] at hm
 refine go he hm fun a he =>?_
 replace hm:=hm.dl [0]
 refine hL229 _ _ _ (by subst hmu;omega) ⟨(i+1),(ds++[x237]),rfl,⟨he.pk,hm⟩,?_⟩
 have hn_:=seen_not hf280
 have hz_:y250.params=[]:=List.eq_nil_of_length_eq_zero (by omega)
 rw [hI230,z0a hx238];simp [z6m,hy251,hz_,hn_]
 obtain ⟨rfl,hs282⟩:=seen_val hf280
 have hf280_:=congrArg (z0i false (.bool false)) hf280
 refine Qq he hm (fun a he =>?_) (o:=by exact fun _ _ _ he hs=>Ok.cast (z1c 1 runUnderlying121 runUnderlying9 zeroValue4 he hs rfl rfl rfl) (show z0i false (.bool false) (mget ((z3c ds)) x237)=.bool true from hf280_))
 refine go he hm fun a he =>?_
 replace hm:=hm.dl [3,2,1,0]
 refine Ret2 hQ he hm ?_
 have hr_:z2a c=false:=by
  have e1_:z6m (z0f c) [] c.outputs=false:=by rw [hI230,z0a hx238];simp [z6m, *] <;> (intro e_;simp_all)
  simp [z2a,e1_]
 rw [hr_]
 exact ⟨(Ψ26,_),rfl,⟨le28,hX29⟩,hbk34 _ _ (hm.le (Fz.Le.refl _))⟩
 refine go he hm fun a he =>?_
 replace hm:=hm.dl [2,1,0]
 refine Ret2 hQ he hm ?_
 have hr_:z2a c=true:=by
  have e1_:z6m (z0f c) [] c.outputs=true:=by rw [hI230,z0g h232];rfl
  simp [z2a,hTb_,hO_,hD_,hIn_,hF_,e1_]
 rw [hr_]
 exact ⟨(Ψ26,_),rfl,⟨le28,hX29⟩,hbk34 _ _ (hm.le (Fz.Le.refl _))⟩
 refine go he hm fun a he =>?_
 replace hm:=hm.dl [1,0]
 refine Ret2 hQ he hm ?_
 have hr_:z2a c=false:=by
  have e_:z4s c=false:=by simpa using hb85
  simp [z2a,e_]
 rw [hr_]
 exact ⟨(Ψ26,_),rfl,⟨le28,hX29⟩,hbk34 _ _ (hm.le (Fz.Le.refl _))⟩
end Go.Sw

namespace Go.Sw
open Go.Proofs.Tryz
open Go.Proofs
set_option maxRecDepth 20000
set_option maxHeartbeats 4000000
theorem lookX_ok {Φ:Fz} {R K:List Res} {w:World} {d0:List Value} {c:Core} {v:Value} (rpc:RCoreX Φ d0 c v) (hfz:Thaw R Φ v c.outputs) (G:Glob Φ) (hm:Mem Φ (R++K) w) :
  Calls Tryz.prog 43 (List.toArray [.agg d0.toArray]) w (fun ee w'=>∃y:Fz×Addr,ee=.returned (.tuple (List.toArray [(if z1g c=0 then .pointer (some y.2) else .pointer none),.int .i64 (z1g c)]))∧(Φ.Le y.1∧(z1g c=0→RTableX y.1 y.2 (z0f c) v∧z4y c=false))∧Mem y.1 (R++K) w'):=by
 obtain ⟨s1,s2,s3,q4,cc5,rfl,rfl,h6,h7,h8⟩:=id rpc
 obtain ⟨p9,c10,rfl,hm11,hn12⟩:=h6.fm
 obtain ⟨p13,c14,rfl,hm15,hn16⟩:=h7.fm
 obtain ⟨p17,c18,rfl,hm19,hn20⟩:=h8.fm
 refine z0l func43 ntmps43 fun Q hQ a he =>?_
 refine Bx he hm fun b22 w hm a he =>?_
 refine z1n call96 he hm (fun hB25 w hm a he =>?_) (fun hB25 w hm a he =>?_) (c:=anyFunc_Fun (Φ:=Φ) (K:=.blk b22 (ob [.slice p9 c.datas.length c10,.slice p13 c.inputs.length c14,.slice p17 c.funs.length c18,.slice q4 c.outputs.length cc5] 27)::(R++K)) (p:=fun f=>z5i 250 f.body) (fs:=[]) (cs:=[]) h8 call97 (fun x c w hx hc hm=>look1_ok hc hm) hm)
 refine go he hm fun a he =>?_
 replace hm:=hm.dl [0]
 refine Ret2 hQ he hm ?_
 have hr_:z1g c=6:=by
  simp [z1g,hB25]
 rw [hr_]
 exact ⟨(Φ,⟨0,0,none⟩),rfl,⟨Fz.Le.refl _,fun h_=>(by cases h_)⟩,hm⟩
 refine go he hm fun a he =>?_
 have hdeep_:=hB25
 refine z1n call98 he hm (fun hB29 w hm a he =>?_) (fun hB29 w hm a he =>?_) (c:=longX_ok rpc hm)
 refine go he hm fun a he =>?_
 replace hm:=hm.dl [0]
 refine Ret2 hQ he hm ?_
 have hr_:z1g c=2:=by
  simp [z1g, *]
 rw [hr_]
 exact ⟨(Φ,⟨0,0,none⟩),rfl,⟨Fz.Le.refl _,fun h_=>(by cases h_)⟩,hm⟩
 refine go he hm fun a he =>?_
 have hlong_:=hB29
 refine z2i call99 he hm (fun y32 w hG33 hm a he =>?_) (c:=rightX_ok (K:=.blk b22 (ob [.slice p9 c.datas.length c10,.slice p13 c.inputs.length c14,.slice p17 c.funs.length c18,.slice q4 c.outputs.length cc5] 27)::K) rpc hfz hB29 G (hm.perm List.perm_middle.symm))
 obtain ⟨Ψ34,p35⟩:=y32
 obtain ⟨le36,hT37⟩:=hG33
 simp only at le36 hT37 hm he
 replace hm:=hm.perm List.perm_middle
 replace G:=G.mono le36
 replace hm:=hm.nf
 refine go he hm fun a he =>?_
 generalize hb41:(!(z2a c))=bb40 at he
 cases bb40
 refine go he hm fun a he =>?_
 replace hm:=hm.dl [0]
 refine Ret2 hQ he hm ?_
 have hr_:z1g c=0:=by
  have e_:z2a c=true:=by simpa using hb41
  simp [z1g,hdeep_,hlong_,e_]
 rw [hr_]
 exact ⟨(Ψ34,_),rfl,⟨le36,fun _=>⟨hT37,hlong_⟩⟩,hm⟩
 refine go he hm fun a he =>?_
 replace hm:=hm.dl [0]
 refine Ret2 hQ he hm ?_
 have hr_:z1g c=80:=by
  have e_:z2a c=false:=by simpa using hb41
  simp [z1g,hdeep_,hlong_,e_]
 rw [hr_]
 exact ⟨(Ψ34,⟨0,0,none⟩),rfl,⟨le36,fun h_=>(by cases h_)⟩,hm⟩
theorem look_ok {Φ:Fz} {K:List Res} {w:World} {d0:List Value} {c:Core} (rpc:RCore Φ d0 c) (G:Glob Φ) (hm:Mem Φ K w) :
  Calls Tryz.prog 43 (List.toArray [.agg d0.toArray]) w (fun ee w'=>∃y:Fz×Addr,ee=.returned (.tuple (List.toArray [(if z1g c=0 then .pointer (some y.2) else .pointer none),.int .i64 (z1g c)]))∧(Φ.Le y.1∧(z1g c=0→RTable y.1 y.2 (z0f c)∧z4y c=false))∧Mem y.1 K w'):=by
 obtain ⟨v,hx,hv⟩:=rpc.x
 refine (lookX_ok hx (Thaw.none hv) G hm).mono fun ee w' h =>?_
 obtain ⟨y,h1,⟨h2,h3⟩,h4⟩:=h
 exact ⟨y,h1,⟨h2,fun h0=>⟨(h3 h0).1.full (show SliceOf RStr y.1 1 v c.outputs from hv.mono RStr.mono h2),(h3 h0).2⟩⟩,h4⟩
theorem check_ok {Φ:Fz} {K:List Res} {w:World} {d0:List Value} {c:Core} (rpc:RCore Φ d0 c) (G:Glob Φ) (hm:Mem Φ K w) :
  Calls Tryz.prog 36 (List.toArray [.agg d0.toArray]) w (fun ee w'=>ee=.returned (.int .i64 (z1g c))∧Mem Φ K w'):=by
 obtain ⟨p3,c4,p9,c10,p15,c16,p21,c22,rfl,h2,h8,h14,h20,hm5,hn6,hm11,hn12,hm17,hn18,hm23,hn24⟩:=RCore.fm rpc
 refine z0l func36 ntmps36 fun Q hQ a he =>?_
 refine Bx he hm fun b26 w hm a he =>?_
 refine z2i call43 he hm (fun y28 w hG29 hm a he =>?_) (c:=look_ok rpc G hm)
 obtain ⟨Ψ30,p31⟩:=y28
 obtain ⟨le32,hT33⟩:=hG29
 simp only at le32 hT33 hm he
 replace rpc:=RCore.mono _ _ _ _ le32 rpc
 replace G:=G.mono le32
 replace hm:=hm.nf
 by_cases hlk34:z1g c=0
 obtain ⟨hT35,hlong36⟩:=hT33 hlk34
 rw [if_pos hlk34,hlk34] at he
 refine go he hm fun a he =>?_
 replace hm:=hm.le (le32)
 replace hm:=hm.dl [0]
 refine Ret1 hQ he hm ?_
 exact ret_i hm (by exact hlk34.symm)
 rw [if_neg hlk34] at he
 refine go he hm fun a he =>?_
 replace hm:=hm.le (le32)
 replace hm:=hm.dl [0]
 refine Ret1 hQ he hm ?_
 exact ret_i hm (by rfl)
end Go.Sw

namespace Go.Sw
open Go.Proofs.Tryz
open Go.Proofs
set_option maxRecDepth 20000
set_option maxHeartbeats 4000000
variable {Φ:Fz} {K:List Res} {w:World}
theorem eqFunc_Val {g:Nat} {fs cs:List Value} {v0 v1:Value} {l:List Val} {m:List Param} {p:Val→Param→Bool} (rl:SliceOf RVal Φ 3 v0 l) (rm:SliceOf RParam Φ 2 v1 m)
  (hg:∀args w,(callFunc g args).run Tryz.prog w=.ok (.enter g args) w)
  (hf:∀x c y d w,x∈l→y∈m→RVal Φ c x→RParam Φ d y→Mem Φ K w→Calls Tryz.prog g (fs++[Value.agg c.toArray,Value.agg d.toArray]++cs).toArray w (fun e w'=>e=.returned (.bool (p x y))∧Mem Φ K w'))
  (hm:Mem Φ K w):Calls Tryz.prog 59 (List.toArray [v0,v1,.func (.func g) fs.toArray cs.toArray]) w (fun ee w'=>ee=.returned (.bool (eqF p l m))∧Mem Φ K w'):=by
 obtain ⟨p0,c0,rfl,hm0,hn0⟩:=rl.fm
 obtain ⟨p1,c1,rfl,hm1,hn1⟩:=rm.fm
 refine z0l func59 ntmps59 fun Q hQ a he =>?_
 refine go he hm fun a he =>?_
 by_cases h4:l.length=m.length
 refine go he hm fun a he =>?_
 refine z1i (he.ks [1,2,15,16]) hm (fun R mm a w=>∃(i:Nat),mm=l.length - i∧R Φ [(17,.int .i64 ((i:Nat):Int))] [] a w∧(eqF p l m=eqF p (l.drop i) (m.drop i))) (l.length - 0) ⟨0,rfl,⟨he.pk,hm⟩,rfl⟩ ?_
 clear hm he
 rintro mm a w ⟨i,hmu,⟨he,hm⟩,hI8⟩ L7 hL7
 refine go he hm fun a he =>?_
 by_cases h10:i < l.length
 refine go he hm fun a he =>?_
 obtain ⟨q14,rfl,x15,hx16,cs17,hl18,ha19,hr20⟩:=rl.el hn0 h10
 obtain ⟨p23,c24,rfl,hi27,h22,hm25,hn26⟩:=RVal.fm hr20
 refine Alc he hm fun b28 w hm a he =>?_
 refine Sto 0 he hm fun w hm a he =>?_
 refine go he hm fun a he =>?_
 have hb30:i < m.length:=by omega
 obtain ⟨q31,rfl,x32,hx33,cs34,hl35,ha36,hr37⟩:=rm.el hn1 hb30
 obtain rfl:=id hr37
 refine Alc he hm fun b38 w hm a he =>?_
 refine Sto 0 he hm fun w hm a he =>?_
 refine go he hm fun a he =>?_
 replace hm:=hm.dl [1,0]
 refine FunB hg he hm (fun hB40 w hm a he =>?_) (fun hB40 w hm a he =>?_) (c:=by exact hf _ _ _ _ _ (List.mem_of_getElem? hx16) (List.mem_of_getElem? hx33) hr20 hr37 hm)
 refine go he hm fun a he =>?_
 refine hL7 _ _ _ (by subst hmu;omega) ⟨(i+1),rfl,⟨he.pk,hm⟩,?_⟩
 rw [hI8,z0a hx16,z0a hx33];simp [eqF, *]
 refine Ret1 hQ he hm ?_
 exact z0v hm (by rw [hI8,z0a hx16,z0a hx33];simp [eqF, *])
 refine Ret1 hQ he hm ?_
 exact z0v hm (by rw [hI8,z0g h10,z0g (l:=m) (by omega)];rfl)
 refine Ret1 hQ he hm ?_
 exact z0v hm (by rw [eqF_len (by assumption)])
theorem eqFunc_Named {g:Nat} {fs cs:List Value} {v0 v1:Value} {l:List Named} {m:List Param} {p:Named→Param→Bool} (rl:SliceOf RNamed Φ 4 v0 l) (rm:SliceOf RParam Φ 2 v1 m)
  (hg:∀args w,(callFunc g args).run Tryz.prog w=.ok (.enter g args) w)
  (hf:∀x c y d w,x∈l→y∈m→RNamed Φ c x→RParam Φ d y→Mem Φ K w→Calls Tryz.prog g (fs++[Value.agg c.toArray,Value.agg d.toArray]++cs).toArray w (fun e w'=>e=.returned (.bool (p x y))∧Mem Φ K w'))
  (hm:Mem Φ K w):Calls Tryz.prog 100 (List.toArray [v0,v1,.func (.func g) fs.toArray cs.toArray]) w (fun ee w'=>ee=.returned (.bool (eqF p l m))∧Mem Φ K w'):=by
 obtain ⟨p0,c0,rfl,hm0,hn0⟩:=rl.fm
 obtain ⟨p1,c1,rfl,hm1,hn1⟩:=rm.fm
 refine z0l func100 ntmps100 fun Q hQ a he =>?_
 refine go he hm fun a he =>?_
 by_cases h4:l.length=m.length
 refine go he hm fun a he =>?_
 refine z1i (he.ks [1,2,15,16]) hm (fun R mm a w=>∃(i:Nat),mm=l.length - i∧R Φ [(17,.int .i64 ((i:Nat):Int))] [] a w∧(eqF p l m=eqF p (l.drop i) (m.drop i))) (l.length - 0) ⟨0,rfl,⟨he.pk,hm⟩,rfl⟩ ?_
 clear hm he
 rintro mm a w ⟨i,hmu,⟨he,hm⟩,hI8⟩ L7 hL7
 refine go he hm fun a he =>?_
 by_cases h10:i < l.length
 refine go he hm fun a he =>?_
 obtain ⟨q14,rfl,x15,hx16,cs17,hl18,ha19,hr20⟩:=rl.el hn0 h10
 obtain ⟨b21,rfl,h22⟩:=id hr20
 obtain ⟨p25,c26,rfl,hi29,h24,hm27,hn28⟩:=RVal.fm h22
 refine Alc he hm fun b30 w hm a he =>?_
 refine Sto 0 he hm fun w hm a he =>?_
 refine go he hm fun a he =>?_
 have hb32:i < m.length:=by omega
 obtain ⟨q33,rfl,x34,hx35,cs36,hl37,ha38,hr39⟩:=rm.el hn1 hb32
 obtain rfl:=id hr39
 refine Alc he hm fun b40 w hm a he =>?_
 refine Sto 0 he hm fun w hm a he =>?_
 refine go he hm fun a he =>?_
 replace hm:=hm.dl [1,0]
 refine FunB hg he hm (fun hB42 w hm a he =>?_) (fun hB42 w hm a he =>?_) (c:=by exact hf _ _ _ _ _ (List.mem_of_getElem? hx16) (List.mem_of_getElem? hx35) hr20 hr39 hm)
 refine go he hm fun a he =>?_
 refine hL7 _ _ _ (by subst hmu;omega) ⟨(i+1),rfl,⟨he.pk,hm⟩,?_⟩
 rw [hI8,z0a hx16,z0a hx35];simp [eqF, *]
 refine Ret1 hQ he hm ?_
 exact z0v hm (by rw [hI8,z0a hx16,z0a hx35];simp [eqF, *])
 refine Ret1 hQ he hm ?_
 exact z0v hm (by rw [hI8,z0g h10,z0g (l:=m) (by omega)];rfl)
 refine Ret1 hQ he hm ?_
 exact z0v hm (by rw [eqF_len (by assumption)])
theorem large1_step {left:Int} {d0:List Value} {v:Val} {b1:Nat} {b2:Nat} (rpv:RVal Φ d0 v) (ih:∀x:Val,x.sz < v.sz→∀{Φ:Fz} {K:List Res} {w:World} {d:List Value} {b1 b2:Nat} {left:Int},RVal Φ d x→Mem Φ (.blk b1 (ob [.int .i64 left] 3)::.blk b2 (ob [.func (.func 105) (List.toArray []) (List.toArray [.pointer (some ⟨b1,0,none⟩),.pointer (some ⟨b2,0,none⟩)])] 108)::K) w→Calls Tryz.prog 105 (List.toArray [.agg d.toArray,.pointer (some ⟨b1,0,none⟩),.pointer (some ⟨b2,0,none⟩)]) w (fun ee w'=>ee=.returned (.bool (z3t x left).1)∧Mem Φ (.blk b1 (ob [.int .i64 (z3t x left).2] 3)::.blk b2 (ob [.func (.func 105) (List.toArray []) (List.toArray [.pointer (some ⟨b1,0,none⟩),.pointer (some ⟨b2,0,none⟩)])] 108)::K) w')) (hm:Mem Φ (.blk b1 (ob [.int .i64 (left)] 3)::.blk b2 (ob [.func (.func 105) (List.toArray []) (List.toArray [.pointer (some ⟨b1,0,none⟩),.pointer (some ⟨b2,0,none⟩)])] 108)::K) w) :
  Calls Tryz.prog 105 (List.toArray [.agg d0.toArray,.pointer (some ⟨b1,0,none⟩),.pointer (some ⟨b2,0,none⟩)]) w (fun ee w'=>ee=.returned (.bool ((z3t v left).1))∧Mem Φ (.blk b1 (ob [.int .i64 ((z3t v left).2)] 3)::.blk b2 (ob [.func (.func 105) (List.toArray []) (List.toArray [.pointer (some ⟨b1,0,none⟩),.pointer (some ⟨b2,0,none⟩)])] 108)::K) w'):=by
 obtain ⟨p3,c4,rfl,hi7,h2,hm5,hn6⟩:=RVal.fm rpv
 refine z0l func105 ntmps105 fun Q hQ a he =>?_
 refine Bx he hm fun b9 w hm a he =>?_
 refine Qq he hm (fun a he =>?_) (o:=by exact fun _ _ _ he hs=>z7h _ he rfl rfl rfl)
 refine Sto 1 he hm fun w hm a he =>?_
 refine go he hm fun a he =>?_
 by_cases h12:IntKind.i64.wrap (left - 1) < 0
 refine go he hm fun a he =>?_
 replace hm:=hm.dl [0]
 refine Ret1 hQ he hm ?_
 have hr_:z3t v left=(true,IntKind.i64.wrap (left - 1)):=by
  rw [largeS_eq,if_pos h12]
 show _∧_;rw [hr_];exact ⟨rfl,hm⟩
 replace hm:=hm.ar [] [2,2]
 refine z0y call49 he hm (fun w hm a he =>?_) (c:=containsFunc_Val (Φ:=Φ) (σ:=Int) (step:=fun s x=>z3t x s) (Kf:=fun s=>.blk b1 (ob [.int .i64 s] 3)::.blk b2 (ob [.func (.func 105) (List.toArray []) (List.toArray [.pointer (some ⟨b1,0,none⟩),.pointer (some ⟨b2,0,none⟩)])] 108)::.blk b9 (ob [.string v.con,.int .i64 (v.num),.slice p3 v.args.length c4] 42)::K) (s0:=IntKind.i64.wrap (left - 1)) (fs:=[]) (cs:=[.pointer (some ⟨b1,0,none⟩),.pointer (some ⟨b2,0,none⟩)]) h2 call105 (fun s x c w hx hc hm=>ih x (Val.lt_args hx) hc hm) hm)
 replace hm:=hm.nf
 refine go he hm fun a he =>?_
 replace hm:=hm.dl [2]
 refine Ret1 hQ he hm ?_
 have hr_:z3t v left=(hitF (fun s x=>z3t x s) (IntKind.i64.wrap (left - 1)) v.args,(z1k (fun s x=>z3t x s) (IntKind.i64.wrap (left - 1)) v.args 0).2):=by
  rw [largeS_eq,if_neg h12];exact Prod.ext (larges_hit v.args _ 0).1 (larges_hit v.args _ 0).2
 show _∧_;rw [hr_];exact ⟨rfl,hm⟩
theorem large1_ok {d:List Value} {v:Val} {b1 b2:Nat} {left:Int} (rv:RVal Φ d v) (hm:Mem Φ (.blk b1 (ob [.int .i64 left] 3)::.blk b2 (ob [.func (.func 105) (List.toArray []) (List.toArray [.pointer (some ⟨b1,0,none⟩),.pointer (some ⟨b2,0,none⟩)])] 108)::K) w) :
  Calls Tryz.prog 105 (List.toArray [.agg d.toArray,.pointer (some ⟨b1,0,none⟩),.pointer (some ⟨b2,0,none⟩)]) w (fun ee w'=>ee=.returned (.bool (z3t v left).1)∧Mem Φ (.blk b1 (ob [.int .i64 (z3t v left).2] 3)::.blk b2 (ob [.func (.func 105) (List.toArray []) (List.toArray [.pointer (some ⟨b1,0,none⟩),.pointer (some ⟨b2,0,none⟩)])] 108)::K) w'):=by
 suffices H:∀n (x:Val),x.sz < n→∀{Φ:Fz} {K:List Res} {w:World} {d:List Value} {b1 b2:Nat} {left:Int},RVal Φ d x→Mem Φ (.blk b1 (ob [.int .i64 left] 3)::.blk b2 (ob [.func (.func 105) (List.toArray []) (List.toArray [.pointer (some ⟨b1,0,none⟩),.pointer (some ⟨b2,0,none⟩)])] 108)::K) w →
   Calls Tryz.prog 105 (List.toArray [.agg d.toArray,.pointer (some ⟨b1,0,none⟩),.pointer (some ⟨b2,0,none⟩)]) w (fun ee w'=>ee=.returned (.bool (z3t x left).1)∧Mem Φ (.blk b1 (ob [.int .i64 (z3t x left).2] 3)::.blk b2 (ob [.func (.func 105) (List.toArray []) (List.toArray [.pointer (some ⟨b1,0,none⟩),.pointer (some ⟨b2,0,none⟩)])] 108)::K) w') from H _ v (Nat.lt_succ_self _) rv hm
 intro n
 induction n with
 | zero=>intro e h;omega
 | succ n ih=>intro x h Φ K w d b1 b2 left rv hm;exact large1_step rv (fun y hy _ _ _ _ _ _ _ r m=>ih y (by omega) r m) hm
theorem large_ok {d0:List Value} {v:Val} (rpv:RVal Φ d0 v) (hm:Mem Φ K w) :
  Calls Tryz.prog 50 (List.toArray [.agg d0.toArray]) w (fun ee w'=>ee=.returned (.bool (z6e v))∧Mem Φ K w'):=by
 obtain ⟨p3,c4,rfl,hi7,h2,hm5,hn6⟩:=RVal.fm rpv
 refine z0l func50 ntmps50 fun Q hQ a he =>?_
 refine Bx he hm fun b9 w hm a he =>?_
 refine Alc he hm fun b11 w hm a he =>?_
 refine Sto 0 he hm fun w hm a he =>?_
 refine Alc he hm fun b13 w hm a he =>?_
 refine Sto 0 he hm fun w hm a he =>?_
 replace hm:=hm.pl 1
 refine FunR call105 he hm (fun w hm a he =>?_) (c:=by exact large1_ok rpv hm)
 refine go he hm fun a he =>?_
 replace hm:=hm.dl [2,1,0]
 refine Ret1 hQ he hm ?_
 exact z0v hm (by rfl)
theorem has_step {p0:Addr} {T:Table} {name:Bs} {d2:List Value} {v:Val} (rpT:RTable Φ p0 T) (rpv:RVal Φ d2 v) (ih:∀x:Val,x.sz < v.sz→∀{Φ:Fz} {K:List Res} {w:World} {p:Addr} {d:List Value} {name:Bs},RTable Φ p T→RVal Φ d x→Mem Φ K w→Calls Tryz.prog 61 (List.toArray [.pointer (some p),.string name,.agg d.toArray]) w (fun ee w'=>ee=.returned (.bool (hasP T x name))∧Mem Φ K w')) (hm:Mem Φ K w) :
  Calls Tryz.prog 61 (List.toArray [.pointer (some p0),.string name,.agg d2.toArray]) w (fun ee w'=>ee=.returned (.bool (hasP T v name))∧Mem Φ K w'):=by
 obtain ⟨cs17,m1,m2,m3,m4,d5,d6,d7,d8,hat18,hcl19,hcore20,ma9,mr13,ma10,mr14,ma11,mr15,ma12,mr16⟩:=rpT.ex
 obtain ⟨p23,c24,p29,c30,p35,c36,p41,c42,rfl,h22,h28,h34,h40,hm25,hn26,hm31,hn32,hm37,hn38,hm43,hn44⟩:=RCore.fm hcore20
 obtain ⟨p47,c48,rfl,hi51,h46,hm49,hn50⟩:=RVal.fm rpv
 refine z0l func61 ntmps61 fun Q hQ a he =>?_
 refine Bx he hm fun b53 w hm a he =>?_
 refine go he hm fun a he =>?_
 by_cases h56:v.con=(⟨#[]⟩:ByteArray)
 refine go he hm fun a he =>?_
 by_cases h58:name=(⟨#[73,110,116]⟩:ByteArray)
 refine Qq he hm (fun a he =>?_) (o:=by exact fun _ _ _ he hs=>y_ieqlN (i:=v.args.length) (j:=0) he rfl rfl)
 refine go he hm fun a he =>?_
 replace hm:=hm.dl [0]
 refine Ret1 hQ he hm ?_
 exact z0v hm (by rw [hasP_eq,if_pos (by simp [sNo,sInt, *])];simp [sNo,sInt, *])
 refine go he hm fun a he =>?_
 replace hm:=hm.dl [0]
 refine Ret1 hQ he hm ?_
 exact z0v hm (by rw [hasP_eq,if_pos (by simp [sNo,sInt, *])];simp [sNo,sInt, *])
 refine go he hm fun a he =>?_
 by_cases h59:name=(⟨#[73,110,116]⟩:ByteArray)
 refine go he hm fun a he =>?_
 replace hm:=hm.dl [0]
 refine Ret1 hQ he hm ?_
 exact z0v hm (by rw [hasP_eq,if_pos (by simp [sNo,sInt, *])];simp [sNo,sInt, *])
 refine Reg [1,1,1,2,1,2,2,1,1,1,0,0,1] [0] he hm fun w hm a he =>?_
 refine go he hm fun a he =>?_
 rcases hf62:mget (d6) v.con with _ | vf63
 have hf62_:=congrArg (z0i true (.agg (List.toArray [.string ⟨#[]⟩,.string ⟨#[]⟩,.slice none 0 0]))) hf62
 refine Qq he hm (fun a he =>?_) (o:=by exact fun _ _ _ he hs=>Ok.cast (z0o runUnderlying102 runUnderlying9 zeroValue190 he hs rfl rfl ma10) (show z0i true (.agg (List.toArray [.string ⟨#[]⟩,.string ⟨#[]⟩,.slice none 0 0])) (mget (d6) v.con)=.tuple (List.toArray [.agg (List.toArray [.string ⟨#[]⟩,.string ⟨#[]⟩,.slice none 0 0]),.bool false]) from hf62_))
 refine Alc he hm fun b64 w hm a he =>?_
 refine Sto 0 he hm fun w hm a he =>?_
 refine go he hm fun a he =>?_
 replace hm:=hm.dl [1,0]
 refine Ret1 hQ he hm ?_
 exact z0v hm (by have e_:=MapRel.none mr14 hf62;rw [hasP_eq,if_neg (by simp [sNo,sInt, *])];simp [e_])
 obtain ⟨y68,hy69,cs70,rfl,hr71⟩:=mr14.get hf62
 obtain ⟨b72,rfl,h73⟩:=id hr71
 obtain ⟨s74,rfl,h75⟩:=id h73
 obtain ⟨p76,c77,rfl,hm78,hn79⟩:=h75.fm
 have hf62_:=congrArg (z0i true (.agg (List.toArray [.string ⟨#[]⟩,.string ⟨#[]⟩,.slice none 0 0]))) hf62
 refine Qq he hm (fun a he =>?_) (o:=by exact fun _ _ _ he hs=>Ok.cast (z0o runUnderlying102 runUnderlying9 zeroValue190 he hs rfl rfl ma10) (show z0i true (.agg (List.toArray [.string ⟨#[]⟩,.string ⟨#[]⟩,.slice none 0 0])) (mget (d6) v.con)=.tuple (List.toArray [.agg (List.toArray [.string y68.data,.string y68.con.name,.slice p76 y68.con.fields.length c77]),.bool true]) from hf62_))
 refine Alc he hm fun b80 w hm a he =>?_
 refine Sto 0 he hm fun w hm a he =>?_
 refine go he hm fun a he =>?_
 by_cases h83:y68.data=name
 refine go he hm fun a he =>?_
 by_cases h84:v.num=0
 refine go he hm fun a he =>?_
 by_cases h85:y68.con.fields.length=v.args.length
 refine go he hm fun a he =>?_
 have hI_:hasP T v name=hasL T v.args y68.con.fields:=by
  rw [hasP_eq,if_neg (by simp [sNo,sInt, *])]
  simp only [hy69]
  simp [*]
 refine go he hm fun a he =>?_
 refine z1i (he.ks [0,7,65,66]) hm (fun R mm a w=>∃(i:Nat),mm=v.args.length - i∧R Φ [(67,.int .i64 ((i:Nat):Int))] [] a w∧(hasL T v.args y68.con.fields=hasL T (v.args.drop i) (y68.con.fields.drop i))) (v.args.length - 0) ⟨0,rfl,⟨he.pk,hm⟩,rfl⟩ ?_
 clear hm he
 rintro mm a w ⟨i,hmu,⟨he,hm⟩,hI89⟩ L88 hL88
 refine go he hm fun a he =>?_
 by_cases h91:i < v.args.length
 refine go he hm fun a he =>?_
 obtain ⟨q95,rfl,x96,hx97,cs98,hl99,ha100,hr101⟩:=h46.el hn50 h91
 obtain ⟨p104,c105,rfl,hi108,h103,hm106,hn107⟩:=RVal.fm hr101
 refine Alc he hm fun b109 w hm a he =>?_
 refine Sto 0 he hm fun w hm a he =>?_
 refine Reg [1,1,1,2,1,1,2,2,0,1] [0,1,2] he hm fun w hm a he =>?_
 refine go he hm fun a he =>?_
 have hb111:i < y68.con.fields.length:=by omega
 obtain ⟨q112,rfl,x113,hx114,cs115,hl116,ha117,hr118⟩:=h75.el hn79 hb111
 obtain rfl:cs115=[.string x113]:=hr118
 refine z1n call61 he hm (fun hB119 w hm a he =>?_) (fun hB119 w hm a he =>?_) (c:=ih _ (Val.lt_args (List.mem_of_getElem? hx97)) rpT hr101 hm)
 refine go he hm fun a he =>?_
 replace hm:=hm.dl [0]
 refine hL88 _ _ _ (by subst hmu;omega) ⟨(i+1),rfl,⟨he.pk,hm⟩,?_⟩
 rw [hI89,z0a hx97,z0a hx114,hasL_cons,hB119];rfl
 refine go he hm fun a he =>?_
 replace hm:=hm.dl [2,1,0]
 refine Ret1 hQ he hm ?_
 exact z0v hm (by rw [hI_,hI89,z0a hx97,z0a hx114];simp [hasL,hB119])
 refine go he hm fun a he =>?_
 replace hm:=hm.dl [1,0]
 refine Ret1 hQ he hm ?_
 exact z0v hm (by rw [hI_,hI89,z0g h91];rfl)
 refine go he hm fun a he =>?_
 replace hm:=hm.dl [1,0]
 refine Ret1 hQ he hm ?_
 exact z0v hm (by rw [hasP_eq,if_neg (by simp [sNo,sInt, *])];simp only [hy69];simp [*])
 refine go he hm fun a he =>?_
 replace hm:=hm.dl [1,0]
 refine Ret1 hQ he hm ?_
 exact z0v hm (by rw [hasP_eq,if_neg (by simp [sNo,sInt, *])];simp only [hy69];simp [*])
 refine go he hm fun a he =>?_
 replace hm:=hm.dl [1,0]
 refine Ret1 hQ he hm ?_
 exact z0v hm (by rw [hasP_eq,if_neg (by simp [sNo,sInt, *])];simp only [hy69];simp [*])
theorem has_ok {T:Table} {Φ:Fz} {K:List Res} {w:World} {p:Addr} {d:List Value} {name:Bs} {v:Val} (rT:RTable Φ p T) (rv:RVal Φ d v) (hm:Mem Φ K w) :
  Calls Tryz.prog 61 (List.toArray [.pointer (some p),.string name,.agg d.toArray]) w (fun ee w'=>ee=.returned (.bool (hasP T v name))∧Mem Φ K w'):=by
 suffices H:∀n (x:Val),x.sz < n→∀{Φ:Fz} {K:List Res} {w:World} {p:Addr} {d:List Value} {name:Bs},RTable Φ p T→RVal Φ d x→Mem Φ K w →
   Calls Tryz.prog 61 (List.toArray [.pointer (some p),.string name,.agg d.toArray]) w (fun ee w'=>ee=.returned (.bool (hasP T x name))∧Mem Φ K w') from H _ v (Nat.lt_succ_self _) rT rv hm
 intro n
 induction n with
 | zero=>intro e h;omega
 | succ n ih=>intro x h Φ K w p d name rT rv hm;exact has_step rT rv (fun y hy _ _ _ _ _ _ r1 r2 m=>ih y (by omega) r1 r2 m) hm
theorem given1_ok {pt:Addr} {T:Table} {d0:List Value} {v:Named} {d1:List Value} {p:Param} {b:Nat} (rpv:RNamed Φ d0 v) (rpp:RParam Φ d1 p) (rT:RTable Φ pt T) (hm:Mem Φ (.blk b (ob [.pointer (some pt)] 89)::K) w) :
  Calls Tryz.prog 101 (List.toArray [.agg d0.toArray,.agg d1.toArray,.pointer (some ⟨b,0,none⟩)]) w (fun ee w'=>ee=.returned (.bool ((decide (v.name=p.name) && !z6e v.value&&hasP T v.value p.type)))∧Mem Φ (.blk b (ob [.pointer (some pt)] 89)::K) w'):=by
 obtain ⟨b1,rfl,h2⟩:=id rpv
 obtain ⟨p5,c6,rfl,hi9,h4,hm7,hn8⟩:=RVal.fm h2
 obtain rfl:=id rpp
 refine z0l func101 ntmps101 fun Q hQ a he =>?_
 refine Bx he hm fun b11 w hm a he =>?_
 refine Bx he hm fun b12 w hm a he =>?_
 refine go he hm fun a he =>?_
 by_cases h14:v.name=p.name
 refine z1n call50 he hm (fun hB15 w hm a he =>?_) (fun hB15 w hm a he =>?_) (c:=large_ok h2 hm)
 refine go he hm fun a he =>?_
 replace hm:=hm.dl [1,0]
 refine Ret1 hQ he hm ?_
 exact z0v hm (by simp [*])
 refine z0y call61 he hm (fun w hm a he =>?_) (c:=has_ok rT h2 hm)
 refine go he hm fun a he =>?_
 replace hm:=hm.dl [1,0]
 refine Ret1 hQ he hm ?_
 exact z0v hm (by simp [*])
 refine go he hm fun a he =>?_
 replace hm:=hm.dl [1,0]
 refine Ret1 hQ he hm ?_
 exact z0v hm (by simp [*])
theorem given_ok {p0:Addr} {T:Table} {v1:Value} {l:List Named} (rpT:RTable Φ p0 T) (rpl:SliceOf RNamed Φ 4 v1 l) (hm:Mem Φ K w) :
  Calls Tryz.prog 44 (List.toArray [.pointer (some p0),v1]) w (fun ee w'=>ee=.returned (.bool (z9b T l T.core.inputs))∧Mem Φ K w'):=by
 obtain ⟨cs17,m1,m2,m3,m4,d5,d6,d7,d8,hat18,hcl19,hcore20,ma9,mr13,ma10,mr14,ma11,mr15,ma12,mr16⟩:=rpT.ex
 obtain ⟨p23,c24,p29,c30,p35,c36,p41,c42,rfl,h22,h28,h34,h40,hm25,hn26,hm31,hn32,hm37,hn38,hm43,hn44⟩:=RCore.fm hcore20
 obtain ⟨p1,c1,rfl,hm1,hn1⟩:=rpl.fm
 refine z0l func44 ntmps44 fun Q hQ a he =>?_
 refine Bx he hm fun b46 w hm a he =>?_
 refine z0y call100 he hm (fun w hm a he =>?_) (c:=eqFunc_Named (Φ:=Φ) (K:=.blk b46 (ob [.pointer (some p0)] 89)::K) (p:=fun v p=>decide (v.name=p.name) && !z6e v.value&&hasP T v.value p.type) (fs:=[]) (cs:=[.pointer (some ⟨b46,0,none⟩)]) rpl h28 call101 (fun x c y d w hx hy hc hd hm=>given1_ok hc hd rpT hm) hm)
 refine go he hm fun a he =>?_
 replace hm:=hm.dl [0]
 refine Ret1 hQ he hm ?_
 exact z0v hm (by rw [givenP_eq])
end Go.Sw

namespace Go.Sw
open Go.Proofs.Tryz
open Go.Proofs
set_option maxRecDepth 20000
set_option maxHeartbeats 4000000
theorem operate1_ok {Φ:Fz} {K:List Res} {w:World} {b:Bool}  (hm:Mem Φ K w) :
  Calls Tryz.prog 196 (List.toArray [.bool b]) w (fun ee w'=>∃yy:Fz×List Value,ee=.returned (.agg yy.2.toArray)∧(Φ.Le yy.1∧RVal yy.1 yy.2 (vSaid b))∧Mem yy.1 K w'):=by
 refine z0l func196 ntmps196 fun Q hQ a he =>?_
 refine Alc he hm fun b2 w hm a he =>?_
 refine go he hm fun a he =>?_
 cases b
 refine z1h he hm fun a he =>?_
 refine Sto 0 he hm fun w hm a he =>?_
 refine go he hm fun a he =>?_
 have hmr:=hm
 replace hm:=hm.dl [0]
 refine RetA hQ he hmr ?_
 exact ⟨(Φ,_),rfl,⟨Fz.Le.refl _,by
  rw [show vSaid false=Val.mk (⟨#[70,97,108,115,101]⟩:ByteArray) (0) [] by rfl]
  exact RVal.iff.2 ⟨_,rfl,(show I64 0 by unfold I64;omega),SliceOf.nil 3⟩⟩,hm⟩
 refine z1h he hm fun a he =>?_
 refine Sto 0 he hm fun w hm a he =>?_
 refine go he hm fun a he =>?_
 have hmr:=hm
 replace hm:=hm.dl [0]
 refine RetA hQ he hmr ?_
 exact ⟨(Φ,_),rfl,⟨Fz.Le.refl _,by
  rw [show vSaid true=Val.mk (⟨#[84,114,117,101]⟩:ByteArray) (0) [] by rfl]
  exact RVal.iff.2 ⟨_,rfl,(show I64 0 by unfold I64;omega),SliceOf.nil 3⟩⟩,hm⟩
theorem i64_tmod {a b:Int} (h:I64 a):I64 (a.tmod b):=by
 unfold I64 at *
 have h1:=Int.natAbs_tmod a b
 have h2:a.natAbs % b.natAbs≤a.natAbs:=Nat.mod_le _ _
 by_cases h0:0≤a
 have:=Int.tmod_nonneg b h0;omega
 have:a.tmod b≤0:=by
  have:=Int.tmod_nonneg b (show 0≤-a by omega)
  rw [Int.neg_tmod] at this;omega
 omega
theorem operate_ok {Φ:Fz} {K:List Res} {w:World} {op:Bs} {x y:Int} (ha:I64 x) (hb:I64 y) (hm:Mem Φ K w) :
  Calls Tryz.prog 159 (List.toArray [.string op,.int .i64 x,.int .i64 y]) w (fun ee w'=>∃yy:Fz×List Value,ee=.returned (.agg yy.2.toArray)∧(Φ.Le yy.1∧RVal yy.1 yy.2 (z2m op x y))∧Mem yy.1 K w'):=by
 refine z0l func159 ntmps159 fun Q hQ a he =>?_
 refine Alc he hm fun b2 w hm a he =>?_
 refine go he hm fun a he =>?_
 by_cases h7:op=(⟨#[43]⟩:ByteArray)
 refine Qq he hm (fun a he =>?_) (o:=by exact fun _ _ _ he hs=>y_add _ he rfl rfl rfl)
 refine z1h he hm fun a he =>?_
 refine Sto 0 he hm fun w hm a he =>?_
 refine go he hm fun a he =>?_
 have hmr:=hm
 replace hm:=hm.dl [0]
 refine RetA hQ he hmr ?_
 exact ⟨(Φ,_),rfl,⟨Fz.Le.refl _,by
  rw [show z2m op x y=Val.mk (⟨#[]⟩:ByteArray) (IntKind.i64.wrap (x+y)) [] by simp [z2m,vNum,v0,vSaid,sNo, *]]
  exact RVal.iff.2 ⟨_,rfl,(by first | exact I64.of_wrap _ | exact i64_tmod ha | exact (show I64 0 from ⟨by decide,by decide⟩)),SliceOf.nil 3⟩⟩,hm⟩
 refine go he hm fun a he =>?_
 by_cases h10:op=(⟨#[45]⟩:ByteArray)
 refine Qq he hm (fun a he =>?_) (o:=by exact fun _ _ _ he hs=>z7h _ he rfl rfl rfl)
 refine z1h he hm fun a he =>?_
 refine Sto 0 he hm fun w hm a he =>?_
 refine go he hm fun a he =>?_
 have hmr:=hm
 replace hm:=hm.dl [0]
 refine RetA hQ he hmr ?_
 exact ⟨(Φ,_),rfl,⟨Fz.Le.refl _,by
  rw [show z2m op x y=Val.mk (⟨#[]⟩:ByteArray) (IntKind.i64.wrap (x - y)) [] by simp [z2m,vNum,v0,vSaid,sNo, *]]
  exact RVal.iff.2 ⟨_,rfl,(by first | exact I64.of_wrap _ | exact i64_tmod ha | exact (show I64 0 from ⟨by decide,by decide⟩)),SliceOf.nil 3⟩⟩,hm⟩
 refine go he hm fun a he =>?_
 by_cases h13:op=(⟨#[42]⟩:ByteArray)
 refine Qq he hm (fun a he =>?_) (o:=by exact fun _ _ _ he hs=>y_mul _ he rfl rfl rfl)
 refine z1h he hm fun a he =>?_
 refine Sto 0 he hm fun w hm a he =>?_
 refine go he hm fun a he =>?_
 have hmr:=hm
 replace hm:=hm.dl [0]
 refine RetA hQ he hmr ?_
 exact ⟨(Φ,_),rfl,⟨Fz.Le.refl _,by
  rw [show z2m op x y=Val.mk (⟨#[]⟩:ByteArray) (IntKind.i64.wrap (x * y)) [] by simp [z2m,vNum,v0,vSaid,sNo, *]]
  exact RVal.iff.2 ⟨_,rfl,(by first | exact I64.of_wrap _ | exact i64_tmod ha | exact (show I64 0 from ⟨by decide,by decide⟩)),SliceOf.nil 3⟩⟩,hm⟩
 refine go he hm fun a he =>?_
 by_cases h16:op=(⟨#[60]⟩:ByteArray)
 refine Qq he hm (fun a he =>?_) (o:=by exact fun _ _ _ he hs=>y_lssD he rfl rfl)
 refine st he rfl rfl rfl (z9s he rfl rfl call196 (operate1_ok (b:=(decide (x < y))) hm) (fun y18 w hG19 hm a he =>?_))
 obtain ⟨Ψ20,d21⟩:=y18
 obtain ⟨le22,hr23⟩:=hG19
 simp only at le22 hr23 hm he
 replace hm:=hm.nf
 obtain ⟨p26,c27,rfl,hi30,h25,hm28,hn29⟩:=RVal.fm hr23
 refine Sto 0 he hm fun w hm a he =>?_
 refine go he hm fun a he =>?_
 have hmr:=hm
 replace hm:=hm.dl [0]
 refine RetA hQ he hmr ?_
 exact ⟨(Ψ20,_),rfl,⟨le22,by
  rw [show z2m op x y=(vSaid (decide (x < y))) by simp [z2m, *]]
  exact hr23⟩,hm⟩
 refine go he hm fun a he =>?_
 by_cases h32:op=(⟨#[61]⟩:ByteArray)
 refine Qq he hm (fun a he =>?_) (o:=by exact fun _ _ _ he hs=>z8u he rfl rfl)
 refine st he rfl rfl rfl (z9s he rfl rfl call196 (operate1_ok (b:=(decide (x=y))) hm) (fun y34 w hG35 hm a he =>?_))
 obtain ⟨Ψ36,d37⟩:=y34
 obtain ⟨le38,hr39⟩:=hG35
 simp only at le38 hr39 hm he
 replace hm:=hm.nf
 obtain ⟨p42,c43,rfl,hi46,h41,hm44,hn45⟩:=RVal.fm hr39
 refine Sto 0 he hm fun w hm a he =>?_
 refine go he hm fun a he =>?_
 have hmr:=hm
 replace hm:=hm.dl [0]
 refine RetA hQ he hmr ?_
 exact ⟨(Ψ36,_),rfl,⟨le38,by
  rw [show z2m op x y=(vSaid (decide (x=y))) by simp [z2m, *]]
  exact hr39⟩,hm⟩
 refine go he hm fun a he =>?_
 by_cases h49:y=0
 refine z1h he hm fun a he =>?_
 refine Sto 0 he hm fun w hm a he =>?_
 refine go he hm fun a he =>?_
 have hmr:=hm
 replace hm:=hm.dl [0]
 refine RetA hQ he hmr ?_
 exact ⟨(Φ,_),rfl,⟨Fz.Le.refl _,by
  rw [show z2m op x y=Val.mk (⟨#[]⟩:ByteArray) (0) [] by simp [z2m,vNum,v0,vSaid,sNo, *]]
  exact RVal.iff.2 ⟨_,rfl,(by first | exact I64.of_wrap _ | exact i64_tmod ha | exact (show I64 0 from ⟨by decide,by decide⟩)),SliceOf.nil 3⟩⟩,hm⟩
 refine go he hm fun a he =>?_
 by_cases h53:op=(⟨#[47]⟩:ByteArray)
 refine Qq he hm (fun a he =>?_) (o:=by exact fun _ _ _ he hs=>y_quo _ he rfl rfl h49 rfl)
 refine z1h he hm fun a he =>?_
 refine Sto 0 he hm fun w hm a he =>?_
 refine go he hm fun a he =>?_
 have hmr:=hm
 replace hm:=hm.dl [0]
 refine RetA hQ he hmr ?_
 exact ⟨(Φ,_),rfl,⟨Fz.Le.refl _,by
  rw [show z2m op x y=Val.mk (⟨#[]⟩:ByteArray) (IntKind.i64.wrap (x.tdiv y)) [] by simp [z2m,vNum,v0,vSaid,sNo, *]]
  exact RVal.iff.2 ⟨_,rfl,(by first | exact I64.of_wrap _ | exact i64_tmod ha | exact (show I64 0 from ⟨by decide,by decide⟩)),SliceOf.nil 3⟩⟩,hm⟩
 refine Qq he hm (fun a he =>?_) (o:=by exact fun _ _ _ he hs=>y_rem _ he rfl rfl h49 rfl)
 refine z1h he hm fun a he =>?_
 refine Sto 0 he hm fun w hm a he =>?_
 refine go he hm fun a he =>?_
 have hmr:=hm
 replace hm:=hm.dl [0]
 refine RetA hQ he hmr ?_
 exact ⟨(Φ,_),rfl,⟨Fz.Le.refl _,by
  rw [show z2m op x y=Val.mk (⟨#[]⟩:ByteArray) (x.tmod y) [] by simp [z2m,vNum,v0,vSaid,sNo, *]]
  exact RVal.iff.2 ⟨_,rfl,(by first | exact I64.of_wrap _ | exact i64_tmod ha | exact (show I64 0 from ⟨by decide,by decide⟩)),SliceOf.nil 3⟩⟩,hm⟩
end Go.Sw

namespace Go.Sw
open Go.Proofs.Tryz
open Go.Proofs
set_option maxRecDepth 20000
set_option maxHeartbeats 4000000
variable {Φ:Fz} {K:List Res} {w:World}
theorem total_ok {v:Value} {l:List Int} (hlen:l.length≤1000000) (hm:Mem Φ (.gs v 3 1 (ints l)::K) w) :
  Calls Tryz.prog 47 (List.toArray [v]) w (fun ee w'=>ee=.returned (.int .i64 (totalP l))∧Mem Φ (.gs v 3 1 (ints l)::K) w'):=by
 obtain ⟨p0,m0,c0,rfl,hl0,hmx0⟩:=hm.toSees.gsForm (i:=0) rfl
 have hml:l.length=m0:=by simpa [ints_length] using hl0
 refine z0l func47 ntmps47 fun Q hQ a he =>?_
 refine go he hm fun a he =>?_
 refine z1i (he.ks [6,7]) hm (fun R mm a w=>∃(i:Nat) (q:Int),mm=m0 - i∧R Φ [(3,.int .i64 (q)),(8,.int .i64 ((i:Nat):Int))] [] a w∧(totalP (l.take i)=q)) (m0 - 0) ⟨0,0,rfl,⟨he.pk,hm⟩,rfl⟩ ?_
 clear hm he
 rintro mm a w ⟨i,q,hmu,⟨he,hm⟩,hI6⟩ L5 hL5
 refine go he hm fun a he =>?_
 by_cases h8:i < m0
 refine go he hm fun a he =>?_
 obtain ⟨q12,hq13⟩:=hm.toSees.gsSome (i:=0) rfl h8
 obtain ⟨x15,hx14⟩:=z2d (l:=l) (i:=i) (by omega)
 refine Qq he hm (fun a he =>?_) (o:=by exact fun _ _ _ he hs=>y_indexAddr (p:=q12) i he (by rw [← hq13];rfl) rfl runUnderlying93 sizeOf3 h8)
 refine Qq he hm (fun a he =>?_) (o:=by exact fun _ _ _ he hs=>y_load_gs 0 i he hs rfl (by rw [← hq13];rfl) (ints_get hx14) isAgg3)
 refine Qq he hm (fun a he =>?_) (o:=by exact fun _ _ _ he hs=>y_add _ he rfl rfl rfl)
 refine go he hm fun a he =>?_
 refine hL5 _ _ _ (by subst hmu;omega) ⟨(i+1),(IntKind.i64.wrap (q+x15)),rfl,⟨he.pk,by exact hm⟩,?_⟩
 rw [take_snoc hx14,z0w,hI6]
 refine Ret1 hQ he hm ?_
 exact ret_i hm (by rw [← hI6,take_all (by omega)])
theorem own_step {d:List Value} {v:Val} (ih:∀x:Val,x.sz < v.sz→Small x→∀{Φ:Fz} {K:List Res} {w:World} {d:List Value},RVal Φ d x→Mem Φ K w →
   Calls Tryz.prog 51 (List.toArray [.agg d.toArray]) w (fun ee w'=>∃yy:Fz×List Value,ee=.returned (.agg yy.2.toArray)∧(Φ.Le yy.1∧RVal yy.1 yy.2 x)∧Mem yy.1 K w')) (hs:Small v) (rv:RVal Φ d v) (hm:Mem Φ K w) :
  Calls Tryz.prog 51 (List.toArray [.agg d.toArray]) w (fun ee w'=>∃yy:Fz×List Value,ee=.returned (.agg yy.2.toArray)∧(Φ.Le yy.1∧RVal yy.1 yy.2 v)∧Mem yy.1 K w'):=by
 obtain ⟨p3,c4,rfl,hi7,h2,hm5,hn6⟩:=RVal.fm rv
 refine z0l func51 ntmps51 fun Q hQ a he =>?_
 refine Bx he hm fun b9 w hm a he =>?_
 refine Alc he hm fun b10 w hm a he =>?_
 refine z1h he hm fun a he =>?_
 refine Alc he hm fun b12 w hm a he =>?_
 refine Sto 0 he hm fun w hm a he =>?_
 refine go he hm fun a he =>?_
 replace hm:=hm.nilRow 42 3
 replace hm:=hm.nf
 refine go he hm fun a he =>?_
 refine z1i (he.ks [2,3,12,13]) hm (fun R mm a w=>∃(Ψ15:Fz) (i:Nat) (u:Value) (cs:List Value),mm=v.args.length - i∧R Ψ15 [(14,.int .i64 ((i:Nat):Int))] [(0,.gs (u) 42 3 cs),(1,.blk b12 (ob [.string v.con,.int .i64 (v.num),u] 42))] a w∧(Φ.Le Ψ15∧(Chunks (RVal Ψ15) 3 cs (v.args.take i)))) (v.args.length - 0) ⟨Φ,0,.slice none 0 0,[],rfl,⟨he.pk,hm⟩,⟨Fz.Le.refl _,rfl⟩⟩ ?_
 clear hm he
 rintro mm a w ⟨Ψ15,i,u,cs,hmu,⟨he,hm⟩,hI18⟩ L17 hL17
 replace hm:=hm.nf
 obtain ⟨le16,hI18⟩:=hI18
 replace h2:=h2.up le16
 replace rv:=RVal.mono _ _ _ _ le16 rv
 have hch:=hI18
 refine go he hm fun a he =>?_
 by_cases h20:i < v.args.length
 refine go he hm fun a he =>?_
 obtain ⟨q24,rfl,x25,hx26,cs27,hl28,ha29,hr30⟩:=h2.el hn6 h20
 obtain ⟨p33,c34,rfl,hi37,h32,hm35,hn36⟩:=RVal.fm hr30
 refine Alc he hm fun b38 w hm a he =>?_
 refine Sto 0 he hm fun w hm a he =>?_
 refine Reg [1,2,2,0,0,0,1,0] [0,2,3,4] he hm fun w hm a he =>?_
 refine z2i call51 he hm (fun y39 w hG40 hm a he =>?_) (c:=ih _ (Val.lt_args (List.mem_of_getElem? hx26)) ((small_args hs).2 _ (List.mem_of_getElem? hx26)) hr30 hm)
 obtain ⟨Ψ41,d42⟩:=y39
 obtain ⟨le43,hr44⟩:=hG40
 simp only at le43 hr44 hm he
 replace rv:=RVal.mono _ _ _ _ le43 rv
 replace hch:=hch.mono fun _ _ h=>RVal.mono _ _ _ _ le43 h
 replace ha29:=ha29.mono le43
 replace hr30:=RVal.mono _ _ _ _ le43 hr30
 replace hm:=hm.nf
 obtain ⟨p47,c48,rfl,hi51,h46,hm49,hn50⟩:=RVal.fm hr44
 refine BldS he hm fun v52 w hm a he =>?_
 refine App_ 2 z7b he hm (fun v53 w hm a he =>?_) (hb:=by have h_:=hch.length;have h2_:=(small_args hs).1;have h3_:(v.args.take i).length≤v.args.length:=(by rw [List.length_take];omega);rw [h_];simp only [List.length_cons,List.length_nil];omega)
 refine Sto 3 he hm fun w hm a he =>?_
 refine go he hm fun a he =>?_
 replace hm:=hm.dl [1,0]
 refine hL17 _ _ _ (by subst hmu;omega) ⟨(Ψ41),(i+1),(v53),((cs++[.string x25.con,.int .i64 (x25.num),.slice p47 x25.args.length c48])),rfl,⟨he.pk,by exact hm⟩,?_⟩
 refine ⟨(le16).trans le43,?_⟩
 rw [take_snoc hx26];exact hch.snoc rfl hr44
 refine go he hm fun a he =>?_
 rw [take_all h20] at hch
 have hm0_:=hm
 clear hm
 obtain ⟨Ψ56,le57,hm,hrow58⟩:=hm0_.freezeRow (i:=0) rfl
 clear hm0_
 replace rv:=RVal.mono _ _ _ _ le57 rv
 replace hch:=hch.mono fun _ _ h=>RVal.mono _ _ _ _ le57 h
 replace hm:=hm.nf
 have hsl59:SliceOf RVal Ψ56 3 _ (v.args):=⟨_,hrow58,hch⟩
 obtain ⟨p60,c61,hv_,hm62,hn63⟩:=hsl59.form (by decide)
 have hmk_:=hm
 clear hm
 subst hv_
 have hm:=hmk_
 clear hmk_
 refine Sto 1 he hm fun w hm a he =>?_
 refine go he hm fun a he =>?_
 have hmr:=hm
 replace hm:=hm.dl [2,1,0]
 refine RetA hQ he hmr ?_
 exact ⟨(Ψ56,_),rfl,⟨(le16).trans le57,by obtain ⟨_,_,h_,_⟩:=RVal.iff.1 rv;exact RVal.iff.2 ⟨_,rfl,h_,hsl59⟩⟩,hm⟩
theorem own_ok {d:List Value} {v:Val} (hs:Small v) (rv:RVal Φ d v) (hm:Mem Φ K w) :
  Calls Tryz.prog 51 (List.toArray [.agg d.toArray]) w (fun ee w'=>∃yy:Fz×List Value,ee=.returned (.agg yy.2.toArray)∧(Φ.Le yy.1∧RVal yy.1 yy.2 v)∧Mem yy.1 K w'):=by
 suffices H:∀n (x:Val),x.sz < n→Small x→∀{Φ:Fz} {K:List Res} {w:World} {d:List Value},RVal Φ d x→Mem Φ K w →
   Calls Tryz.prog 51 (List.toArray [.agg d.toArray]) w (fun ee w'=>∃yy:Fz×List Value,ee=.returned (.agg yy.2.toArray)∧(Φ.Le yy.1∧RVal yy.1 yy.2 x)∧Mem yy.1 K w') from H _ v (Nat.lt_succ_self _) hs rv hm
 intro n
 induction n with
 | zero=>intro e h;omega
 | succ n ih=>intro x h hs Φ K w d rv hm;exact own_step (fun y hy h1 _ _ _ _ r m=>ih y (by omega) h1 r m) hs rv hm
end Go.Sw

namespace Go.Sw
open Go.Proofs.Tryz
open Go.Proofs
set_option maxRecDepth 20000
set_option maxHeartbeats 4000000
theorem each_step {T:Table} {inp:List (Bs×Val)} {g:Nat} (ih:∀g1,g1≤g→y0h Tryz.prog T inp g1):EachSpec Tryz.prog T inp g:=by
 intro Φ K w p l env ov s mg bs fuel rpT rG rl rv hsh hll hg hfu hns hm
 obtain ⟨p1,c1,rfl,hm1,hn1⟩:=rl.fm
 refine z0l func158 ntmps158 fun Q hQ a he =>?_
 refine Bx he hm fun b2 w hm a he =>?_
 refine go he hm fun a he =>?_
 replace hm:=hm.nilRow 42 3
 replace hm:=hm.nf
 refine go he hm fun a he =>?_
 refine z1i (he.ks [2,3,10,11]) hm (fun R mm a w=>∃(Ψ6:Fz) (i:Nat) (u:Value) (cs:List Value) (xs:List Val) (g1:Nat),mm=l.length - i∧R Ψ6 [(7,u),(12,.int .i64 ((i:Nat):Int))] [(0,.gs (u) 42 3 cs),(2,.blk bs (ob [.int .i64 ((fuel - g1:Nat):Int)] 3))] a w∧(Φ.Le Ψ6∧(Chunks (RVal Ψ6) 3 cs xs∧xs.length=i∧g1≤g∧z4c (z2g ⟨T.funs,inp⟩) env l g=(z4c (z2g ⟨T.funs,inp⟩) env (l.drop i) g1).bind fun vs g2=>.ok (xs++vs) g2))) (l.length - 0) ⟨Φ,0,.slice none 0 0,[],[],g,rfl,⟨he.pk,hm⟩,⟨Fz.Le.refl _,⟨rfl,rfl,Nat.le_refl _,each_id _⟩⟩⟩ ?_
 clear hm he
 rintro mm a w ⟨Ψ6,i,u,cs,xs,g1,hmu,⟨he,hm⟩,hI9⟩ L8 hL8
 replace hm:=hm.nf
 obtain ⟨le7,hI9⟩:=hI9
 replace rpT:=rpT.mono le7
 replace rG:=RGiven.mono le7 rG
 replace rl:=rl.up le7
 replace rv:=REnv.mono le7 rv
 obtain ⟨hch,hxl,hg1,hI_⟩:=hI9
 refine go he hm fun a he =>?_
 by_cases h11:i < l.length
 refine go he hm fun a he =>?_
 obtain ⟨q15,rfl,x16,hx17,cs18,hl19,ha20,hr21⟩:=rl.el hn1 h11
 obtain ⟨p24,c25,p30,c31,rfl,hi34,h23,h29,hm26,hn27,hm32,hn33⟩:=REx.fm hr21
 refine Alc he hm fun b35 w hm a he =>?_
 refine Sto 0 he hm fun w hm a he =>?_
 refine go he hm fun a he =>?_
 have hnx36:=hns
 rw [hI_,z0a hx17] at hnx36
 replace hnx36:=z2v (r:=z2g ⟨T.funs,inp⟩ g1 x16 env) (z2v hnx36)
 replace hm:=hm.pl 3
 refine z4u hQ call103 he hm (fun q37 y38 w hq39 hG40 hm a he =>?_) (fun q37 w hq39 hm =>?_) (c:=ih g1 (by omega) rpT rG hr21 rv (hsh _ (List.mem_of_getElem? hx17)) (by omega) (by omega) hnx36 hm)
 obtain ⟨z41,g42⟩:=q37
 obtain ⟨Ψ43,d44⟩:=y38
 obtain ⟨le45,hr46⟩:=hG40
 have hv47:=z6b hq39
 simp only at le45 hr46 hm he hv47
 have hlt48:=z1u _ _ _ _ _ _ hv47
 replace rG:=RGiven.mono le45 rG
 replace rv:=REnv.mono le45 rv
 replace hch:=hch.mono fun _ _ h=>RVal.mono _ _ _ _ le45 h
 replace ha20:=ha20.mono le45
 replace hr21:=REx.mono _ _ _ _ le45 hr21
 replace hm:=hm.nf
 obtain ⟨p51,c52,rfl,hi55,h50,hm53,hn54⟩:=RVal.fm hr46
 refine BldS he hm fun v56 w hm a he =>?_
 refine App_ 3 z7b he hm (fun v57 w hm a he =>?_)
 refine go he hm fun a he =>?_
 replace hm:=hm.ar [2,0] [2,2]
 refine hL8 _ _ _ (by subst hmu;omega) ⟨(Ψ43),(i+1),(v57),((cs++[.string z41.con,.int .i64 (z41.num),.slice p51 z41.args.length c52])),(xs++[z41]),(g42),rfl,⟨he.pk,by exact hm⟩,?_⟩
 refine ⟨(le7).trans le45,?_⟩
 refine ⟨hch.snoc rfl hr46,by simp [hxl],by omega,?_⟩
 rw [hI_,z0a hx17]
 exact each_cons_ok hv47
 have hsp58:=z3x hq39 hnx36
 replace hm:=hm.dl [3,2,1]
 exact z8c (by rw [hI_,z0a hx17];exact each_cons_sp hsp58) ⟨rfl,hm.le (le7)⟩
 refine go he hm fun a he =>?_
 have hm0_:=hm
 clear hm
 obtain ⟨Ψ61,le62,hm,hrow63⟩:=hm0_.freezeRow (i:=0) rfl
 clear hm0_
 replace rG:=RGiven.mono le62 rG
 replace rv:=REnv.mono le62 rv
 replace hch:=hch.mono fun _ _ h=>RVal.mono _ _ _ _ le62 h
 replace hm:=hm.nf
 have hsl64:SliceOf RVal Ψ61 3 _ (xs):=⟨_,hrow63,hch⟩
 obtain ⟨p65,c66,hv_,hm67,hn68⟩:=hsl64.form (by decide)
 have hmk_:=hm
 clear hm
 subst hv_
 have hm:=hmk_
 clear hmk_
 refine go he hm fun a he =>?_
 replace hm:=hm.dl [0]
 refine Ret1 hQ he hm ?_
 exact evOut (by rw [hI_,z0g h11];exact each_nil_ok) ⟨(Ψ61,_),rfl,⟨(le7).trans le62,hsl64⟩,hm⟩
theorem callS_step {T:Table} {inp:List (Bs×Val)} {g:Nat} (ih:y0h Tryz.prog T inp g):CallSpec Tryz.prog T inp g:=by
 intro Φ K w p d f l s mg bs fuel rpT rG rf rs hpl hsb hg hfu hns hm
 obtain ⟨s1,b7,rfl,h2,h8⟩:=id rf
 obtain ⟨p3,c4,rfl,hm5,hn6⟩:=h2.fm
 obtain ⟨p11,c12,p17,c18,rfl,hi21,h10,h16,hm13,hn14,hm19,hn20⟩:=REx.fm h8
 obtain ⟨p2,c2,rfl,hm2,hn2⟩:=rs.fm
 obtain ⟨env1,hb1⟩:=call_bound hns
 refine z0l func48 ntmps48 fun Q hQ a he =>?_
 refine Bx he hm fun b23 w hm a he =>?_
 refine Bx he hm fun b24 w hm a he =>?_
 refine Alc he hm fun b25 w hm a he =>?_
 refine go he hm fun a he =>?_
 refine z1i (he.ks [2,3,4,6,11,12]) hm (fun R mm a w=>∃(Ψ29:Fz) (i:Nat) (en:Env) (nv:Option Addr),mm=f.params.length - i∧R Ψ29 [(7,.pointer nv),(13,.int .i64 ((i:Nat):Int))] [] a w∧(Φ.Le Ψ29∧(REnv Ψ29 en nv∧bindV (f.params.map Param.name) l []=bindV ((f.params.map Param.name).drop i) (l.drop i) en))) (f.params.length - 0) ⟨Φ,0,[],none,rfl,⟨he.pk,hm⟩,⟨Fz.Le.refl _,⟨rfl,rfl⟩⟩⟩ ?_
 clear hm he
 rintro mm a w ⟨Ψ29,i,en,nv,hmu,⟨he,hm⟩,hI32⟩ L31 hL31
 obtain ⟨le30,hI32⟩:=hI32
 replace rpT:=rpT.mono le30
 replace rG:=RGiven.mono le30 rG
 replace h2:=h2.up le30
 replace h8:=REx.mono _ _ _ _ le30 h8
 replace rf:=RFun.mono _ _ _ _ le30 rf
 replace rs:=rs.up le30
 obtain ⟨rn,hI_⟩:=hI32
 refine go he hm fun a he =>?_
 by_cases h34:i < f.params.length
 refine go he hm fun a he =>?_
 have hil_:i < l.length:=bindV_len (env:=en) (env':=env1) (by rw [← hI_];exact hb1) (by simpa using h34)
 refine go he hm fun a he =>?_
 obtain ⟨q38,rfl,x39,hx40,cs41,hl42,ha43,hr44⟩:=h2.el hn6 h34
 obtain rfl:=id hr44
 refine Alc he hm fun b45 w hm a he =>?_
 refine Sto 0 he hm fun w hm a he =>?_
 refine Reg [1,2,1,1,1,2,1,1,0,1] [0,1,2,3,4] he hm fun w hm a he =>?_
 refine go he hm fun a he =>?_
 obtain ⟨q46,rfl,x47,hx48,cs49,hl50,ha51,hr52⟩:=rs.el hn2 hil_
 obtain ⟨p55,c56,rfl,hi59,h54,hm57,hn58⟩:=RVal.fm hr52
 refine BldT he hm fun a he =>?_
 refine Bx he hm fun b60 w hm a he =>?_
 have hm0_:=hm
 clear hm
 obtain ⟨Ψ61,le62,hm,hat63⟩:=hm0_.freezeBlk (i:=0) rfl
 clear hm0_
 replace rpT:=rpT.mono le62
 replace rG:=RGiven.mono le62 rG
 replace h8:=REx.mono _ _ _ _ le62 h8
 replace rf:=RFun.mono _ _ _ _ le62 rf
 replace rn:=REnv.mono le62 rn
 replace ha43:=ha43.mono le62
 replace hr44:=RParam.mono _ _ _ _ le62 hr44
 replace ha51:=ha51.mono le62
 replace hr52:=RVal.mono _ _ _ _ le62 hr52
 replace hm:=hm.nf
 have henv64:REnv Ψ61 ((x39.name,x47)::en) (some ⟨b60,0,none⟩):=⟨_,[.string x47.con,.int .i64 (x47.num),.slice p55 x47.args.length c56],_,rfl,hat63,rfl,hr52,rn⟩
 refine go he hm fun a he =>?_
 replace hm:=hm.dl [0]
 refine hL31 _ _ _ (by subst hmu;omega) ⟨(Ψ61),(i+1),((x39.name,x47)::en),((some ⟨b60,0,none⟩)),rfl,⟨he.pk,by exact hm⟩,?_⟩
 refine ⟨(le30).trans le62,?_⟩
 refine ⟨henv64,?_⟩
 rw [hI_,z0a (show (f.params.map Param.name)[i]? = some _ by rw [List.getElem?_map,hx40];rfl),z0a hx48];rfl
 refine go he hm fun a he =>?_
 have hst_:z5e (z2g ⟨T.funs,inp⟩) f l g=z2g ⟨T.funs,inp⟩ g f.body en:=by
  have hi_:¬i < (f.params.map Param.name).length:=by simpa using h34
  unfold z5e z9o
  rw [hI_,z0g hi_];rfl
 have hns2_:=hns
 rw [hst_] at hns2_
 replace hm:=hm.pl 3
 refine z4u hQ call103 he hm (fun q67 y68 w hq69 hG70 hm a he =>?_) (fun q67 w hq69 hm =>?_) (c:=ih rpT rG h8 rn hsb (by omega) (by omega) hns2_ hm)
 obtain ⟨z71,g72⟩:=q67
 obtain ⟨Ψ73,d74⟩:=y68
 obtain ⟨le75,hr76⟩:=hG70
 have hv77:=z6b hq69
 simp only at le75 hr76 hm he hv77
 have hlt78:=z1u _ _ _ _ _ _ hv77
 replace rG:=RGiven.mono le75 rG
 replace h8:=REx.mono _ _ _ _ le75 h8
 replace rf:=RFun.mono _ _ _ _ le75 rf
 replace rn:=REnv.mono le75 rn
 replace hm:=hm.nf
 obtain ⟨p81,c82,rfl,hi85,h80,hm83,hn84⟩:=RVal.fm hr76
 refine Sto 1 he hm fun w hm a he =>?_
 refine go he hm fun a he =>?_
 have hmr:=hm
 replace hm:=hm.dl [3,2,1]
 refine RetA hQ he hmr ?_
 exact evOut (by rw [hst_];exact hv77) ⟨(Ψ73,_),rfl,⟨(le30).trans le75,hr76⟩,hm⟩
 have hsp86:=z3x hq69 hns2_
 replace hm:=hm.dl [3,2,1]
 exact z8c (by rw [hst_];exact hsp86) ⟨rfl,hm.le (le30)⟩
end Go.Sw
