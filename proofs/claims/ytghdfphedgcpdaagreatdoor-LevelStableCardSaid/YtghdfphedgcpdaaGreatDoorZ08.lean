import Derived.Test.YtghdfphedgcpdaaGreatDoorProg
import Derived.Test.YtghdfphedgcpdaaGreatDoorZ01
import Derived.Test.YtghdfphedgcpdaaGreatDoorZ02
import Derived.Test.YtghdfphedgcpdaaGreatDoorZ04
import Derived.Test.YtghdfphedgcpdaaGreatDoorZ07
set_option linter.unusedVariables false
set_option linter.unusedSimpArgs false
namespace Go.Sw
open Go.Proofs.Tryz
open Go.Proofs
set_option maxRecDepth 20000
set_option maxHeartbeats 4000000
theorem x0t {Φ:Fz} {K:List Res} {w:World} {p0:Addr} {T:Table} {d1:List Value} {e:Ex} {b:Nat} {s:Scope} (rpT:RTable Φ p0 T) (rpe:REx Φ d1 e) (ih:∀x:Ex,x.sz < e.sz→∀{Φ:Fz} {K:List Res} {w:World} {p:Addr} {d:List Value} {b:Nat} {s:Scope},RTable Φ p T→REx Φ d x→Mem Φ (.mp b (yM s)::K) w→Calls prog 134 (List.toArray [.pointer (some p),.agg d.toArray,.map (some b)]) w (fun ee w'=>ee=.returned (.string (zG T x s).1)∧Mem Φ (.mp b (yM (zG T x s).2)::K) w')) (hm:Mem Φ (.mp b (yM s)::K) w) :
  Calls prog 172 (List.toArray [.pointer (some p0),.agg d1.toArray,.map (some b)]) w (fun ee w'=>ee=.returned (.string ((jY T e s).1))∧Mem Φ (.mp b (yM (jY T e s).2)::K) w'):=by
 obtain ⟨cs17,m1,m2,m3,m4,d5,d6,d7,d8,hat18,hcl19,hcore20,ma9,mr13,ma10,mr14,ma11,mr15,ma12,mr16⟩:=rpT.ex
 obtain ⟨p23,c24,p29,c30,p35,c36,p41,c42,rfl,h22,h28,h34,h40,hm25,hn26,hm31,hn32,hm37,hn38,hm43,hn44⟩:=RCore.fm hcore20
 obtain ⟨p47,c48,p53,c54,rfl,hi57,h46,h52,hm49,hn50,hm55,hn56⟩:=REx.fm rpe
 refine zL func172 ntmps172 fun Q hQ a he =>?_
 refine Bx fun b59 w hm a he =>?_
 refine yK call185 (fun hB62 w hm a he =>?_) (fun hB62 w hm a he =>?_) (c:=dJ rpe hm)
 refine go fun a he =>?_
 refine qB [1,1,1,2,1,1,2,1,2,1,0,2,1,1,1,0,0,1] (.q 0 (.q 1 (.q 2 (.q 3 (.q 4 (.q 5 (.q 6 (.q 7 (.q 8 (.q 9 (.e2 10 15 (.q 11 (.q 12 (.q 13 (.q 14 (.e 15 (.e 16 (.q 17 (.done)))))))) (.e 10 (.q 11 (.q 12 (.q 13 (.q 14 (.e 16 (.q 17 (.done))))))))))))))))))) [0] he hm fun w hm =>?_
 have hlen:=vV (n:=1) hB62
 refine go fun a he =>?_
 have hb64:0 < e.args.length:=by omega
 obtain ⟨q65,rfl,x66,hx67,cs68,hl69,ha70,hr71⟩:=h46.el hn50 hb64
 obtain ⟨p74,c75,p80,c81,rfl,hi84,h73,h79,hm76,hn77,hm82,hn83⟩:=REx.fm hr71
 refine go fun a he =>?_
 refine vQ ?_ ?_
 replace hm:=hm.pl 1
 refine zZ call134 (fun w hm a he =>?_) (c:=ih _ (by first | exact Ex.lt_args (List.mem_of_getElem? hx67) | exact Ex.lt_arms (List.mem_of_getElem? hx67)) rpT hr71 hm)
 rcases hf85:yA (d5) ((zG T x66 s).1) with _ | vf86
 have hf85_:=congrArg (zF true (.agg (List.toArray [.string ⟨#[]⟩,.slice none 0 0]))) hf85
 refine Qq (fun a he =>?_) (o:=by exact fun he hs=>Ok.cast (yD runUnderlying113 runUnderlying9 zeroValue126 he hs rfl rfl ma9) (show zF true (.agg (List.toArray [.string ⟨#[]⟩,.slice none 0 0])) (yA (d5) ((zG T x66 s).1))=.tuple (List.toArray [.agg (List.toArray [.string ⟨#[]⟩,.slice none 0 0]),.bool false]) from hf85_))
 refine Alc fun b87 w hm a he =>?_
 refine Sto 0 fun w hm a he =>?_
 refine zI ?_
 replace hm:=hm.dl [2,0]
 have hr_:jY T e s=((⟨#[]⟩:ByteArray),(zG T x66 s).2):=by
  have e_:=MapRel.none mr13 hf85
  simp [jY,jO hx67,sNo, *]
 show _∧_;rw [hr_];exact ⟨rfl,hm⟩
 obtain ⟨y91,hy92,cs93,rfl,hr94⟩:=mr13.get hf85
 obtain ⟨s95,rfl,h96⟩:=id hr94
 obtain ⟨p97,c98,rfl,hm99,hn100⟩:=h96.fm
 have hf85_:=congrArg (zF true (.agg (List.toArray [.string ⟨#[]⟩,.slice none 0 0]))) hf85
 refine Qq (fun a he =>?_) (o:=by exact fun he hs=>Ok.cast (yD runUnderlying113 runUnderlying9 zeroValue126 he hs rfl rfl ma9) (show zF true (.agg (List.toArray [.string ⟨#[]⟩,.slice none 0 0])) (yA (d5) ((zG T x66 s).1))=.tuple (List.toArray [.agg (List.toArray [.string y91.name,.slice p97 y91.cons.length c98]),.bool true]) from hf85_))
 refine Alc fun b101 w hm a he =>?_
 refine Sto 0 fun w hm a he =>?_
 by_cases h104:y91.cons.length=e.arms.length
 refine go fun a he =>?_
 refine yF (he.ks [0,2,4,48,49]) hm (fun R mm a w=>∃(i:Nat) (q:Scope) (out:Bs),mm=y91.cons.length - i∧R Φ [(9,.string out),(50,.int .i64 ((i:Nat):Int))] [(1,.mp b (yM q))] a w∧(splitP T e.arms y91.cons true sNo ((zG T x66 s).2)=splitP T (e.arms.drop i) (y91.cons.drop i) (decide (i=0)) out q)) (y91.cons.length - 0) ⟨0,(zG T x66 s).2,sNo,rfl,⟨he.pk,hm⟩,rfl⟩ ?_
 clear hm he
 rintro mm a w ⟨i,q,out,hmu,⟨he,hm⟩,hI109⟩ L108 hL108
 replace hm:=hm.nf
 by_cases h111:i < y91.cons.length
 refine go fun a he =>?_
 obtain ⟨q115,rfl,x116,hx117,cs118,hl119,ha120,hr121⟩:=h96.el hn100 h111
 obtain ⟨s122,rfl,h123⟩:=id hr121
 obtain ⟨p124,c125,rfl,hm126,hn127⟩:=h123.fm
 refine Alc fun b128 w hm a he =>?_
 refine Sto 0 fun w hm a he =>?_
 refine go fun a he =>?_
 have hb130:i < e.arms.length:=by omega
 obtain ⟨q131,rfl,x132,hx133,cs134,hl135,ha136,hr137⟩:=h52.el hn56 hb130
 obtain ⟨s138,b144,rfl,h139,h145⟩:=RArm.iff.1 hr137
 obtain ⟨p140,c141,rfl,hm142,hn143⟩:=h139.fm
 obtain ⟨p148,c149,p154,c155,rfl,hi158,h147,h153,hm150,hn151,hm156,hn157⟩:=REx.fm h145
 refine Alc fun b159 w hm a he =>?_
 refine Sto 0 fun w hm a he =>?_
 by_cases h162:x132.con=x116.name
 by_cases h163:x132.vars.length=x116.fields.length
 refine go fun a he =>?_
 refine yF (he.ks [0,2,4,9,10,11,12,48,49,50,75,76]) hm (fun R mm a w=>∃(k:Nat) (q2:Scope),mm=x132.vars.length - k∧R Φ [(77,.int .i64 ((k:Nat):Int))] [(3,.mp b (yM q2))] a w∧(putAll q x132.vars x116.fields=putAll q2 (x132.vars.drop k) (x116.fields.drop k))) (x132.vars.length - 0) ⟨0,q,rfl,⟨he.pk,hm⟩,rfl⟩ ?_
 clear hm he
 rintro mm a w ⟨k,q2,hmu,⟨he,hm⟩,hI167⟩ L166 hL166
 replace hm:=hm.nf
 refine go fun a he =>?_
 by_cases h169:k < x132.vars.length
 refine go fun a he =>?_
 obtain ⟨q173,rfl,x174,hx175,cs176,hl177,ha178,hr179⟩:=h139.el hn143 h169
 obtain rfl:cs176=[.string x174]:=hr179
 refine go fun a he =>?_
 have hb180:k < x116.fields.length:=by omega
 obtain ⟨q181,rfl,x182,hx183,cs184,hl185,ha186,hr187⟩:=h123.el hn127 hb180
 obtain rfl:cs184=[.string x182]:=hr187
 refine uX 3 runUnderlying195 runUnderlying9 fun w hm a he =>?_
 rw [aD] at hm
 refine go fun a he =>?_
 refine hL166 _ _ _ (by subst hmu;omega) ⟨(k+1),((qM q2 x174 x182)),rfl,⟨he.pk,hm⟩,?_⟩
 rw [hI167,zA hx175,zA hx183];rfl
 replace hm:=hm.pl 3
 refine zZ call134 (fun w hm a he =>?_) (c:=ih _ (by first | exact Ex.lt_args (List.mem_of_getElem? hx133) | exact Ex.lt_arms (List.mem_of_getElem? hx133)) rpT h145 hm)
 refine go fun a he =>?_
 refine yF (he.ks [0,2,4,9,10,15,48,49,50,96,97]) hm (fun R mm a w=>∃(k3:Nat) (q3:Scope),mm=x132.vars.length - k3∧R Φ [(98,.int .i64 ((k3:Nat):Int))] [(0,.mp b (yM q3))] a w∧(cN ((zG T x132.body q2).2) x132.vars=cN q3 (x132.vars.drop k3))) (x132.vars.length - 0) ⟨0,(zG T x132.body q2).2,rfl,⟨he.pk,hm⟩,rfl⟩ ?_
 clear hm he
 rintro mm a w ⟨k3,q3,hmu,⟨he,hm⟩,hI193⟩ L192 hL192
 replace hm:=hm.nf
 by_cases h195:k3 < x132.vars.length
 refine go fun a he =>?_
 obtain ⟨q199,rfl,x200,hx201,cs202,hl203,ha204,hr205⟩:=h139.el hn143 h195
 obtain rfl:cs202=[.string x200]:=hr205
 refine go fun a he =>?_
 refine st0 he rfl rfl (z9a 0 runUnderlying195 runUnderlying9 he hm rfl rfl rfl fun w hm a he =>?_)
 rw [z3a] at hm
 refine go fun a he =>?_
 refine hL192 _ _ _ (by subst hmu;omega) ⟨(k3+1),((z6s q3 x200)),rfl,⟨he.pk,hm⟩,?_⟩
 rw [hI193,zA hx201];rfl
 by_cases h209:(zG T x132.body q2).1=(⟨#[]⟩:ByteArray)
 refine zI ?_
 replace hm:=hm.dl [4,3,2,1]
 have hr_:jY T e s=((⟨#[]⟩:ByteArray),q3):=by
  have ha_:nO T x132 x116 q=((zG T x132.body q2).1,q3):=by
   have e1_:putAll q x132.vars x116.fields=q2:=by rw [hI167,zE h169,xV]
   have e2_:=hI193
   rw [zE h195] at e2_
   rw [nO,e1_,e2_];rfl
  have hl_:y91.cons.length=e.arms.length:=by assumption
  rw [jY,if_pos (by assumption),jO hx67,hy92]
  simp only
  rw [if_pos hl_,hI109,zA hx133,zA hx117,jR,if_neg (by simp [*]),ha_,if_pos (by simp_all [sNo] <;> omega)];rfl
 show _∧_;rw [hr_];exact ⟨rfl,hm⟩
 by_cases h211:0 < i
 refine go fun a he =>?_
 by_cases h212:(zG T x132.body q2).1=out
 refine go fun a he =>?_
 replace hm:=hm.ar [2,1] [2,1,2]
 refine hL108 _ _ _ (by subst hmu;omega) ⟨(i+1),(q3),((zG T x132.body q2).1),rfl,⟨he.pk,hm⟩,?_⟩
 have ha_:nO T x132 x116 q=((zG T x132.body q2).1,q3):=by
  have e1_:putAll q x132.vars x116.fields=q2:=by rw [hI167,zE h169,xV]
  have e2_:=hI193
  rw [zE h195] at e2_
  rw [nO,e1_,e2_];rfl
 rw [hI109,zA hx133,zA hx117,jR,if_neg (by simp [*]),ha_,if_neg (by simp_all [sNo] <;> omega)];simp
 refine zI ?_
 replace hm:=hm.dl [4,3,2,1]
 have hr_:jY T e s=((⟨#[]⟩:ByteArray),q3):=by
  have ha_:nO T x132 x116 q=((zG T x132.body q2).1,q3):=by
   have e1_:putAll q x132.vars x116.fields=q2:=by rw [hI167,zE h169,xV]
   have e2_:=hI193
   rw [zE h195] at e2_
   rw [nO,e1_,e2_];rfl
  have hl_:y91.cons.length=e.arms.length:=by assumption
  rw [jY,if_pos (by assumption),jO hx67,hy92]
  simp only
  rw [if_pos hl_,hI109,zA hx133,zA hx117,jR,if_neg (by simp [*]),ha_,if_pos (by simp_all [sNo] <;> omega)];rfl
 show _∧_;rw [hr_];exact ⟨rfl,hm⟩
 refine go fun a he =>?_
 replace hm:=hm.ar [2,1] [2,1,2]
 refine hL108 _ _ _ (by subst hmu;omega) ⟨(i+1),(q3),((zG T x132.body q2).1),rfl,⟨he.pk,hm⟩,?_⟩
 have ha_:nO T x132 x116 q=((zG T x132.body q2).1,q3):=by
  have e1_:putAll q x132.vars x116.fields=q2:=by rw [hI167,zE h169,xV]
  have e2_:=hI193
  rw [zE h195] at e2_
  rw [nO,e1_,e2_];rfl
 rw [hI109,zA hx133,zA hx117,jR,if_neg (by simp [*]),ha_,if_neg (by simp_all [sNo] <;> omega)];simp
 refine zI ?_
 replace hm:=hm.dl [4,2,1,0]
 have hr_:jY T e s=((⟨#[]⟩:ByteArray),q):=by
  have hl_:y91.cons.length=e.arms.length:=by assumption
  rw [jY,if_pos (by assumption),jO hx67,hy92]
  simp only
  rw [if_pos hl_,hI109,zA hx133,zA hx117,jR,if_pos (by simp [*])]
  all_goals rfl
 show _∧_;rw [hr_];exact ⟨rfl,hm⟩
 refine zI ?_
 replace hm:=hm.dl [4,2,1,0]
 have hr_:jY T e s=((⟨#[]⟩:ByteArray),q):=by
  have hl_:y91.cons.length=e.arms.length:=by assumption
  rw [jY,if_pos (by assumption),jO hx67,hy92]
  simp only
  rw [if_pos hl_,hI109,zA hx133,zA hx117,jR,if_pos (by simp [*])]
  all_goals rfl
 show _∧_;rw [hr_];exact ⟨rfl,hm⟩
 refine zI ?_
 replace hm:=hm.dl [2,0]
 have hr_:jY T e s=(out,q):=by
  have hl_:y91.cons.length=e.arms.length:=by assumption
  rw [jY,if_pos (by assumption),jO hx67,hy92]
  simp only
  rw [if_pos hl_,hI109,zE h111,zE (l:=e.arms) (by omega)];rfl
 show _∧_;rw [hr_];exact ⟨rfl,hm⟩
 refine zI ?_
 replace hm:=hm.dl [2,0]
 have hr_:jY T e s=((⟨#[]⟩:ByteArray),(zG T x66 s).2):=by
  simp [jY,jO hx67,sNo, *]
 show _∧_;rw [hr_];exact ⟨rfl,hm⟩
 refine Alc fun b219 w hm a he =>?_
 replace hm:=hm.pl 2
 refine zZ call134 (fun w hm a he =>?_) (c:=ih _ (by first | exact Ex.lt_args (List.mem_of_getElem? hx67) | exact Ex.lt_arms (List.mem_of_getElem? hx67)) rpT hr71 hm)
 rcases hf220:yA (d5) ((zG T x66 s).1) with _ | vf221
 have hf220_:=congrArg (zF true (.agg (List.toArray [.string ⟨#[]⟩,.slice none 0 0]))) hf220
 refine Qq (fun a he =>?_) (o:=by exact fun he hs=>Ok.cast (yD runUnderlying113 runUnderlying9 zeroValue126 he hs rfl rfl ma9) (show zF true (.agg (List.toArray [.string ⟨#[]⟩,.slice none 0 0])) (yA (d5) ((zG T x66 s).1))=.tuple (List.toArray [.agg (List.toArray [.string ⟨#[]⟩,.slice none 0 0]),.bool false]) from hf220_))
 refine Sto 1 fun w hm a he =>?_
 refine zI ?_
 replace hm:=hm.dl [2,1]
 have hr_:jY T e s=((⟨#[]⟩:ByteArray),(zG T x66 s).2):=by
  have e_:=MapRel.none mr13 hf220
  simp [jY,jO hx67,sNo, *]
 show _∧_;rw [hr_];exact ⟨rfl,hm⟩
 obtain ⟨y225,hy226,cs227,rfl,hr228⟩:=mr13.get hf220
 obtain ⟨s229,rfl,h230⟩:=id hr228
 obtain ⟨p231,c232,rfl,hm233,hn234⟩:=h230.fm
 have hf220_:=congrArg (zF true (.agg (List.toArray [.string ⟨#[]⟩,.slice none 0 0]))) hf220
 refine Qq (fun a he =>?_) (o:=by exact fun he hs=>Ok.cast (yD runUnderlying113 runUnderlying9 zeroValue126 he hs rfl rfl ma9) (show zF true (.agg (List.toArray [.string ⟨#[]⟩,.slice none 0 0])) (yA (d5) ((zG T x66 s).1))=.tuple (List.toArray [.agg (List.toArray [.string y225.name,.slice p231 y225.cons.length c232]),.bool true]) from hf220_))
 refine Sto 1 fun w hm a he =>?_
 by_cases h237:y225.cons.length=e.arms.length
 refine go fun a he =>?_
 refine yF (he.ks [0,2,4,48,49]) hm (fun R mm a w=>∃(i:Nat) (q:Scope) (out:Bs),mm=y225.cons.length - i∧R Φ [(9,.string out),(50,.int .i64 ((i:Nat):Int))] [(0,.mp b (yM q))] a w∧(splitP T e.arms y225.cons true sNo ((zG T x66 s).2)=splitP T (e.arms.drop i) (y225.cons.drop i) (decide (i=0)) out q)) (y225.cons.length - 0) ⟨0,(zG T x66 s).2,sNo,rfl,⟨he.pk,hm⟩,rfl⟩ ?_
 clear hm he
 rintro mm a w ⟨i,q,out,hmu,⟨he,hm⟩,hI242⟩ L241 hL241
 replace hm:=hm.nf
 by_cases h244:i < y225.cons.length
 refine go fun a he =>?_
 obtain ⟨q248,rfl,x249,hx250,cs251,hl252,ha253,hr254⟩:=h230.el hn234 h244
 obtain ⟨s255,rfl,h256⟩:=id hr254
 obtain ⟨p257,c258,rfl,hm259,hn260⟩:=h256.fm
 refine Alc fun b261 w hm a he =>?_
 refine Sto 0 fun w hm a he =>?_
 refine go fun a he =>?_
 have hb263:i < e.arms.length:=by omega
 obtain ⟨q264,rfl,x265,hx266,cs267,hl268,ha269,hr270⟩:=h52.el hn56 hb263
 obtain ⟨s271,b277,rfl,h272,h278⟩:=RArm.iff.1 hr270
 obtain ⟨p273,c274,rfl,hm275,hn276⟩:=h272.fm
 obtain ⟨p281,c282,p287,c288,rfl,hi291,h280,h286,hm283,hn284,hm289,hn290⟩:=REx.fm h278
 refine Alc fun b292 w hm a he =>?_
 refine Sto 0 fun w hm a he =>?_
 by_cases h295:x265.con=x249.name
 by_cases h296:x265.vars.length=x249.fields.length
 refine go fun a he =>?_
 refine yF (he.ks [0,2,4,9,10,11,12,48,49,50,75,76]) hm (fun R mm a w=>∃(k:Nat) (q2:Scope),mm=x265.vars.length - k∧R Φ [(77,.int .i64 ((k:Nat):Int))] [(2,.mp b (yM q2))] a w∧(putAll q x265.vars x249.fields=putAll q2 (x265.vars.drop k) (x249.fields.drop k))) (x265.vars.length - 0) ⟨0,q,rfl,⟨he.pk,hm⟩,rfl⟩ ?_
 clear hm he
 rintro mm a w ⟨k,q2,hmu,⟨he,hm⟩,hI300⟩ L299 hL299
 replace hm:=hm.nf
 refine go fun a he =>?_
 by_cases h302:k < x265.vars.length
 refine go fun a he =>?_
 obtain ⟨q306,rfl,x307,hx308,cs309,hl310,ha311,hr312⟩:=h272.el hn276 h302
 obtain rfl:cs309=[.string x307]:=hr312
 refine go fun a he =>?_
 have hb313:k < x249.fields.length:=by omega
 obtain ⟨q314,rfl,x315,hx316,cs317,hl318,ha319,hr320⟩:=h256.el hn260 hb313
 obtain rfl:cs317=[.string x315]:=hr320
 refine uX 2 runUnderlying195 runUnderlying9 fun w hm a he =>?_
 rw [aD] at hm
 refine go fun a he =>?_
 refine hL299 _ _ _ (by subst hmu;omega) ⟨(k+1),((qM q2 x307 x315)),rfl,⟨he.pk,hm⟩,?_⟩
 rw [hI300,zA hx308,zA hx316];rfl
 replace hm:=hm.pl 2
 refine zZ call134 (fun w hm a he =>?_) (c:=ih _ (by first | exact Ex.lt_args (List.mem_of_getElem? hx266) | exact Ex.lt_arms (List.mem_of_getElem? hx266)) rpT h278 hm)
 refine go fun a he =>?_
 refine yF (he.ks [0,2,4,9,10,15,48,49,50,96,97]) hm (fun R mm a w=>∃(k3:Nat) (q3:Scope),mm=x265.vars.length - k3∧R Φ [(98,.int .i64 ((k3:Nat):Int))] [(0,.mp b (yM q3))] a w∧(cN ((zG T x265.body q2).2) x265.vars=cN q3 (x265.vars.drop k3))) (x265.vars.length - 0) ⟨0,(zG T x265.body q2).2,rfl,⟨he.pk,hm⟩,rfl⟩ ?_
 clear hm he
 rintro mm a w ⟨k3,q3,hmu,⟨he,hm⟩,hI326⟩ L325 hL325
 replace hm:=hm.nf
 by_cases h328:k3 < x265.vars.length
 refine go fun a he =>?_
 obtain ⟨q332,rfl,x333,hx334,cs335,hl336,ha337,hr338⟩:=h272.el hn276 h328
 obtain rfl:cs335=[.string x333]:=hr338
 refine go fun a he =>?_
 refine st0 he rfl rfl (z9a 0 runUnderlying195 runUnderlying9 he hm rfl rfl rfl fun w hm a he =>?_)
 rw [z3a] at hm
 refine go fun a he =>?_
 refine hL325 _ _ _ (by subst hmu;omega) ⟨(k3+1),((z6s q3 x333)),rfl,⟨he.pk,hm⟩,?_⟩
 rw [hI326,zA hx334];rfl
 by_cases h342:(zG T x265.body q2).1=(⟨#[]⟩:ByteArray)
 refine zI ?_
 replace hm:=hm.dl [4,3,2,1]
 have hr_:jY T e s=((⟨#[]⟩:ByteArray),q3):=by
  have ha_:nO T x265 x249 q=((zG T x265.body q2).1,q3):=by
   have e1_:putAll q x265.vars x249.fields=q2:=by rw [hI300,zE h302,xV]
   have e2_:=hI326
   rw [zE h328] at e2_
   rw [nO,e1_,e2_];rfl
  have hl_:y225.cons.length=e.arms.length:=by assumption
  rw [jY,if_pos (by assumption),jO hx67,hy226]
  simp only
  rw [if_pos hl_,hI242,zA hx266,zA hx250,jR,if_neg (by simp [*]),ha_,if_pos (by simp_all [sNo] <;> omega)];rfl
 show _∧_;rw [hr_];exact ⟨rfl,hm⟩
 by_cases h344:0 < i
 refine go fun a he =>?_
 by_cases h345:(zG T x265.body q2).1=out
 refine go fun a he =>?_
 replace hm:=hm.dl [2,1]
 refine hL241 _ _ _ (by subst hmu;omega) ⟨(i+1),(q3),((zG T x265.body q2).1),rfl,⟨he.pk,hm⟩,?_⟩
 have ha_:nO T x265 x249 q=((zG T x265.body q2).1,q3):=by
  have e1_:putAll q x265.vars x249.fields=q2:=by rw [hI300,zE h302,xV]
  have e2_:=hI326
  rw [zE h328] at e2_
  rw [nO,e1_,e2_];rfl
 rw [hI242,zA hx266,zA hx250,jR,if_neg (by simp [*]),ha_,if_neg (by simp_all [sNo] <;> omega)];simp
 refine zI ?_
 replace hm:=hm.dl [4,3,2,1]
 have hr_:jY T e s=((⟨#[]⟩:ByteArray),q3):=by
  have ha_:nO T x265 x249 q=((zG T x265.body q2).1,q3):=by
   have e1_:putAll q x265.vars x249.fields=q2:=by rw [hI300,zE h302,xV]
   have e2_:=hI326
   rw [zE h328] at e2_
   rw [nO,e1_,e2_];rfl
  have hl_:y225.cons.length=e.arms.length:=by assumption
  rw [jY,if_pos (by assumption),jO hx67,hy226]
  simp only
  rw [if_pos hl_,hI242,zA hx266,zA hx250,jR,if_neg (by simp [*]),ha_,if_pos (by simp_all [sNo] <;> omega)];rfl
 show _∧_;rw [hr_];exact ⟨rfl,hm⟩
 refine go fun a he =>?_
 replace hm:=hm.dl [2,1]
 refine hL241 _ _ _ (by subst hmu;omega) ⟨(i+1),(q3),((zG T x265.body q2).1),rfl,⟨he.pk,hm⟩,?_⟩
 have ha_:nO T x265 x249 q=((zG T x265.body q2).1,q3):=by
  have e1_:putAll q x265.vars x249.fields=q2:=by rw [hI300,zE h302,xV]
  have e2_:=hI326
  rw [zE h328] at e2_
  rw [nO,e1_,e2_];rfl
 rw [hI242,zA hx266,zA hx250,jR,if_neg (by simp [*]),ha_,if_neg (by simp_all [sNo] <;> omega)];simp
 refine zI ?_
 replace hm:=hm.dl [4,3,1,0]
 have hr_:jY T e s=((⟨#[]⟩:ByteArray),q):=by
  have hl_:y225.cons.length=e.arms.length:=by assumption
  rw [jY,if_pos (by assumption),jO hx67,hy226]
  simp only
  rw [if_pos hl_,hI242,zA hx266,zA hx250,jR,if_pos (by simp [*])]
  all_goals rfl
 show _∧_;rw [hr_];exact ⟨rfl,hm⟩
 refine zI ?_
 replace hm:=hm.dl [4,3,1,0]
 have hr_:jY T e s=((⟨#[]⟩:ByteArray),q):=by
  have hl_:y225.cons.length=e.arms.length:=by assumption
  rw [jY,if_pos (by assumption),jO hx67,hy226]
  simp only
  rw [if_pos hl_,hI242,zA hx266,zA hx250,jR,if_pos (by simp [*])]
  all_goals rfl
 show _∧_;rw [hr_];exact ⟨rfl,hm⟩
 refine zI ?_
 replace hm:=hm.dl [2,1]
 have hr_:jY T e s=(out,q):=by
  have hl_:y225.cons.length=e.arms.length:=by assumption
  rw [jY,if_pos (by assumption),jO hx67,hy226]
  simp only
  rw [if_pos hl_,hI242,zE h244,zE (l:=e.arms) (by omega)];rfl
 show _∧_;rw [hr_];exact ⟨rfl,hm⟩
 refine zI ?_
 replace hm:=hm.dl [2,1]
 have hr_:jY T e s=((⟨#[]⟩:ByteArray),(zG T x66 s).2):=by
  simp [jY,jO hx67,sNo, *]
 show _∧_;rw [hr_];exact ⟨rfl,hm⟩
 refine zI ?_
 replace hm:=hm.dl [0]
 have hr_:jY T e s=((⟨#[]⟩:ByteArray),s):=by
  simp [jY,sNo, *]
 show _∧_;rw [hr_];exact ⟨rfl,hm⟩
end Go.Sw

namespace Go.Sw
open Go.Proofs.Tryz
open Go.Proofs
set_option maxRecDepth 20000
set_option maxHeartbeats 4000000
theorem let_ok {Φ:Fz} {K:List Res} {w:World} {p0:Addr} {T:Table} {d1:List Value} {e:Ex} {b:Nat} {s:Scope} (rpT:RTable Φ p0 T) (rpe:REx Φ d1 e) (ih:∀x:Ex,x.sz < e.sz→∀{Φ:Fz} {K:List Res} {w:World} {p:Addr} {d:List Value} {b:Nat} {s:Scope},RTable Φ p T→REx Φ d x→Mem Φ (.mp b (yM s)::K) w→Calls prog 134 (List.toArray [.pointer (some p),.agg d.toArray,.map (some b)]) w (fun ee w'=>ee=.returned (.string (zG T x s).1)∧Mem Φ (.mp b (yM (zG T x s).2)::K) w')) (hm:Mem Φ (.mp b (yM s)::K) w) :
  Calls prog 171 (List.toArray [.pointer (some p0),.agg d1.toArray,.map (some b)]) w (fun ee w'=>ee=.returned (.string ((z0p T e s).1))∧Mem Φ (.mp b (yM (z0p T e s).2)::K) w'):=by
 obtain ⟨cs17,m1,m2,m3,m4,d5,d6,d7,d8,hat18,hcl19,hcore20,ma9,mr13,ma10,mr14,ma11,mr15,ma12,mr16⟩:=rpT.ex
 obtain ⟨p23,c24,p29,c30,p35,c36,p41,c42,rfl,h22,h28,h34,h40,hm25,hn26,hm31,hn32,hm37,hn38,hm43,hn44⟩:=RCore.fm hcore20
 obtain ⟨p47,c48,p53,c54,rfl,hi57,h46,h52,hm49,hn50,hm55,hn56⟩:=REx.fm rpe
 refine enterB func171 rfl ntmps171 rfl (fun Q hQ a he =>?_)
 refine Bx fun b59 w hm a he =>?_
 refine yK call185 (fun hB62 w hm a he =>?_) (fun hB62 w hm a he =>?_) (c:=dJ rpe hm)
 have hlen:=vV (n:=2) hB62
 refine go fun a he =>?_
 have hb64:0 < e.args.length:=by omega
 obtain ⟨q65,rfl,x66,hx67,cs68,hl69,ha70,hr71⟩:=h46.el hn50 hb64
 obtain ⟨p74,c75,p80,c81,rfl,hi84,h73,h79,hm76,hn77,hm82,hn83⟩:=REx.fm hr71
 replace hm:=hm.pl 1
 refine zZ call134 (fun w hm a he =>?_) (c:=ih _ (by exact Ex.lt_args (List.mem_of_getElem? hx67)) rpT hr71 hm)
 by_cases h87:(zG T x66 s).1=(⟨#[]⟩:ByteArray)
 refine go fun a he =>?_
 replace hm:=hm.dl [1]
 refine hQ _ _ _ (ret1B he results171 rfl ?_)
 have hr_:z0p T e s=((⟨#[]⟩:ByteArray),(zG T x66 s).2):=by
  rw [z0p,if_pos hB62,z7z hx67 h87];rfl
 show _∧_;rw [hr_];exact ⟨rfl,hm⟩
 refine uX 0 runUnderlying195 runUnderlying9 fun w hm a he =>?_
 rw [aD] at hm
 refine go fun a he =>?_
 refine z5a he rfl fun a fl91 he =>?_
 refine go fun a he =>?_
 have hb93:1 < e.args.length:=by omega
 obtain ⟨x94,hx95⟩:=zX hb93
 obtain ⟨cs96,hl97,ha98,hr99⟩:=h46.elem hx95
 obtain ⟨p102,c103,p108,c109,rfl,hi112,h101,h107,hm104,hn105,hm110,hn111⟩:=REx.fm hr99
 refine zZ call134 (fun w hm a he =>?_) (c:=ih _ (by exact Ex.lt_args (List.mem_of_getElem? hx95)) rpT hr99 hm)
 refine go fun a he =>?_
 replace hm:=hm.dl [1]
 refine hQ _ _ _ (y8p 0 runUnderlying195 runUnderlying9 he results171 rfl hm rfl fun w hm =>?_)
 rw [z3a] at hm
 have hr_:z0p T e s=((zG T x94 (qM ((zG T x66 s).2) e.name ((zG T x66 s).1))).1,(z6s ((zG T x94 (qM ((zG T x66 s).2) e.name ((zG T x66 s).1))).2) e.name)):=by
  rw [z0p,if_pos hB62,z2i hx67 hx95 h87]
 show _∧_;rw [hr_];exact ⟨rfl,hm⟩
 refine go fun a he =>?_
 replace hm:=hm.dl [0]
 refine hQ _ _ _ (ret1B he results171 rfl ?_)
 have hr_:z0p T e s=((⟨#[]⟩:ByteArray),s):=by
  simp [z0p,sNo, *]
 show _∧_;rw [hr_];exact ⟨rfl,hm⟩
end Go.Sw

namespace Go.Sw
open Go.Proofs.Tryz
open Go.Proofs
set_option maxRecDepth 20000
set_option maxHeartbeats 4000000
theorem q7o {Φ:Fz} {K:List Res} {w:World} {p0:Addr} {T:Table} {d1:List Value} {e:Ex} {b:Nat} {s:Scope} (rpT:RTable Φ p0 T) (rpe:REx Φ d1 e) (hT:∀n f,zH T.funs n=some f→f.params.length≤1000) (ih:∀x:Ex,x.sz < e.sz→∀{Φ:Fz} {K:List Res} {w:World} {p:Addr} {d:List Value} {b:Nat} {s:Scope},RTable Φ p T→REx Φ d x→Mem Φ (.mp b (yM s)::K) w→Calls prog 134 (List.toArray [.pointer (some p),.agg d.toArray,.map (some b)]) w (fun ee w'=>ee=.returned (.string (zG T x s).1)∧Mem Φ (.mp b (yM (zG T x s).2)::K) w')) (hm:Mem Φ (.mp b (yM s)::K) w) :
  Calls prog 134 (List.toArray [.pointer (some p0),.agg d1.toArray,.map (some b)]) w (fun ee w'=>ee=.returned (.string ((zG T e s).1))∧Mem Φ (.mp b (yM (zG T e s).2)::K) w'):=by
 obtain ⟨cs17,m1,m2,m3,m4,d5,d6,d7,d8,hat18,hcl19,hcore20,ma9,mr13,ma10,mr14,ma11,mr15,ma12,mr16⟩:=rpT.ex
 obtain ⟨p23,c24,p29,c30,p35,c36,p41,c42,rfl,h22,h28,h34,h40,hm25,hn26,hm31,hn32,hm37,hn38,hm43,hn44⟩:=RCore.fm hcore20
 obtain ⟨p47,c48,p53,c54,rfl,hi57,h46,h52,hm49,hn50,hm55,hn56⟩:=REx.fm rpe
 refine zL func134 ntmps134 fun Q hQ a he =>?_
 refine Bx fun b59 w hm a he =>?_
 refine go fun a he =>?_
 refine st he rfl rfl rfl (y7j hm fun b61 w hm a he =>?_)
 refine go fun a he =>?_
 refine st0 he rfl rfl (kM 0 runUnderlying228 runUnderlying3 he hm rfl rfl rfl rfl fun w hm a he =>?_)
 replace hm:=hm.nf
 refine go fun a he =>?_
 refine st0 he rfl rfl (kM 0 runUnderlying228 runUnderlying3 he hm rfl rfl rfl rfl fun w hm a he =>?_)
 replace hm:=hm.nf
 refine go fun a he =>?_
 refine st0 he rfl rfl (kM 0 runUnderlying228 runUnderlying3 he hm rfl rfl rfl rfl fun w hm a he =>?_)
 replace hm:=hm.nf
 refine go fun a he =>?_
 refine st0 he rfl rfl (kM 0 runUnderlying228 runUnderlying3 he hm rfl rfl rfl rfl fun w hm a he =>?_)
 replace hm:=hm.nf
 refine go fun a he =>?_
 refine st0 he rfl rfl (kM 0 runUnderlying228 runUnderlying3 he hm rfl rfl rfl rfl fun w hm a he =>?_)
 replace hm:=hm.nf
 refine go fun a he =>?_
 refine st0 he rfl rfl (kM 0 runUnderlying228 runUnderlying3 he hm rfl rfl rfl rfl fun w hm a he =>?_)
 replace hm:=hm.nf
 refine go fun a he =>?_
 refine st0 he rfl rfl (kM 0 runUnderlying228 runUnderlying3 he hm rfl rfl rfl rfl fun w hm a he =>?_)
 replace hm:=hm.nf
 refine go fun a he =>?_
 refine st0 he rfl rfl (kM 0 runUnderlying228 runUnderlying3 he hm rfl rfl rfl rfl fun w hm a he =>?_)
 replace hm:=hm.nf
 refine go fun a he =>?_
 by_cases h63:e.kind=1
 have hf64:aQ [(1,.func (.func 166) (List.toArray [.pointer (some p0)]) (List.toArray [])),(2,.func (.func 167) (List.toArray [.pointer (some p0)]) (List.toArray [])),(3,.func (.func 168) (List.toArray [.pointer (some p0)]) (List.toArray [])),(4,.func (.func 169) (List.toArray [.pointer (some p0)]) (List.toArray [])),(5,.func (.func 170) (List.toArray [.pointer (some p0)]) (List.toArray [])),(6,.func (.func 171) (List.toArray [.pointer (some p0)]) (List.toArray [])),(7,.func (.func 172) (List.toArray [.pointer (some p0)]) (List.toArray [])),(8,.func (.func 173) (List.toArray [.pointer (some p0)]) (List.toArray []))] (e.kind)=some (.func (.func 166) (List.toArray [.pointer (some p0)]) (List.toArray [])):=by rw [h63];rfl
 have hf64_:=congrArg (zF true (.nilFunc)) hf64
 refine Qq (fun a he =>?_) (o:=by exact fun he hs=>Ok.cast (xI 0 runUnderlying228 runUnderlying3 zeroValue197 he hs rfl rfl rfl) (show zF true (.nilFunc) (aQ [(1,.func (.func 166) (List.toArray [.pointer (some p0)]) (List.toArray [])),(2,.func (.func 167) (List.toArray [.pointer (some p0)]) (List.toArray [])),(3,.func (.func 168) (List.toArray [.pointer (some p0)]) (List.toArray [])),(4,.func (.func 169) (List.toArray [.pointer (some p0)]) (List.toArray [])),(5,.func (.func 170) (List.toArray [.pointer (some p0)]) (List.toArray [])),(6,.func (.func 171) (List.toArray [.pointer (some p0)]) (List.toArray [])),(7,.func (.func 172) (List.toArray [.pointer (some p0)]) (List.toArray [])),(8,.func (.func 173) (List.toArray [.pointer (some p0)]) (List.toArray []))] (e.kind))=.tuple (List.toArray [.func (.func 166) (List.toArray [.pointer (some p0)]) (List.toArray []),.bool true]) from hf64_))
 replace hm:=hm.pl 2
 refine y6w call166 (fun w hm a he =>?_) (c:=by exact j3a rpT rpe hm)
 refine zI ?_
 replace hm:=hm.dl [2,1]
 have hr_:zG T e s=((dS e),s):=by rw [sI T e s h63]
 show _∧_;rw [hr_];exact ⟨rfl,hm⟩
 by_cases h68:e.kind=2
 have hf69:aQ [(1,.func (.func 166) (List.toArray [.pointer (some p0)]) (List.toArray [])),(2,.func (.func 167) (List.toArray [.pointer (some p0)]) (List.toArray [])),(3,.func (.func 168) (List.toArray [.pointer (some p0)]) (List.toArray [])),(4,.func (.func 169) (List.toArray [.pointer (some p0)]) (List.toArray [])),(5,.func (.func 170) (List.toArray [.pointer (some p0)]) (List.toArray [])),(6,.func (.func 171) (List.toArray [.pointer (some p0)]) (List.toArray [])),(7,.func (.func 172) (List.toArray [.pointer (some p0)]) (List.toArray [])),(8,.func (.func 173) (List.toArray [.pointer (some p0)]) (List.toArray []))] (e.kind)=some (.func (.func 167) (List.toArray [.pointer (some p0)]) (List.toArray [])):=by rw [h68];rfl
 have hf69_:=congrArg (zF true (.nilFunc)) hf69
 refine Qq (fun a he =>?_) (o:=by exact fun he hs=>Ok.cast (xI 0 runUnderlying228 runUnderlying3 zeroValue197 he hs rfl rfl rfl) (show zF true (.nilFunc) (aQ [(1,.func (.func 166) (List.toArray [.pointer (some p0)]) (List.toArray [])),(2,.func (.func 167) (List.toArray [.pointer (some p0)]) (List.toArray [])),(3,.func (.func 168) (List.toArray [.pointer (some p0)]) (List.toArray [])),(4,.func (.func 169) (List.toArray [.pointer (some p0)]) (List.toArray [])),(5,.func (.func 170) (List.toArray [.pointer (some p0)]) (List.toArray [])),(6,.func (.func 171) (List.toArray [.pointer (some p0)]) (List.toArray [])),(7,.func (.func 172) (List.toArray [.pointer (some p0)]) (List.toArray [])),(8,.func (.func 173) (List.toArray [.pointer (some p0)]) (List.toArray []))] (e.kind))=.tuple (List.toArray [.func (.func 167) (List.toArray [.pointer (some p0)]) (List.toArray []),.bool true]) from hf69_))
 replace hm:=hm.pl 2
 refine y6w call167 (fun w hm a he =>?_) (c:=by exact q3i rpT rpe hm)
 refine zI ?_
 replace hm:=hm.dl [2,1]
 have hr_:zG T e s=((pH e s),s):=by rw [sJ T e s h68]
 show _∧_;rw [hr_];exact ⟨rfl,hm⟩
 by_cases h73:e.kind=3
 have hf74:aQ [(1,.func (.func 166) (List.toArray [.pointer (some p0)]) (List.toArray [])),(2,.func (.func 167) (List.toArray [.pointer (some p0)]) (List.toArray [])),(3,.func (.func 168) (List.toArray [.pointer (some p0)]) (List.toArray [])),(4,.func (.func 169) (List.toArray [.pointer (some p0)]) (List.toArray [])),(5,.func (.func 170) (List.toArray [.pointer (some p0)]) (List.toArray [])),(6,.func (.func 171) (List.toArray [.pointer (some p0)]) (List.toArray [])),(7,.func (.func 172) (List.toArray [.pointer (some p0)]) (List.toArray [])),(8,.func (.func 173) (List.toArray [.pointer (some p0)]) (List.toArray []))] (e.kind)=some (.func (.func 168) (List.toArray [.pointer (some p0)]) (List.toArray [])):=by rw [h73];rfl
 have hf74_:=congrArg (zF true (.nilFunc)) hf74
 refine Qq (fun a he =>?_) (o:=by exact fun he hs=>Ok.cast (xI 0 runUnderlying228 runUnderlying3 zeroValue197 he hs rfl rfl rfl) (show zF true (.nilFunc) (aQ [(1,.func (.func 166) (List.toArray [.pointer (some p0)]) (List.toArray [])),(2,.func (.func 167) (List.toArray [.pointer (some p0)]) (List.toArray [])),(3,.func (.func 168) (List.toArray [.pointer (some p0)]) (List.toArray [])),(4,.func (.func 169) (List.toArray [.pointer (some p0)]) (List.toArray [])),(5,.func (.func 170) (List.toArray [.pointer (some p0)]) (List.toArray [])),(6,.func (.func 171) (List.toArray [.pointer (some p0)]) (List.toArray [])),(7,.func (.func 172) (List.toArray [.pointer (some p0)]) (List.toArray [])),(8,.func (.func 173) (List.toArray [.pointer (some p0)]) (List.toArray []))] (e.kind))=.tuple (List.toArray [.func (.func 168) (List.toArray [.pointer (some p0)]) (List.toArray []),.bool true]) from hf74_))
 replace hm:=hm.pl 2
 refine y6w call168 (fun w hm a he =>?_) (c:=by exact j1t rpT rpe hm)
 refine zI ?_
 replace hm:=hm.dl [2,1]
 have hr_:zG T e s=((oN T e),s):=by rw [sG T e s h73]
 show _∧_;rw [hr_];exact ⟨rfl,hm⟩
 by_cases h78:e.kind=4
 have hf79:aQ [(1,.func (.func 166) (List.toArray [.pointer (some p0)]) (List.toArray [])),(2,.func (.func 167) (List.toArray [.pointer (some p0)]) (List.toArray [])),(3,.func (.func 168) (List.toArray [.pointer (some p0)]) (List.toArray [])),(4,.func (.func 169) (List.toArray [.pointer (some p0)]) (List.toArray [])),(5,.func (.func 170) (List.toArray [.pointer (some p0)]) (List.toArray [])),(6,.func (.func 171) (List.toArray [.pointer (some p0)]) (List.toArray [])),(7,.func (.func 172) (List.toArray [.pointer (some p0)]) (List.toArray [])),(8,.func (.func 173) (List.toArray [.pointer (some p0)]) (List.toArray []))] (e.kind)=some (.func (.func 169) (List.toArray [.pointer (some p0)]) (List.toArray [])):=by rw [h78];rfl
 have hf79_:=congrArg (zF true (.nilFunc)) hf79
 refine Qq (fun a he =>?_) (o:=by exact fun he hs=>Ok.cast (xI 0 runUnderlying228 runUnderlying3 zeroValue197 he hs rfl rfl rfl) (show zF true (.nilFunc) (aQ [(1,.func (.func 166) (List.toArray [.pointer (some p0)]) (List.toArray [])),(2,.func (.func 167) (List.toArray [.pointer (some p0)]) (List.toArray [])),(3,.func (.func 168) (List.toArray [.pointer (some p0)]) (List.toArray [])),(4,.func (.func 169) (List.toArray [.pointer (some p0)]) (List.toArray [])),(5,.func (.func 170) (List.toArray [.pointer (some p0)]) (List.toArray [])),(6,.func (.func 171) (List.toArray [.pointer (some p0)]) (List.toArray [])),(7,.func (.func 172) (List.toArray [.pointer (some p0)]) (List.toArray [])),(8,.func (.func 173) (List.toArray [.pointer (some p0)]) (List.toArray []))] (e.kind))=.tuple (List.toArray [.func (.func 169) (List.toArray [.pointer (some p0)]) (List.toArray []),.bool true]) from hf79_))
 replace hm:=hm.pl 2
 refine y6w call169 (fun w hm a he =>?_) (c:=by exact con_ok rpT rpe ih hm)
 refine zI ?_
 replace hm:=hm.dl [2,1]
 have hr_:zG T e s=((sY T e s).1,(sY T e s).2):=by rw [sF T e s h78]
 show _∧_;rw [hr_];exact ⟨rfl,hm⟩
 by_cases h83:e.kind=5
 have hf84:aQ [(1,.func (.func 166) (List.toArray [.pointer (some p0)]) (List.toArray [])),(2,.func (.func 167) (List.toArray [.pointer (some p0)]) (List.toArray [])),(3,.func (.func 168) (List.toArray [.pointer (some p0)]) (List.toArray [])),(4,.func (.func 169) (List.toArray [.pointer (some p0)]) (List.toArray [])),(5,.func (.func 170) (List.toArray [.pointer (some p0)]) (List.toArray [])),(6,.func (.func 171) (List.toArray [.pointer (some p0)]) (List.toArray [])),(7,.func (.func 172) (List.toArray [.pointer (some p0)]) (List.toArray [])),(8,.func (.func 173) (List.toArray [.pointer (some p0)]) (List.toArray []))] (e.kind)=some (.func (.func 170) (List.toArray [.pointer (some p0)]) (List.toArray [])):=by rw [h83];rfl
 have hf84_:=congrArg (zF true (.nilFunc)) hf84
 refine Qq (fun a he =>?_) (o:=by exact fun he hs=>Ok.cast (xI 0 runUnderlying228 runUnderlying3 zeroValue197 he hs rfl rfl rfl) (show zF true (.nilFunc) (aQ [(1,.func (.func 166) (List.toArray [.pointer (some p0)]) (List.toArray [])),(2,.func (.func 167) (List.toArray [.pointer (some p0)]) (List.toArray [])),(3,.func (.func 168) (List.toArray [.pointer (some p0)]) (List.toArray [])),(4,.func (.func 169) (List.toArray [.pointer (some p0)]) (List.toArray [])),(5,.func (.func 170) (List.toArray [.pointer (some p0)]) (List.toArray [])),(6,.func (.func 171) (List.toArray [.pointer (some p0)]) (List.toArray [])),(7,.func (.func 172) (List.toArray [.pointer (some p0)]) (List.toArray [])),(8,.func (.func 173) (List.toArray [.pointer (some p0)]) (List.toArray []))] (e.kind))=.tuple (List.toArray [.func (.func 170) (List.toArray [.pointer (some p0)]) (List.toArray []),.bool true]) from hf84_))
 replace hm:=hm.pl 2
 refine y6w call170 (fun w hm a he =>?_) (c:=by exact call_ok rpT rpe hT ih hm)
 refine zI ?_
 replace hm:=hm.dl [2,1]
 have hr_:zG T e s=((aA T e s).1,(aA T e s).2):=by rw [dX T e s h83]
 show _∧_;rw [hr_];exact ⟨rfl,hm⟩
 by_cases h88:e.kind=6
 have hf89:aQ [(1,.func (.func 166) (List.toArray [.pointer (some p0)]) (List.toArray [])),(2,.func (.func 167) (List.toArray [.pointer (some p0)]) (List.toArray [])),(3,.func (.func 168) (List.toArray [.pointer (some p0)]) (List.toArray [])),(4,.func (.func 169) (List.toArray [.pointer (some p0)]) (List.toArray [])),(5,.func (.func 170) (List.toArray [.pointer (some p0)]) (List.toArray [])),(6,.func (.func 171) (List.toArray [.pointer (some p0)]) (List.toArray [])),(7,.func (.func 172) (List.toArray [.pointer (some p0)]) (List.toArray [])),(8,.func (.func 173) (List.toArray [.pointer (some p0)]) (List.toArray []))] (e.kind)=some (.func (.func 171) (List.toArray [.pointer (some p0)]) (List.toArray [])):=by rw [h88];rfl
 have hf89_:=congrArg (zF true (.nilFunc)) hf89
 refine Qq (fun a he =>?_) (o:=by exact fun he hs=>Ok.cast (xI 0 runUnderlying228 runUnderlying3 zeroValue197 he hs rfl rfl rfl) (show zF true (.nilFunc) (aQ [(1,.func (.func 166) (List.toArray [.pointer (some p0)]) (List.toArray [])),(2,.func (.func 167) (List.toArray [.pointer (some p0)]) (List.toArray [])),(3,.func (.func 168) (List.toArray [.pointer (some p0)]) (List.toArray [])),(4,.func (.func 169) (List.toArray [.pointer (some p0)]) (List.toArray [])),(5,.func (.func 170) (List.toArray [.pointer (some p0)]) (List.toArray [])),(6,.func (.func 171) (List.toArray [.pointer (some p0)]) (List.toArray [])),(7,.func (.func 172) (List.toArray [.pointer (some p0)]) (List.toArray [])),(8,.func (.func 173) (List.toArray [.pointer (some p0)]) (List.toArray []))] (e.kind))=.tuple (List.toArray [.func (.func 171) (List.toArray [.pointer (some p0)]) (List.toArray []),.bool true]) from hf89_))
 replace hm:=hm.pl 2
 refine y6w call171 (fun w hm a he =>?_) (c:=by exact let_ok rpT rpe ih hm)
 refine zI ?_
 replace hm:=hm.dl [2,1]
 have hr_:zG T e s=((z0p T e s).1,(z0p T e s).2):=by rw [sH T e s h88]
 show _∧_;rw [hr_];exact ⟨rfl,hm⟩
 by_cases h93:e.kind=7
 have hf94:aQ [(1,.func (.func 166) (List.toArray [.pointer (some p0)]) (List.toArray [])),(2,.func (.func 167) (List.toArray [.pointer (some p0)]) (List.toArray [])),(3,.func (.func 168) (List.toArray [.pointer (some p0)]) (List.toArray [])),(4,.func (.func 169) (List.toArray [.pointer (some p0)]) (List.toArray [])),(5,.func (.func 170) (List.toArray [.pointer (some p0)]) (List.toArray [])),(6,.func (.func 171) (List.toArray [.pointer (some p0)]) (List.toArray [])),(7,.func (.func 172) (List.toArray [.pointer (some p0)]) (List.toArray [])),(8,.func (.func 173) (List.toArray [.pointer (some p0)]) (List.toArray []))] (e.kind)=some (.func (.func 172) (List.toArray [.pointer (some p0)]) (List.toArray [])):=by rw [h93];rfl
 have hf94_:=congrArg (zF true (.nilFunc)) hf94
 refine Qq (fun a he =>?_) (o:=by exact fun he hs=>Ok.cast (xI 0 runUnderlying228 runUnderlying3 zeroValue197 he hs rfl rfl rfl) (show zF true (.nilFunc) (aQ [(1,.func (.func 166) (List.toArray [.pointer (some p0)]) (List.toArray [])),(2,.func (.func 167) (List.toArray [.pointer (some p0)]) (List.toArray [])),(3,.func (.func 168) (List.toArray [.pointer (some p0)]) (List.toArray [])),(4,.func (.func 169) (List.toArray [.pointer (some p0)]) (List.toArray [])),(5,.func (.func 170) (List.toArray [.pointer (some p0)]) (List.toArray [])),(6,.func (.func 171) (List.toArray [.pointer (some p0)]) (List.toArray [])),(7,.func (.func 172) (List.toArray [.pointer (some p0)]) (List.toArray [])),(8,.func (.func 173) (List.toArray [.pointer (some p0)]) (List.toArray []))] (e.kind))=.tuple (List.toArray [.func (.func 172) (List.toArray [.pointer (some p0)]) (List.toArray []),.bool true]) from hf94_))
 replace hm:=hm.pl 2
 refine y6w call172 (fun w hm a he =>?_) (c:=by exact x0t rpT rpe ih hm)
 refine zI ?_
 replace hm:=hm.dl [2,1]
 have hr_:zG T e s=((jY T e s).1,(jY T e s).2):=by rw [dY T e s h93]
 show _∧_;rw [hr_];exact ⟨rfl,hm⟩
 by_cases h98:e.kind=8
 have hf99:aQ [(1,.func (.func 166) (List.toArray [.pointer (some p0)]) (List.toArray [])),(2,.func (.func 167) (List.toArray [.pointer (some p0)]) (List.toArray [])),(3,.func (.func 168) (List.toArray [.pointer (some p0)]) (List.toArray [])),(4,.func (.func 169) (List.toArray [.pointer (some p0)]) (List.toArray [])),(5,.func (.func 170) (List.toArray [.pointer (some p0)]) (List.toArray [])),(6,.func (.func 171) (List.toArray [.pointer (some p0)]) (List.toArray [])),(7,.func (.func 172) (List.toArray [.pointer (some p0)]) (List.toArray [])),(8,.func (.func 173) (List.toArray [.pointer (some p0)]) (List.toArray []))] (e.kind)=some (.func (.func 173) (List.toArray [.pointer (some p0)]) (List.toArray [])):=by rw [h98];rfl
 have hf99_:=congrArg (zF true (.nilFunc)) hf99
 refine Qq (fun a he =>?_) (o:=by exact fun he hs=>Ok.cast (xI 0 runUnderlying228 runUnderlying3 zeroValue197 he hs rfl rfl rfl) (show zF true (.nilFunc) (aQ [(1,.func (.func 166) (List.toArray [.pointer (some p0)]) (List.toArray [])),(2,.func (.func 167) (List.toArray [.pointer (some p0)]) (List.toArray [])),(3,.func (.func 168) (List.toArray [.pointer (some p0)]) (List.toArray [])),(4,.func (.func 169) (List.toArray [.pointer (some p0)]) (List.toArray [])),(5,.func (.func 170) (List.toArray [.pointer (some p0)]) (List.toArray [])),(6,.func (.func 171) (List.toArray [.pointer (some p0)]) (List.toArray [])),(7,.func (.func 172) (List.toArray [.pointer (some p0)]) (List.toArray [])),(8,.func (.func 173) (List.toArray [.pointer (some p0)]) (List.toArray []))] (e.kind))=.tuple (List.toArray [.func (.func 173) (List.toArray [.pointer (some p0)]) (List.toArray []),.bool true]) from hf99_))
 replace hm:=hm.pl 2
 refine y6w call173 (fun w hm a he =>?_) (c:=by exact op_ok rpT rpe ih hm)
 refine zI ?_
 replace hm:=hm.dl [2,1]
 have hr_:zG T e s=((nC T e s).1,(nC T e s).2):=by rw [uV T e s h98]
 show _∧_;rw [hr_];exact ⟨rfl,hm⟩
 have hf103:aQ [(1,.func (.func 166) (List.toArray [.pointer (some p0)]) (List.toArray [])),(2,.func (.func 167) (List.toArray [.pointer (some p0)]) (List.toArray [])),(3,.func (.func 168) (List.toArray [.pointer (some p0)]) (List.toArray [])),(4,.func (.func 169) (List.toArray [.pointer (some p0)]) (List.toArray [])),(5,.func (.func 170) (List.toArray [.pointer (some p0)]) (List.toArray [])),(6,.func (.func 171) (List.toArray [.pointer (some p0)]) (List.toArray [])),(7,.func (.func 172) (List.toArray [.pointer (some p0)]) (List.toArray [])),(8,.func (.func 173) (List.toArray [.pointer (some p0)]) (List.toArray []))] (e.kind)=none:=by simp [aQ, *]
 have hf103_:=congrArg (zF true (.nilFunc)) hf103
 refine Qq (fun a he =>?_) (o:=by exact fun he hs=>Ok.cast (xI 0 runUnderlying228 runUnderlying3 zeroValue197 he hs rfl rfl rfl) (show zF true (.nilFunc) (aQ [(1,.func (.func 166) (List.toArray [.pointer (some p0)]) (List.toArray [])),(2,.func (.func 167) (List.toArray [.pointer (some p0)]) (List.toArray [])),(3,.func (.func 168) (List.toArray [.pointer (some p0)]) (List.toArray [])),(4,.func (.func 169) (List.toArray [.pointer (some p0)]) (List.toArray [])),(5,.func (.func 170) (List.toArray [.pointer (some p0)]) (List.toArray [])),(6,.func (.func 171) (List.toArray [.pointer (some p0)]) (List.toArray [])),(7,.func (.func 172) (List.toArray [.pointer (some p0)]) (List.toArray [])),(8,.func (.func 173) (List.toArray [.pointer (some p0)]) (List.toArray []))] (e.kind))=.tuple (List.toArray [.nilFunc,.bool false]) from hf103_))
 refine zI ?_
 replace hm:=hm.dl [1,0]
 have hr_:zG T e s=((⟨#[]⟩:ByteArray),s):=by rw [dZ T e s h63 h68 h73 h78 h83 h88 h93 h98];rfl
 show _∧_;rw [hr_];exact ⟨rfl,hm⟩
theorem x1j {T:Table} (hT:∀n f,zH T.funs n=some f→f.params.length≤1000) {Φ:Fz} {K:List Res} {w:World} {p:Addr} {d:List Value} {e:Ex} {b:Nat} {s:Scope} (rT:RTable Φ p T) (re:REx Φ d e) (hm:Mem Φ (.mp b (yM s)::K) w) :
  Calls prog 134 (List.toArray [.pointer (some p),.agg d.toArray,.map (some b)]) w (fun ee w'=>ee=.returned (.string (zG T e s).1)∧Mem Φ (.mp b (yM (zG T e s).2)::K) w'):=by
 suffices H:∀n (e:Ex),e.sz < n→∀{Φ:Fz} {K:List Res} {w:World} {p:Addr} {d:List Value} {b:Nat} {s:Scope},RTable Φ p T→REx Φ d e→Mem Φ (.mp b (yM s)::K) w →
   Calls prog 134 (List.toArray [.pointer (some p),.agg d.toArray,.map (some b)]) w (fun ee w'=>ee=.returned (.string (zG T e s).1)∧Mem Φ (.mp b (yM (zG T e s).2)::K) w') from H _ e (Nat.lt_succ_self _) rT re hm
 intro n
 induction n with
 | zero=>intro e h;omega
 | succ n ih=>intro e h Φ K w p d b s rT re hm;exact q7o rT re hT (fun x hx _ _ _ _ _ _ _ r1 r2 m=>ih x (by omega) r1 r2 m) hm
end Go.Sw

namespace Go.Sw
open Go.Proofs.Tryz
open Go.Proofs
set_option maxRecDepth 20000
set_option maxHeartbeats 4000000
theorem z0u {c:Core} (h:xL c=false):c.datas.length≤60:=by
 simp only [xL,Bool.or_eq_false_iff,decide_eq_false_iff_not] at h;omega
theorem y5f {c:Core} (h:xL c=false):c.funs.length≤300:=by
 simp only [xL,Bool.or_eq_false_iff,decide_eq_false_iff_not] at h;omega
theorem tN {c:Core} (h:xL c=false):c.inputs.length≤6:=by
 simp only [xL,Bool.or_eq_false_iff,decide_eq_false_iff_not] at h;omega
theorem q7j {Φ:Fz} {K:List Res} {w:World} {d0:List Value} {c:Core} {v:Value} (rpc:RCoreX Φ d0 c v) (hlong:xL c=false) (G:Glob Φ) (hm:Mem Φ K w) :
  Calls prog 126 (List.toArray [.agg d0.toArray]) w (fun ee w'=>∃y:Fz×Addr,ee=.returned (.tuple (List.toArray [.pointer (some y.2),.bool (nY c)]))∧(Φ.Le y.1∧RTableX y.1 y.2 (zR c) v)∧Mem y.1 K w'):=by
 obtain ⟨s1,s2,s3,q4,cc5,rfl,rfl,h6,h7,h8⟩:=id rpc
 obtain ⟨p9,c10,rfl,hm11,hn12⟩:=h6.fm
 obtain ⟨p13,c14,rfl,hm15,hn16⟩:=h7.fm
 obtain ⟨p17,c18,rfl,hm19,hn20⟩:=h8.fm
 refine zL func126 ntmps126 fun Q hQ a he =>?_
 refine Bx fun b22 w hm a he =>?_
 refine MkM fun b24 w hm a he =>?_
 refine MkM fun b25 w hm a he =>?_
 refine MkM fun b26 w hm a he =>?_
 refine MkM fun b27 w hm a he =>?_
 refine kK fun a he =>?_
 refine Bx fun b28 w hm a he =>?_
 refine go fun a he =>?_
 refine qB [0,0,1,2,0,1,1] (.q 2 (.q 3 (.q 6 (.e 0 (.e 1 (.e 4 (.q 5 (.done)))))))) [0,1,2,3,4,5] he hm fun w hm =>?_
 refine jF call157 (fun y32 w hG33 hm a he =>?_) (c:=z5f hm)
 obtain ⟨Ψ34,d35⟩:=y32
 obtain ⟨le36,hr37⟩:=hG33
 simp only at le36 hr37 hm he
 replace h6:=h6.up le36
 replace h7:=h7.up le36
 replace h8:=h8.up le36
 replace rpc:=rpc.mono le36
 replace G:=G.mono le36
 replace hm:=hm.nf
 obtain ⟨s38,rfl,h39⟩:=id hr37
 obtain ⟨p40,c41,rfl,hm42,hn43⟩:=h39.fm
 refine qW fun v44 w hm a he =>?_
 obtain ⟨cs46,hrow47,hch48⟩:=id h6
 refine qL 0 rt_22 (fun v45 w hm a he =>?_) (hr:=hrow47.rowIn hm.toSees) (h1:=hch48.ones RData.ones) (hb:=by have h_:=hch48.length;have h2_:=z0u hlong;rw [h_];simp only [List.length_cons,List.length_nil];omega)
 have hm0_:=hm
 clear hm
 obtain ⟨Ψ49,le50,hm,hrow51⟩:=hm0_.freezeRow (i:=0) rfl
 clear hm0_
 replace h7:=h7.up le50
 replace h8:=h8.up le50
 replace rpc:=rpc.mono le50
 replace G:=G.mono le50
 replace hr37:=RData.mono _ _ _ _ le50 hr37
 replace hch48:=hch48.mono fun _ _ h=>RData.mono _ _ _ _ le50 h
 replace hm:=hm.nf
 have hsl52:SliceOf RData Ψ49 2 _ (truthsD::c.datas):=⟨_,hrow51,⟨_,_,rfl,rfl,hr37,hch48⟩⟩
 obtain ⟨p53,c54,hv_,hm55,hn56⟩:=hsl52.form (by decide)
 have hmk_:=hm
 clear hm
 subst hv_
 have hm:=hmk_
 clear hmk_
 refine go fun a he =>?_
 refine yF (he.ks [1,4,25,26]) hm (fun R mm a w=>∃(i:Nat) (o:Bool) (m0:List (Bs×Value)) (l0:List (Bs×Data)) (m1:List (Bs×Value)) (l1:List (Bs×Maker)),mm=(truthsD::c.datas).length - i∧R Ψ49 [(5,.bool o),(27,.int .i64 ((i:Nat):Int))] [(3,.mp b25 m1),(4,.mp b24 m0)] a w∧(z1g true [] [] (truthsD::c.datas)=z1g o l0 l1 ((truthsD::c.datas).drop i)∧MapRel (RVa RData Ψ49) m0 l0∧MapRel (RVa RMaker Ψ49) m1 l1)) ((truthsD::c.datas).length - 0) ⟨0,true,[],[],[],[],rfl,⟨he.pk,hm⟩,⟨rfl,MapRel.nil,MapRel.nil⟩⟩ ?_
 clear hm he
 rintro mm a w ⟨i,o,m0,l0,m1,l1,hmu,⟨he,hm⟩,hI58⟩ L57 hL57
 replace hm:=hm.nf
 obtain ⟨hI58,r0,r1⟩:=hI58
 by_cases h60:i < (truthsD::c.datas).length
 refine go fun a he =>?_
 obtain ⟨q64,rfl,x65,hx66,cs67,hl68,ha69,hr70⟩:=hsl52.el hn56 h60
 obtain ⟨s71,rfl,h72⟩:=id hr70
 obtain ⟨p73,c74,rfl,hm75,hn76⟩:=h72.fm
 refine Alc fun b77 w hm a he =>?_
 refine Sto 0 fun w hm a he =>?_
 refine Reg [1,1,1,2,0,1,1,1,2,1,1,1,1,1,1,2,1,2,2,0,1,1,1,2,1,1,1,1] [0,1,2,3,4,6] fun w hm a he =>?_
 refine go fun a he =>?_
 cases o
 refine go fun a he =>?_
 refine yF (he.ks [1,4,7,25,26,27,59,60]) hm (fun R mm a w=>∃(k:Nat) (o2:Bool) (m1b:List (Bs×Value)) (l1b:List (Bs×Maker)),mm=x65.cons.length - k∧R Ψ49 [(5,.bool o2),(61,.int .i64 ((k:Nat):Int))] [(4,.mp b25 m1b)] a w∧(xP x65.name false l1 x65.cons=xP x65.name o2 l1b (x65.cons.drop k)∧MapRel (RVa RMaker Ψ49) m1b l1b)) (x65.cons.length - 0) ⟨0,false,m1,l1,rfl,⟨he.pk,hm⟩,⟨rfl,r1⟩⟩ ?_
 clear hm he
 rintro mm a w ⟨k,o2,m1b,l1b,hmu,⟨he,hm⟩,hI81⟩ L80 hL80
 replace hm:=hm.nf
 obtain ⟨hI81,r1b⟩:=hI81
 by_cases h83:k < x65.cons.length
 refine go fun a he =>?_
 obtain ⟨q87,rfl,x88,hx89,cs90,hl91,ha92,hr93⟩:=h72.el hn76 h83
 obtain ⟨s94,rfl,h95⟩:=id hr93
 obtain ⟨p96,c97,rfl,hm98,hn99⟩:=h95.fm
 refine Alc fun b100 w hm a he =>?_
 refine Sto 0 fun w hm a he =>?_
 refine Reg [1,1,1,2,0,1,1,1,1,1,2,1,2,1,2,2,1,0,1,1] [0,1,2,3,4,6,7] fun w hm a he =>?_
 refine go fun a he =>?_
 cases o2
 refine go fun a he =>?_
 replace hm:=hm.dl [0]
 refine hL80 _ _ _ (by subst hmu;omega) ⟨(k+1),(false),(m1b),(l1b),rfl,⟨he.pk,hm⟩,?_⟩
 refine ⟨?_,r1b⟩
 rw [hI81,zA hx89];simp [xP, *]
 refine yK call158 (fun hB101 w hm a he =>?_) (fun hB101 w hm a he =>?_) (c:=wY G hm)
 refine kK fun a he =>?_
 replace hm:=hm.pl 5
 refine yK call160 (fun hB102 w hm a he =>?_) (fun hB102 w hm a he =>?_) (c:=wI (m:=m1b) (l:=l1b) (x:=(⟨x65.name,x88⟩:Maker)) r1b (show RMaker Ψ49 _ (⟨x65.name,x88⟩:Maker) from ⟨_,rfl,hr93⟩) hm)
 replace hm:=hm.nf
 obtain ⟨M103,hM_⟩:∃M_,M_=(vA m1b x88.name (.agg (List.toArray [.string x65.name,.string x88.name,.slice p96 x88.fields.length c97]))):=⟨_,rfl⟩
 have r104:MapRel (RVa RMaker Ψ49) M103 (qX l1b x88.name (⟨x65.name,x88⟩:Maker)):=by rw [hM_];exact (MapRel.once r1b ⟨_,rfl,(show RMaker Ψ49 _ (⟨x65.name,x88⟩:Maker) from ⟨_,rfl,hr93⟩)⟩)
 rw [← hM_] at hm
 clear hM_
 refine go fun a he =>?_
 replace hm:=hm.ar [1] [6,6,2,6,6,6,6]
 refine hL80 _ _ _ (by subst hmu;omega) ⟨(k+1),(true),(M103),((qX l1b x88.name (⟨x65.name,x88⟩:Maker))),rfl,⟨he.pk,hm⟩,?_⟩
 refine ⟨?_,r104⟩
 rw [hI81,zA hx89];simp [xP, *]
 replace hm:=hm.nf
 obtain ⟨M105,hM_⟩:∃M_,M_=(vA m1b x88.name (.agg (List.toArray [.string x65.name,.string x88.name,.slice p96 x88.fields.length c97]))):=⟨_,rfl⟩
 have r106:MapRel (RVa RMaker Ψ49) M105 (qX l1b x88.name (⟨x65.name,x88⟩:Maker)):=by rw [hM_];exact (MapRel.once r1b ⟨_,rfl,(show RMaker Ψ49 _ (⟨x65.name,x88⟩:Maker) from ⟨_,rfl,hr93⟩)⟩)
 rw [← hM_] at hm
 clear hM_
 refine go fun a he =>?_
 replace hm:=hm.ar [1] [6,6,2,6,6,6,6]
 refine hL80 _ _ _ (by subst hmu;omega) ⟨(k+1),(false),(M105),((qX l1b x88.name (⟨x65.name,x88⟩:Maker))),rfl,⟨he.pk,hm⟩,?_⟩
 refine ⟨?_,r106⟩
 rw [hI81,zA hx89];simp [xP, *]
 refine go fun a he =>?_
 replace hm:=hm.dl [0]
 refine hL80 _ _ _ (by subst hmu;omega) ⟨(k+1),(false),(m1b),(l1b),rfl,⟨he.pk,hm⟩,?_⟩
 refine ⟨?_,r1b⟩
 rw [hI81,zA hx89];simp [xP, *]
 refine go fun a he =>?_
 replace hm:=hm.dl [0]
 refine hL57 _ _ _ (by subst hmu;omega) ⟨(i+1),(o2),(m0),(l0),(m1b),(l1b),rfl,⟨he.pk,hm⟩,?_⟩
 refine ⟨?_,r0,r1b⟩
 rw [zE h83] at hI81
 rw [hI58,zA hx66,cG]
 simp only [xP] at hI81
 have ht1_:aF false l0 x65=false:=by simp [aF,qC, *]
 have ht2_:pO false l0 x65=l0:=by simp [pO,qC, *]
 rw [ht1_,ht2_,hI81]
 refine yK call158 (fun hB108 w hm a he =>?_) (fun hB108 w hm a he =>?_) (c:=wY G hm)
 refine go fun a he =>?_
 by_cases h109:x65.name=(⟨#[73,110,116]⟩:ByteArray)
 refine go fun a he =>?_
 refine yF (he.ks [1,4,7,25,26,27,59,60]) hm (fun R mm a w=>∃(k:Nat) (o2:Bool) (m1b:List (Bs×Value)) (l1b:List (Bs×Maker)),mm=x65.cons.length - k∧R Ψ49 [(5,.bool o2),(61,.int .i64 ((k:Nat):Int))] [(4,.mp b25 m1b)] a w∧(xP x65.name false l1 x65.cons=xP x65.name o2 l1b (x65.cons.drop k)∧MapRel (RVa RMaker Ψ49) m1b l1b)) (x65.cons.length - 0) ⟨0,false,m1,l1,rfl,⟨he.pk,hm⟩,⟨rfl,r1⟩⟩ ?_
 clear hm he
 rintro mm a w ⟨k,o2,m1b,l1b,hmu,⟨he,hm⟩,hI112⟩ L111 hL111
 replace hm:=hm.nf
 obtain ⟨hI112,r1b⟩:=hI112
 by_cases h114:k < x65.cons.length
 refine go fun a he =>?_
 obtain ⟨q118,rfl,x119,hx120,cs121,hl122,ha123,hr124⟩:=h72.el hn76 h114
 obtain ⟨s125,rfl,h126⟩:=id hr124
 obtain ⟨p127,c128,rfl,hm129,hn130⟩:=h126.fm
 refine Alc fun b131 w hm a he =>?_
 refine Sto 0 fun w hm a he =>?_
 refine Reg [1,1,1,2,0,1,1,1,1,1,2,1,2,1,2,2,1,0,1,1] [0,1,2,3,4,6,7] fun w hm a he =>?_
 refine go fun a he =>?_
 cases o2
 refine go fun a he =>?_
 replace hm:=hm.dl [0]
 refine hL111 _ _ _ (by subst hmu;omega) ⟨(k+1),(false),(m1b),(l1b),rfl,⟨he.pk,hm⟩,?_⟩
 refine ⟨?_,r1b⟩
 rw [hI112,zA hx120];simp [xP, *]
 refine yK call158 (fun hB132 w hm a he =>?_) (fun hB132 w hm a he =>?_) (c:=wY G hm)
 refine kK fun a he =>?_
 replace hm:=hm.pl 5
 refine yK call160 (fun hB133 w hm a he =>?_) (fun hB133 w hm a he =>?_) (c:=wI (m:=m1b) (l:=l1b) (x:=(⟨x65.name,x119⟩:Maker)) r1b (show RMaker Ψ49 _ (⟨x65.name,x119⟩:Maker) from ⟨_,rfl,hr124⟩) hm)
 replace hm:=hm.nf
 obtain ⟨M134,hM_⟩:∃M_,M_=(vA m1b x119.name (.agg (List.toArray [.string x65.name,.string x119.name,.slice p127 x119.fields.length c128]))):=⟨_,rfl⟩
 have r135:MapRel (RVa RMaker Ψ49) M134 (qX l1b x119.name (⟨x65.name,x119⟩:Maker)):=by rw [hM_];exact (MapRel.once r1b ⟨_,rfl,(show RMaker Ψ49 _ (⟨x65.name,x119⟩:Maker) from ⟨_,rfl,hr124⟩)⟩)
 rw [← hM_] at hm
 clear hM_
 refine go fun a he =>?_
 replace hm:=hm.ar [1] [6,6,2,6,6,6,6]
 refine hL111 _ _ _ (by subst hmu;omega) ⟨(k+1),(true),(M134),((qX l1b x119.name (⟨x65.name,x119⟩:Maker))),rfl,⟨he.pk,hm⟩,?_⟩
 refine ⟨?_,r135⟩
 rw [hI112,zA hx120];simp [xP, *]
 replace hm:=hm.nf
 obtain ⟨M136,hM_⟩:∃M_,M_=(vA m1b x119.name (.agg (List.toArray [.string x65.name,.string x119.name,.slice p127 x119.fields.length c128]))):=⟨_,rfl⟩
 have r137:MapRel (RVa RMaker Ψ49) M136 (qX l1b x119.name (⟨x65.name,x119⟩:Maker)):=by rw [hM_];exact (MapRel.once r1b ⟨_,rfl,(show RMaker Ψ49 _ (⟨x65.name,x119⟩:Maker) from ⟨_,rfl,hr124⟩)⟩)
 rw [← hM_] at hm
 clear hM_
 refine go fun a he =>?_
 replace hm:=hm.ar [1] [6,6,2,6,6,6,6]
 refine hL111 _ _ _ (by subst hmu;omega) ⟨(k+1),(false),(M136),((qX l1b x119.name (⟨x65.name,x119⟩:Maker))),rfl,⟨he.pk,hm⟩,?_⟩
 refine ⟨?_,r137⟩
 rw [hI112,zA hx120];simp [xP, *]
 refine go fun a he =>?_
 replace hm:=hm.dl [0]
 refine hL111 _ _ _ (by subst hmu;omega) ⟨(k+1),(false),(m1b),(l1b),rfl,⟨he.pk,hm⟩,?_⟩
 refine ⟨?_,r1b⟩
 rw [hI112,zA hx120];simp [xP, *]
 refine go fun a he =>?_
 replace hm:=hm.dl [0]
 refine hL57 _ _ _ (by subst hmu;omega) ⟨(i+1),(o2),(m0),(l0),(m1b),(l1b),rfl,⟨he.pk,hm⟩,?_⟩
 refine ⟨?_,r0,r1b⟩
 rw [zE h114] at hI112
 rw [hI58,zA hx66,cG]
 simp only [xP] at hI112
 have ht1_:aF true l0 x65=false:=by simp [aF,qC, *]
 have ht2_:pO true l0 x65=l0:=by simp [pO,qC, *]
 rw [ht1_,ht2_,hI112]
 replace hm:=hm.pl 5
 refine yK call159 (fun hB139 w hm a he =>?_) (fun hB139 w hm a he =>?_) (c:=y8i (m:=m0) (l:=l0) (x:=x65) r0 hr70 hm)
 replace hm:=hm.nf
 obtain ⟨M140,hM_⟩:∃M_,M_=(vA m0 x65.name (.agg (List.toArray [.string x65.name,.slice p73 x65.cons.length c74]))):=⟨_,rfl⟩
 have r141:MapRel (RVa RData Ψ49) M140 (qX l0 x65.name x65):=by rw [hM_];exact (MapRel.once r0 ⟨_,rfl,hr70⟩)
 rw [← hM_] at hm
 clear hM_
 by_cases h142:0 < x65.cons.length
 refine go fun a he =>?_
 refine yF (he.ks [1,4,7,25,26,27,59,60]) hm (fun R mm a w=>∃(k:Nat) (o2:Bool) (m1b:List (Bs×Value)) (l1b:List (Bs×Maker)),mm=x65.cons.length - k∧R Ψ49 [(5,.bool o2),(61,.int .i64 ((k:Nat):Int))] [(5,.mp b25 m1b)] a w∧(xP x65.name true l1 x65.cons=xP x65.name o2 l1b (x65.cons.drop k)∧MapRel (RVa RMaker Ψ49) m1b l1b)) (x65.cons.length - 0) ⟨0,true,m1,l1,rfl,⟨he.pk,hm⟩,⟨rfl,r1⟩⟩ ?_
 clear hm he
 rintro mm a w ⟨k,o2,m1b,l1b,hmu,⟨he,hm⟩,hI145⟩ L144 hL144
 replace hm:=hm.nf
 obtain ⟨hI145,r1b⟩:=hI145
 by_cases h147:k < x65.cons.length
 refine go fun a he =>?_
 obtain ⟨q151,rfl,x152,hx153,cs154,hl155,ha156,hr157⟩:=h72.el hn76 h147
 obtain ⟨s158,rfl,h159⟩:=id hr157
 obtain ⟨p160,c161,rfl,hm162,hn163⟩:=h159.fm
 refine Alc fun b164 w hm a he =>?_
 refine Sto 0 fun w hm a he =>?_
 refine Reg [1,1,1,2,0,1,1,1,1,1,2,1,2,1,2,2,1,0,1,1] [0,1,2,3,4,5,7] fun w hm a he =>?_
 refine go fun a he =>?_
 cases o2
 refine go fun a he =>?_
 replace hm:=hm.dl [0]
 refine hL144 _ _ _ (by subst hmu;omega) ⟨(k+1),(false),(m1b),(l1b),rfl,⟨he.pk,hm⟩,?_⟩
 refine ⟨?_,r1b⟩
 rw [hI145,zA hx153];simp [xP, *]
 refine yK call158 (fun hB165 w hm a he =>?_) (fun hB165 w hm a he =>?_) (c:=wY G hm)
 refine kK fun a he =>?_
 replace hm:=hm.pl 6
 refine yK call160 (fun hB166 w hm a he =>?_) (fun hB166 w hm a he =>?_) (c:=wI (m:=m1b) (l:=l1b) (x:=(⟨x65.name,x152⟩:Maker)) r1b (show RMaker Ψ49 _ (⟨x65.name,x152⟩:Maker) from ⟨_,rfl,hr157⟩) hm)
 replace hm:=hm.nf
 obtain ⟨M167,hM_⟩:∃M_,M_=(vA m1b x152.name (.agg (List.toArray [.string x65.name,.string x152.name,.slice p160 x152.fields.length c161]))):=⟨_,rfl⟩
 have r168:MapRel (RVa RMaker Ψ49) M167 (qX l1b x152.name (⟨x65.name,x152⟩:Maker)):=by rw [hM_];exact (MapRel.once r1b ⟨_,rfl,(show RMaker Ψ49 _ (⟨x65.name,x152⟩:Maker) from ⟨_,rfl,hr157⟩)⟩)
 rw [← hM_] at hm
 clear hM_
 refine go fun a he =>?_
 replace hm:=hm.ar [1] [6,1,6,6,6,6,6]
 refine hL144 _ _ _ (by subst hmu;omega) ⟨(k+1),(true),(M167),((qX l1b x152.name (⟨x65.name,x152⟩:Maker))),rfl,⟨he.pk,hm⟩,?_⟩
 refine ⟨?_,r168⟩
 rw [hI145,zA hx153];simp [xP, *]
 replace hm:=hm.nf
 obtain ⟨M169,hM_⟩:∃M_,M_=(vA m1b x152.name (.agg (List.toArray [.string x65.name,.string x152.name,.slice p160 x152.fields.length c161]))):=⟨_,rfl⟩
 have r170:MapRel (RVa RMaker Ψ49) M169 (qX l1b x152.name (⟨x65.name,x152⟩:Maker)):=by rw [hM_];exact (MapRel.once r1b ⟨_,rfl,(show RMaker Ψ49 _ (⟨x65.name,x152⟩:Maker) from ⟨_,rfl,hr157⟩)⟩)
 rw [← hM_] at hm
 clear hM_
 refine go fun a he =>?_
 replace hm:=hm.ar [1] [6,1,6,6,6,6,6]
 refine hL144 _ _ _ (by subst hmu;omega) ⟨(k+1),(false),(M169),((qX l1b x152.name (⟨x65.name,x152⟩:Maker))),rfl,⟨he.pk,hm⟩,?_⟩
 refine ⟨?_,r170⟩
 rw [hI145,zA hx153];simp [xP, *]
 refine go fun a he =>?_
 replace hm:=hm.dl [0]
 refine hL144 _ _ _ (by subst hmu;omega) ⟨(k+1),(false),(m1b),(l1b),rfl,⟨he.pk,hm⟩,?_⟩
 refine ⟨?_,r1b⟩
 rw [hI145,zA hx153];simp [xP, *]
 refine go fun a he =>?_
 replace hm:=hm.ar [1] [5,1,5,5,5,5]
 refine hL57 _ _ _ (by subst hmu;omega) ⟨(i+1),(o2),(M140),((qX l0 x65.name x65)),(m1b),(l1b),rfl,⟨he.pk,hm⟩,?_⟩
 refine ⟨?_,r141,r1b⟩
 rw [zE h147] at hI145
 rw [hI58,zA hx66,cG]
 simp only [xP] at hI145
 have ht1_:aF true l0 x65=true:=by simp [aF,qC, *]
 have ht2_:pO true l0 x65=(qX l0 x65.name x65):=by simp [pO,qC, *]
 rw [ht1_,ht2_,hI145]
 refine go fun a he =>?_
 refine yF (he.ks [1,4,7,25,26,27,59,60]) hm (fun R mm a w=>∃(k:Nat) (o2:Bool) (m1b:List (Bs×Value)) (l1b:List (Bs×Maker)),mm=x65.cons.length - k∧R Ψ49 [(5,.bool o2),(61,.int .i64 ((k:Nat):Int))] [(5,.mp b25 m1b)] a w∧(xP x65.name false l1 x65.cons=xP x65.name o2 l1b (x65.cons.drop k)∧MapRel (RVa RMaker Ψ49) m1b l1b)) (x65.cons.length - 0) ⟨0,false,m1,l1,rfl,⟨he.pk,hm⟩,⟨rfl,r1⟩⟩ ?_
 clear hm he
 rintro mm a w ⟨k,o2,m1b,l1b,hmu,⟨he,hm⟩,hI174⟩ L173 hL173
 replace hm:=hm.nf
 obtain ⟨hI174,r1b⟩:=hI174
 by_cases h176:k < x65.cons.length
 refine go fun a he =>?_
 obtain ⟨q180,rfl,x181,hx182,cs183,hl184,ha185,hr186⟩:=h72.el hn76 h176
 obtain ⟨s187,rfl,h188⟩:=id hr186
 obtain ⟨p189,c190,rfl,hm191,hn192⟩:=h188.fm
 refine Alc fun b193 w hm a he =>?_
 refine Sto 0 fun w hm a he =>?_
 refine Reg [1,1,1,2,0,1,1,1,1,1,2,1,2,1,2,2,1,0,1,1] [0,1,2,3,4,5,7] fun w hm a he =>?_
 refine go fun a he =>?_
 cases o2
 refine go fun a he =>?_
 replace hm:=hm.dl [0]
 refine hL173 _ _ _ (by subst hmu;omega) ⟨(k+1),(false),(m1b),(l1b),rfl,⟨he.pk,hm⟩,?_⟩
 refine ⟨?_,r1b⟩
 rw [hI174,zA hx182];simp [xP, *]
 refine yK call158 (fun hB194 w hm a he =>?_) (fun hB194 w hm a he =>?_) (c:=wY G hm)
 refine kK fun a he =>?_
 replace hm:=hm.pl 6
 refine yK call160 (fun hB195 w hm a he =>?_) (fun hB195 w hm a he =>?_) (c:=wI (m:=m1b) (l:=l1b) (x:=(⟨x65.name,x181⟩:Maker)) r1b (show RMaker Ψ49 _ (⟨x65.name,x181⟩:Maker) from ⟨_,rfl,hr186⟩) hm)
 replace hm:=hm.nf
 obtain ⟨M196,hM_⟩:∃M_,M_=(vA m1b x181.name (.agg (List.toArray [.string x65.name,.string x181.name,.slice p189 x181.fields.length c190]))):=⟨_,rfl⟩
 have r197:MapRel (RVa RMaker Ψ49) M196 (qX l1b x181.name (⟨x65.name,x181⟩:Maker)):=by rw [hM_];exact (MapRel.once r1b ⟨_,rfl,(show RMaker Ψ49 _ (⟨x65.name,x181⟩:Maker) from ⟨_,rfl,hr186⟩)⟩)
 rw [← hM_] at hm
 clear hM_
 refine go fun a he =>?_
 replace hm:=hm.ar [1] [6,1,6,6,6,6,6]
 refine hL173 _ _ _ (by subst hmu;omega) ⟨(k+1),(true),(M196),((qX l1b x181.name (⟨x65.name,x181⟩:Maker))),rfl,⟨he.pk,hm⟩,?_⟩
 refine ⟨?_,r197⟩
 rw [hI174,zA hx182];simp [xP, *]
 replace hm:=hm.nf
 obtain ⟨M198,hM_⟩:∃M_,M_=(vA m1b x181.name (.agg (List.toArray [.string x65.name,.string x181.name,.slice p189 x181.fields.length c190]))):=⟨_,rfl⟩
 have r199:MapRel (RVa RMaker Ψ49) M198 (qX l1b x181.name (⟨x65.name,x181⟩:Maker)):=by rw [hM_];exact (MapRel.once r1b ⟨_,rfl,(show RMaker Ψ49 _ (⟨x65.name,x181⟩:Maker) from ⟨_,rfl,hr186⟩)⟩)
 rw [← hM_] at hm
 clear hM_
 refine go fun a he =>?_
 replace hm:=hm.ar [1] [6,1,6,6,6,6,6]
 refine hL173 _ _ _ (by subst hmu;omega) ⟨(k+1),(false),(M198),((qX l1b x181.name (⟨x65.name,x181⟩:Maker))),rfl,⟨he.pk,hm⟩,?_⟩
 refine ⟨?_,r199⟩
 rw [hI174,zA hx182];simp [xP, *]
 refine go fun a he =>?_
 replace hm:=hm.dl [0]
 refine hL173 _ _ _ (by subst hmu;omega) ⟨(k+1),(false),(m1b),(l1b),rfl,⟨he.pk,hm⟩,?_⟩
 refine ⟨?_,r1b⟩
 rw [hI174,zA hx182];simp [xP, *]
 refine go fun a he =>?_
 replace hm:=hm.ar [1] [5,1,5,5,5,5]
 refine hL57 _ _ _ (by subst hmu;omega) ⟨(i+1),(o2),(M140),((qX l0 x65.name x65)),(m1b),(l1b),rfl,⟨he.pk,hm⟩,?_⟩
 refine ⟨?_,r141,r1b⟩
 rw [zE h176] at hI174
 rw [hI58,zA hx66,cG]
 simp only [xP] at hI174
 have ht1_:aF true l0 x65=false:=by simp [aF,qC, *]
 have ht2_:pO true l0 x65=(qX l0 x65.name x65):=by simp [pO,qC, *]
 rw [ht1_,ht2_,hI174]
 replace hm:=hm.nf
 obtain ⟨M201,hM_⟩:∃M_,M_=(vA m0 x65.name (.agg (List.toArray [.string x65.name,.slice p73 x65.cons.length c74]))):=⟨_,rfl⟩
 have r202:MapRel (RVa RData Ψ49) M201 (qX l0 x65.name x65):=by rw [hM_];exact (MapRel.once r0 ⟨_,rfl,hr70⟩)
 rw [← hM_] at hm
 clear hM_
 refine go fun a he =>?_
 refine yF (he.ks [1,4,7,25,26,27,59,60]) hm (fun R mm a w=>∃(k:Nat) (o2:Bool) (m1b:List (Bs×Value)) (l1b:List (Bs×Maker)),mm=x65.cons.length - k∧R Ψ49 [(5,.bool o2),(61,.int .i64 ((k:Nat):Int))] [(5,.mp b25 m1b)] a w∧(xP x65.name false l1 x65.cons=xP x65.name o2 l1b (x65.cons.drop k)∧MapRel (RVa RMaker Ψ49) m1b l1b)) (x65.cons.length - 0) ⟨0,false,m1,l1,rfl,⟨he.pk,hm⟩,⟨rfl,r1⟩⟩ ?_
 clear hm he
 rintro mm a w ⟨k,o2,m1b,l1b,hmu,⟨he,hm⟩,hI205⟩ L204 hL204
 replace hm:=hm.nf
 obtain ⟨hI205,r1b⟩:=hI205
 by_cases h207:k < x65.cons.length
 refine go fun a he =>?_
 obtain ⟨q211,rfl,x212,hx213,cs214,hl215,ha216,hr217⟩:=h72.el hn76 h207
 obtain ⟨s218,rfl,h219⟩:=id hr217
 obtain ⟨p220,c221,rfl,hm222,hn223⟩:=h219.fm
 refine Alc fun b224 w hm a he =>?_
 refine Sto 0 fun w hm a he =>?_
 refine Reg [1,1,1,2,0,1,1,1,1,1,2,1,2,1,2,2,1,0,1,1] [0,1,2,3,4,5,7] fun w hm a he =>?_
 refine go fun a he =>?_
 cases o2
 refine go fun a he =>?_
 replace hm:=hm.dl [0]
 refine hL204 _ _ _ (by subst hmu;omega) ⟨(k+1),(false),(m1b),(l1b),rfl,⟨he.pk,hm⟩,?_⟩
 refine ⟨?_,r1b⟩
 rw [hI205,zA hx213];simp [xP, *]
 refine yK call158 (fun hB225 w hm a he =>?_) (fun hB225 w hm a he =>?_) (c:=wY G hm)
 refine kK fun a he =>?_
 replace hm:=hm.pl 6
 refine yK call160 (fun hB226 w hm a he =>?_) (fun hB226 w hm a he =>?_) (c:=wI (m:=m1b) (l:=l1b) (x:=(⟨x65.name,x212⟩:Maker)) r1b (show RMaker Ψ49 _ (⟨x65.name,x212⟩:Maker) from ⟨_,rfl,hr217⟩) hm)
 replace hm:=hm.nf
 obtain ⟨M227,hM_⟩:∃M_,M_=(vA m1b x212.name (.agg (List.toArray [.string x65.name,.string x212.name,.slice p220 x212.fields.length c221]))):=⟨_,rfl⟩
 have r228:MapRel (RVa RMaker Ψ49) M227 (qX l1b x212.name (⟨x65.name,x212⟩:Maker)):=by rw [hM_];exact (MapRel.once r1b ⟨_,rfl,(show RMaker Ψ49 _ (⟨x65.name,x212⟩:Maker) from ⟨_,rfl,hr217⟩)⟩)
 rw [← hM_] at hm
 clear hM_
 refine go fun a he =>?_
 replace hm:=hm.ar [1] [6,1,6,6,6,6,6]
 refine hL204 _ _ _ (by subst hmu;omega) ⟨(k+1),(true),(M227),((qX l1b x212.name (⟨x65.name,x212⟩:Maker))),rfl,⟨he.pk,hm⟩,?_⟩
 refine ⟨?_,r228⟩
 rw [hI205,zA hx213];simp [xP, *]
 replace hm:=hm.nf
 obtain ⟨M229,hM_⟩:∃M_,M_=(vA m1b x212.name (.agg (List.toArray [.string x65.name,.string x212.name,.slice p220 x212.fields.length c221]))):=⟨_,rfl⟩
 have r230:MapRel (RVa RMaker Ψ49) M229 (qX l1b x212.name (⟨x65.name,x212⟩:Maker)):=by rw [hM_];exact (MapRel.once r1b ⟨_,rfl,(show RMaker Ψ49 _ (⟨x65.name,x212⟩:Maker) from ⟨_,rfl,hr217⟩)⟩)
 rw [← hM_] at hm
 clear hM_
 refine go fun a he =>?_
 replace hm:=hm.ar [1] [6,1,6,6,6,6,6]
 refine hL204 _ _ _ (by subst hmu;omega) ⟨(k+1),(false),(M229),((qX l1b x212.name (⟨x65.name,x212⟩:Maker))),rfl,⟨he.pk,hm⟩,?_⟩
 refine ⟨?_,r230⟩
 rw [hI205,zA hx213];simp [xP, *]
 refine go fun a he =>?_
 replace hm:=hm.dl [0]
 refine hL204 _ _ _ (by subst hmu;omega) ⟨(k+1),(false),(m1b),(l1b),rfl,⟨he.pk,hm⟩,?_⟩
 refine ⟨?_,r1b⟩
 rw [hI205,zA hx213];simp [xP, *]
 refine go fun a he =>?_
 replace hm:=hm.ar [1] [5,1,5,5,5,5]
 refine hL57 _ _ _ (by subst hmu;omega) ⟨(i+1),(o2),(M201),((qX l0 x65.name x65)),(m1b),(l1b),rfl,⟨he.pk,hm⟩,?_⟩
 refine ⟨?_,r202,r1b⟩
 rw [zE h207] at hI205
 rw [hI58,zA hx66,cG]
 simp only [xP] at hI205
 have ht1_:aF true l0 x65=false:=by simp [aF,qC, *]
 have ht2_:pO true l0 x65=(qX l0 x65.name x65):=by simp [pO,qC, *]
 rw [ht1_,ht2_,hI205]
 refine go fun a he =>?_
 refine yF (he.ks [1,4,7,25,26,27,59,60]) hm (fun R mm a w=>∃(k:Nat) (o2:Bool) (m1b:List (Bs×Value)) (l1b:List (Bs×Maker)),mm=x65.cons.length - k∧R Ψ49 [(5,.bool o2),(61,.int .i64 ((k:Nat):Int))] [(4,.mp b25 m1b)] a w∧(xP x65.name false l1 x65.cons=xP x65.name o2 l1b (x65.cons.drop k)∧MapRel (RVa RMaker Ψ49) m1b l1b)) (x65.cons.length - 0) ⟨0,false,m1,l1,rfl,⟨he.pk,hm⟩,⟨rfl,r1⟩⟩ ?_
 clear hm he
 rintro mm a w ⟨k,o2,m1b,l1b,hmu,⟨he,hm⟩,hI234⟩ L233 hL233
 replace hm:=hm.nf
 obtain ⟨hI234,r1b⟩:=hI234
 by_cases h236:k < x65.cons.length
 refine go fun a he =>?_
 obtain ⟨q240,rfl,x241,hx242,cs243,hl244,ha245,hr246⟩:=h72.el hn76 h236
 obtain ⟨s247,rfl,h248⟩:=id hr246
 obtain ⟨p249,c250,rfl,hm251,hn252⟩:=h248.fm
 refine Alc fun b253 w hm a he =>?_
 refine Sto 0 fun w hm a he =>?_
 refine Reg [1,1,1,2,0,1,1,1,1,1,2,1,2,1,2,2,1,0,1,1] [0,1,2,3,4,6,7] fun w hm a he =>?_
 refine go fun a he =>?_
 cases o2
 refine go fun a he =>?_
 replace hm:=hm.dl [0]
 refine hL233 _ _ _ (by subst hmu;omega) ⟨(k+1),(false),(m1b),(l1b),rfl,⟨he.pk,hm⟩,?_⟩
 refine ⟨?_,r1b⟩
 rw [hI234,zA hx242];simp [xP, *]
 refine yK call158 (fun hB254 w hm a he =>?_) (fun hB254 w hm a he =>?_) (c:=wY G hm)
 refine kK fun a he =>?_
 replace hm:=hm.pl 5
 refine yK call160 (fun hB255 w hm a he =>?_) (fun hB255 w hm a he =>?_) (c:=wI (m:=m1b) (l:=l1b) (x:=(⟨x65.name,x241⟩:Maker)) r1b (show RMaker Ψ49 _ (⟨x65.name,x241⟩:Maker) from ⟨_,rfl,hr246⟩) hm)
 replace hm:=hm.nf
 obtain ⟨M256,hM_⟩:∃M_,M_=(vA m1b x241.name (.agg (List.toArray [.string x65.name,.string x241.name,.slice p249 x241.fields.length c250]))):=⟨_,rfl⟩
 have r257:MapRel (RVa RMaker Ψ49) M256 (qX l1b x241.name (⟨x65.name,x241⟩:Maker)):=by rw [hM_];exact (MapRel.once r1b ⟨_,rfl,(show RMaker Ψ49 _ (⟨x65.name,x241⟩:Maker) from ⟨_,rfl,hr246⟩)⟩)
 rw [← hM_] at hm
 clear hM_
 refine go fun a he =>?_
 replace hm:=hm.ar [1] [6,6,2,6,6,6,6]
 refine hL233 _ _ _ (by subst hmu;omega) ⟨(k+1),(true),(M256),((qX l1b x241.name (⟨x65.name,x241⟩:Maker))),rfl,⟨he.pk,hm⟩,?_⟩
 refine ⟨?_,r257⟩
 rw [hI234,zA hx242];simp [xP, *]
 replace hm:=hm.nf
 obtain ⟨M258,hM_⟩:∃M_,M_=(vA m1b x241.name (.agg (List.toArray [.string x65.name,.string x241.name,.slice p249 x241.fields.length c250]))):=⟨_,rfl⟩
 have r259:MapRel (RVa RMaker Ψ49) M258 (qX l1b x241.name (⟨x65.name,x241⟩:Maker)):=by rw [hM_];exact (MapRel.once r1b ⟨_,rfl,(show RMaker Ψ49 _ (⟨x65.name,x241⟩:Maker) from ⟨_,rfl,hr246⟩)⟩)
 rw [← hM_] at hm
 clear hM_
 refine go fun a he =>?_
 replace hm:=hm.ar [1] [6,6,2,6,6,6,6]
 refine hL233 _ _ _ (by subst hmu;omega) ⟨(k+1),(false),(M258),((qX l1b x241.name (⟨x65.name,x241⟩:Maker))),rfl,⟨he.pk,hm⟩,?_⟩
 refine ⟨?_,r259⟩
 rw [hI234,zA hx242];simp [xP, *]
 refine go fun a he =>?_
 replace hm:=hm.dl [0]
 refine hL233 _ _ _ (by subst hmu;omega) ⟨(k+1),(false),(m1b),(l1b),rfl,⟨he.pk,hm⟩,?_⟩
 refine ⟨?_,r1b⟩
 rw [hI234,zA hx242];simp [xP, *]
 refine go fun a he =>?_
 replace hm:=hm.dl [0]
 refine hL57 _ _ _ (by subst hmu;omega) ⟨(i+1),(o2),(m0),(l0),(m1b),(l1b),rfl,⟨he.pk,hm⟩,?_⟩
 refine ⟨?_,r0,r1b⟩
 rw [zE h236] at hI234
 rw [hI58,zA hx66,cG]
 simp only [xP] at hI234
 have ht1_:aF true l0 x65=false:=by simp [aF,qC, *]
 have ht2_:pO true l0 x65=l0:=by simp [pO,qC, *]
 rw [ht1_,ht2_,hI234]
 refine go fun a he =>?_
 have hD_:=hI58
 rw [zE h60] at hD_
 simp only [z1g] at hD_
 refine go fun a he =>?_
 refine yF (he.ks [1,4,87,88]) hm (fun R mm a w=>∃(i:Nat) (oF:Bool) (m2:List (Bs×Value)) (l2:List (Bs×Fun)),mm=c.funs.length - i∧R Ψ49 [(5,.bool oF),(89,.int .i64 ((i:Nat):Int))] [(2,.mp b26 m2)] a w∧(tX o [] c.funs=tX oF l2 (c.funs.drop i)∧MapRel (RVa RFun Ψ49) m2 l2)) (c.funs.length - 0) ⟨0,o,[],[],rfl,⟨he.pk,hm⟩,⟨rfl,MapRel.nil⟩⟩ ?_
 clear hm he
 rintro mm a w ⟨i,oF,m2,l2,hmu,⟨he,hm⟩,hI265⟩ L264 hL264
 replace hm:=hm.nf
 obtain ⟨hI265,r2⟩:=hI265
 by_cases h267:i < c.funs.length
 refine go fun a he =>?_
 obtain ⟨q271,rfl,x272,hx273,cs274,hl275,ha276,hr277⟩:=h8.el hn20 h267
 obtain ⟨s278,b284,rfl,h279,h285⟩:=id hr277
 obtain ⟨p280,c281,rfl,hm282,hn283⟩:=h279.fm
 obtain ⟨p288,c289,p294,c295,rfl,hi298,h287,h293,hm290,hn291,hm296,hn297⟩:=REx.fm h285
 refine Alc fun b299 w hm a he =>?_
 refine Sto 0 fun w hm a he =>?_
 refine Reg [1,1,1,2,0,1,1,1,1,1,2,1,2,2,0,1,1] [0,1,2,4,5,6] fun w hm a he =>?_
 refine go fun a he =>?_
 cases oF
 refine go fun a he =>?_
 replace hm:=hm.dl [0]
 refine hL264 _ _ _ (by subst hmu;omega) ⟨(i+1),(false),(m2),(l2),rfl,⟨he.pk,hm⟩,?_⟩
 refine ⟨?_,r2⟩
 rw [hI265,zA hx273];simp [tX, *]
 refine yK call161 (fun hB300 w hm a he =>?_) (fun hB300 w hm a he =>?_) (c:=gT G hm)
 replace hm:=hm.pl 3
 refine yK call162 (fun hB301 w hm a he =>?_) (fun hB301 w hm a he =>?_) (c:=q2a (m:=m2) (l:=l2) (x:=x272) r2 hr277 hm)
 replace hm:=hm.nf
 obtain ⟨M302,hM_⟩:∃M_,M_=(vA m2 x272.name (.agg (List.toArray [.string x272.name,.slice p280 x272.params.length c281,.string x272.result,.int .i64 (x272.body.kind),.int .i64 (x272.body.num),.string x272.body.name,.slice p288 x272.body.args.length c289,.slice p294 x272.body.arms.length c295]))):=⟨_,rfl⟩
 have r303:MapRel (RVa RFun Ψ49) M302 (qX l2 x272.name x272):=by rw [hM_];exact (MapRel.once r2 ⟨_,rfl,hr277⟩)
 rw [← hM_] at hm
 clear hM_
 refine go fun a he =>?_
 replace hm:=hm.ar [1] [5,5,5,3,5,5]
 refine hL264 _ _ _ (by subst hmu;omega) ⟨(i+1),(true),(M302),((qX l2 x272.name x272)),rfl,⟨he.pk,hm⟩,?_⟩
 refine ⟨?_,r303⟩
 rw [hI265,zA hx273];simp [tX, *]
 replace hm:=hm.nf
 obtain ⟨M304,hM_⟩:∃M_,M_=(vA m2 x272.name (.agg (List.toArray [.string x272.name,.slice p280 x272.params.length c281,.string x272.result,.int .i64 (x272.body.kind),.int .i64 (x272.body.num),.string x272.body.name,.slice p288 x272.body.args.length c289,.slice p294 x272.body.arms.length c295]))):=⟨_,rfl⟩
 have r305:MapRel (RVa RFun Ψ49) M304 (qX l2 x272.name x272):=by rw [hM_];exact (MapRel.once r2 ⟨_,rfl,hr277⟩)
 rw [← hM_] at hm
 clear hM_
 refine go fun a he =>?_
 replace hm:=hm.ar [1] [5,5,5,3,5,5]
 refine hL264 _ _ _ (by subst hmu;omega) ⟨(i+1),(false),(M304),((qX l2 x272.name x272)),rfl,⟨he.pk,hm⟩,?_⟩
 refine ⟨?_,r305⟩
 rw [hI265,zA hx273];simp [tX, *]
 refine go fun a he =>?_
 replace hm:=hm.dl [0]
 refine hL264 _ _ _ (by subst hmu;omega) ⟨(i+1),(false),(m2),(l2),rfl,⟨he.pk,hm⟩,?_⟩
 refine ⟨?_,r2⟩
 rw [hI265,zA hx273];simp [tX, *]
 refine go fun a he =>?_
 have hF_:=hI265
 rw [zE h267] at hF_
 simp only [tX] at hF_
 refine go fun a he =>?_
 refine yF (he.ks [4,111,112]) hm (fun R mm a w=>∃(i:Nat) (oI:Bool) (m3:List (Bs×Value)) (l3:List (Bs×Bs)),mm=c.inputs.length - i∧R Ψ49 [(5,.bool oI),(113,.int .i64 ((i:Nat):Int))] [(1,.mp b27 m3)] a w∧(tY oF [] c.inputs=tY oI l3 (c.inputs.drop i)∧MapRel RVs m3 l3)) (c.inputs.length - 0) ⟨0,oF,[],[],rfl,⟨he.pk,hm⟩,⟨rfl,MapRel.nil⟩⟩ ?_
 clear hm he
 rintro mm a w ⟨i,oI,m3,l3,hmu,⟨he,hm⟩,hI310⟩ L309 hL309
 replace hm:=hm.nf
 obtain ⟨hI310,r3⟩:=hI310
 by_cases h312:i < c.inputs.length
 refine go fun a he =>?_
 obtain ⟨q316,rfl,x317,hx318,cs319,hl320,ha321,hr322⟩:=h7.el hn16 h312
 obtain rfl:=id hr322
 refine Alc fun b323 w hm a he =>?_
 refine Sto 0 fun w hm a he =>?_
 refine Reg [1,1,1,2,0,1,1,1,1,1,2,1,2,1,2,0,1,1] [0,1,3,4,5,6] fun w hm a he =>?_
 refine go fun a he =>?_
 cases oI
 refine go fun a he =>?_
 replace hm:=hm.dl [0]
 refine hL309 _ _ _ (by subst hmu;omega) ⟨(i+1),(false),(m3),(l3),rfl,⟨he.pk,hm⟩,?_⟩
 refine ⟨?_,r3⟩
 rw [hI310,zA hx318];simp [tY, *]
 refine yK call161 (fun hB324 w hm a he =>?_) (fun hB324 w hm a he =>?_) (c:=gT G hm)
 replace hm:=hm.pl 2
 refine yK call163 (fun hB325 w hm a he =>?_) (fun hB325 w hm a he =>?_) (c:=q5w (m:=m3) (l:=l3) (x:=x317.type) r3 hm)
 replace hm:=hm.nf
 obtain ⟨M326,hM_⟩:∃M_,M_=(vA m3 x317.name (.string x317.type)):=⟨_,rfl⟩
 have r327:MapRel RVs M326 (qX l3 x317.name x317.type):=by rw [hM_];exact (MapRel.once r3 rfl)
 rw [← hM_] at hm
 clear hM_
 refine go fun a he =>?_
 replace hm:=hm.ar [1] [5,5,5,5,4,5]
 refine hL309 _ _ _ (by subst hmu;omega) ⟨(i+1),(true),(M326),((qX l3 x317.name x317.type)),rfl,⟨he.pk,hm⟩,?_⟩
 refine ⟨?_,r327⟩
 rw [hI310,zA hx318];simp [tY, *]
 replace hm:=hm.nf
 obtain ⟨M328,hM_⟩:∃M_,M_=(vA m3 x317.name (.string x317.type)):=⟨_,rfl⟩
 have r329:MapRel RVs M328 (qX l3 x317.name x317.type):=by rw [hM_];exact (MapRel.once r3 rfl)
 rw [← hM_] at hm
 clear hM_
 refine go fun a he =>?_
 replace hm:=hm.ar [1] [5,5,5,5,4,5]
 refine hL309 _ _ _ (by subst hmu;omega) ⟨(i+1),(false),(M328),((qX l3 x317.name x317.type)),rfl,⟨he.pk,hm⟩,?_⟩
 refine ⟨?_,r329⟩
 rw [hI310,zA hx318];simp [tY, *]
 refine go fun a he =>?_
 replace hm:=hm.dl [0]
 refine hL309 _ _ _ (by subst hmu;omega) ⟨(i+1),(false),(m3),(l3),rfl,⟨he.pk,hm⟩,?_⟩
 refine ⟨?_,r3⟩
 rw [hI310,zA hx318];simp [tY, *]
 refine go fun a he =>?_
 have hm0_:=hm
 clear hm
 obtain ⟨Ψ332,le333,hm,hma334⟩:=hm0_.freezeMap (i:=4) rfl
 clear hm0_
 replace rpc:=rpc.mono le333
 replace G:=G.mono le333
 replace hr37:=RData.mono _ _ _ _ le333 hr37
 replace r0:=r0.up le333
 replace r1:=r1.up le333
 replace r2:=r2.up le333
 replace hm:=hm.nf
 have hm0_:=hm
 clear hm
 obtain ⟨Ψ335,le336,hm,hma337⟩:=hm0_.freezeMap (i:=3) rfl
 clear hm0_
 replace rpc:=rpc.mono le336
 replace G:=G.mono le336
 replace hr37:=RData.mono _ _ _ _ le336 hr37
 replace r0:=r0.up le336
 replace r1:=r1.up le336
 replace r2:=r2.up le336
 replace hma334:=hma334.mono le336
 replace hm:=hm.nf
 have hm0_:=hm
 clear hm
 obtain ⟨Ψ338,le339,hm,hma340⟩:=hm0_.freezeMap (i:=2) rfl
 clear hm0_
 replace rpc:=rpc.mono le339
 replace G:=G.mono le339
 replace hr37:=RData.mono _ _ _ _ le339 hr37
 replace r0:=r0.up le339
 replace r1:=r1.up le339
 replace r2:=r2.up le339
 replace hma334:=hma334.mono le339
 replace hma337:=hma337.mono le339
 replace hm:=hm.nf
 have hm0_:=hm
 clear hm
 obtain ⟨Ψ341,le342,hm,hma343⟩:=hm0_.freezeMap (i:=1) rfl
 clear hm0_
 replace rpc:=rpc.mono le342
 replace G:=G.mono le342
 replace hr37:=RData.mono _ _ _ _ le342 hr37
 replace r0:=r0.up le342
 replace r1:=r1.up le342
 replace r2:=r2.up le342
 replace hma334:=hma334.mono le342
 replace hma337:=hma337.mono le342
 replace hma340:=hma340.mono le342
 replace hm:=hm.nf
 have hm0_:=hm
 clear hm
 obtain ⟨Ψ344,le345,hm,hat346⟩:=hm0_.freezeBlk (i:=0) rfl
 clear hm0_
 replace rpc:=rpc.mono le345
 replace G:=G.mono le345
 replace hr37:=RData.mono _ _ _ _ le345 hr37
 replace r0:=r0.up le345
 replace r1:=r1.up le345
 replace r2:=r2.up le345
 replace hma334:=hma334.mono le345
 replace hma337:=hma337.mono le345
 replace hma340:=hma340.mono le345
 replace hma343:=hma343.mono le345
 replace hm:=hm.nf
 have hT:RTableX Ψ344 ⟨b28,0,none⟩ ⟨c,l0,l1,l2,l3⟩ _:=⟨⟨[.slice p9 c.datas.length c10,.slice p13 c.inputs.length c14,.slice p17 c.funs.length c18,.slice q4 c.outputs.length cc5],_,_,_,_,_,_,_,_,hat346,rfl,rpc,hma334,r0,hma337,r1,hma340,r2,hma343,r3⟩⟩
 refine wP ?_
 replace hm:=hm.dl [0]
 rw [zE h312] at hI310
 simp only [tY] at hI310
 obtain ⟨e1_,e2_⟩:=x1c hD_ hF_ hI310
 rw [e1_,e2_]
 exact ⟨(Ψ344,_),rfl,⟨((((((le36).trans le50).trans le333).trans le336).trans le339).trans le342).trans le345,hT⟩,hm⟩
end Go.Sw

namespace Go.Sw
open Go.Proofs.Tryz
open Go.Proofs
set_option maxRecDepth 20000
set_option maxHeartbeats 4000000
theorem j3k {Φ:Fz} {K:List Res} {w:World} {pt:Addr} {T:Table} {s:Bs} {b:Nat}  (rT:RTable Φ pt T) (hm:Mem Φ (.blk b (ob [.pointer (some pt)] 96)::K) w) :
  Calls prog 127 (List.toArray [.string s,.pointer (some ⟨b,0,none⟩)]) w (fun ee w'=>ee=.returned (.bool ((!wM T s)))∧Mem Φ (.blk b (ob [.pointer (some pt)] 96)::K) w'):=by
 refine zL func127 ntmps127 fun Q hQ a he =>?_
 refine zZ call128 (fun w hm a he =>?_) (c:=z4m rT hm)
 refine zI ?_
 exact zV hm (by simp [*])
theorem j3l {Φ:Fz} {K:List Res} {w:World} {pz:Option Addr} {cz:Nat} {ds:List Data} {x1 x2 x3:Value} {d0:List Value} {p:Param} {b:Nat} (rpp:RParam Φ d0 p) (rd:SliceOf RData Φ 2 (.slice pz ds.length cz) ds) (hm:Mem Φ (.blk b (ob [.slice pz ds.length cz,x1,x2,x3] 27)::K) w) :
  Calls prog 130 (List.toArray [.agg d0.toArray,.pointer (some ⟨b,0,none⟩)]) w (fun ee w'=>ee=.returned (.bool ((!kU ds p.type)))∧Mem Φ (.blk b (ob [.slice pz ds.length cz,x1,x2,x3] 27)::K) w'):=by
 obtain rfl:=id rpp
 refine zL func130 ntmps130 fun Q hQ a he =>?_
 refine Bx fun b2 w hm a he =>?_
 refine zZ call131 (fun w hm a he =>?_) (c:=y7x rd hm)
 refine zI ?_
 replace hm:=hm.dl [0]
 exact zV hm (by simp [*])
theorem j3m {Φ:Fz} {R K:List Res} {w:World} {d0:List Value} {c:Core} {v:Value} (rpc:RCoreX Φ d0 c v) (hfz:Thaw R Φ v c.outputs) (hlong:xL c=false) (G:Glob Φ) (hm:Mem Φ (R++K) w) :
  Calls prog 90 (List.toArray [.agg d0.toArray]) w (fun ee w'=>∃y:Fz×Addr,ee=.returned (.tuple (List.toArray [.pointer (some y.2),.bool (jH c)]))∧(Φ.Le y.1∧RTableX y.1 y.2 (zR c) v)∧Mem y.1 (R++K) w'):=by
 obtain ⟨s1,s2,s3,q4,cc5,rfl,rfl,h6,h7,h8⟩:=id rpc
 obtain ⟨p9,c10,rfl,hm11,hn12⟩:=h6.fm
 obtain ⟨p13,c14,rfl,hm15,hn16⟩:=h7.fm
 obtain ⟨p17,c18,rfl,hm19,hn20⟩:=h8.fm
 refine zL func90 ntmps90 fun Q hQ a he =>?_
 refine Bx fun b22 w hm a he =>?_
 refine jF call126 (fun y24 w hG25 hm a he =>?_) (c:=q7j rpc hlong G hm)
 obtain ⟨Ψ26,p27⟩:=y24
 obtain ⟨le28,hX29⟩:=hG25
 simp only at le28 hX29 hm he
 replace h6:=h6.up le28
 replace h7:=h7.up le28
 replace h8:=h8.up le28
 replace G:=G.mono le28
 replace hm:=hm.nf
 obtain ⟨Ψ31,le32,hm2_,hsl33,hbk34⟩:=hfz Ψ26 _ _ le28 (hm.perm List.perm_middle.symm)
 have hm:=hm2_
 clear hm2_
 replace h6:=h6.up le32
 replace h7:=h7.up le32
 replace h8:=h8.up le32
 replace G:=G.mono le32
 replace hm:=hm.nf
 obtain ⟨hmx35,hn36⟩:=hsl33.formO (by decide)
 have hT30:RTable Ψ31 p27 (zR c):=(hX29.mono le32).full hsl33
 obtain ⟨cs53,m37,m38,m39,m40,d41,d42,d43,d44,hat54,hcl55,hcore56,ma45,mr49,ma46,mr50,ma47,mr51,ma48,mr52⟩:=hT30.ex
 obtain ⟨p59,c60,p65,c66,p71,c72,p77,c78,rfl,h58,h64,h70,h76,hm61,hn62,hm67,hn68,hm73,hn74,hm79,hn80⟩:=RCore.fm hcore56
 refine Alc fun b81 w hm a he =>?_
 refine Sto 0 fun w hm a he =>?_
 refine go fun a he =>?_
 generalize hb85:(!(nY c))=bb84 at he
 cases bb84
 by_cases h86:c.outputs.length=0
 refine wP ?_
 replace hm:=hm.dl [1,0]
 have hr_:jH c=false:=by
  have e_:c.outputs=[]:=List.eq_nil_of_length_eq_zero h86
  simp [jH,e_]
 rw [hr_]
 exact ⟨(Ψ26,_),rfl,⟨le28,hX29⟩,hbk34 _ _ (hm.le (Fz.Le.refl _))⟩
 have hTb_:nY c=true:=by simpa using hb85
 have hO_:c.outputs≠[]:=by intro e_;simp [e_] at h86
 refine go fun a he =>?_
 refine yF (he.ks [1,4,36,37]) hm (fun R mm a w=>∃(i:Nat),mm=c.datas.length - i∧R Ψ31 [(38,.int .i64 ((i:Nat):Int))] [] a w∧(c.datas.all (cP (zR c))=(c.datas.drop i).all (cP (zR c)))) (c.datas.length - 0) ⟨0,rfl,⟨he.pk,hm⟩,rfl⟩ ?_
 clear hm he
 rintro mm a w ⟨i,hmu,⟨he,hm⟩,hI91⟩ L90 hL90
 by_cases h93:i < c.datas.length
 refine go fun a he =>?_
 obtain ⟨q97,rfl,x98,hx99,cs100,hl101,ha102,hr103⟩:=h6.el hn12 h93
 obtain ⟨s104,rfl,h105⟩:=id hr103
 obtain ⟨p106,c107,rfl,hm108,hn109⟩:=h105.fm
 refine Alc fun b110 w hm a he =>?_
 refine Sto 0 fun w hm a he =>?_
 refine go fun a he =>?_
 refine yF (he.ks [1,4,36,37,38,43,44]) hm (fun R mm a w=>∃(k:Nat),mm=x98.cons.length - k∧R Ψ31 [(45,.int .i64 ((k:Nat):Int))] [] a w∧(cP (zR c) x98=(x98.cons.drop k).all (fun x=>x.fields.all fun s=>wM (zR c) s))) (x98.cons.length - 0) ⟨0,rfl,⟨he.pk,hm⟩,rfl⟩ ?_
 clear hm he
 rintro mm a w ⟨k,hmu,⟨he,hm⟩,hI113⟩ L112 hL112
 by_cases h115:k < x98.cons.length
 refine go fun a he =>?_
 obtain ⟨q119,rfl,x120,hx121,cs122,hl123,ha124,hr125⟩:=h105.el hn109 h115
 obtain ⟨s126,rfl,h127⟩:=id hr125
 obtain ⟨p128,c129,rfl,hm130,hn131⟩:=h127.fm
 refine Alc fun b132 w hm a he =>?_
 refine Sto 0 fun w hm a he =>?_
 replace hm:=hm.pl 2
 refine yK call69 (fun hB134 w hm a he =>?_) (fun hB134 w hm a he =>?_) (c:=z0g (Φ:=Ψ31) (K:=.blk b81 (ob [.pointer (some p27)] 96)::.blk b132 (ob [.string x120.name,.slice p128 x120.fields.length c129] 128)::.blk b110 (ob [.string x98.name,.slice (some q119) x98.cons.length c107] 126)::.blk b22 (ob [.slice (some q97) c.datas.length c10,.slice p13 c.inputs.length c14,.slice p17 c.funs.length c18,.slice q4 c.outputs.length cc5] 27)::K) (p:=fun s => !wM (zR c) s) (fs:=[]) (cs:=[.pointer (some ⟨b81,0,none⟩)]) h127 call127 (fun x c w hx hc hm=>j3k hT30 hm) hm)
 refine wP ?_
 replace hm:=hm.dl [3,2,1,0]
 have hr_:jH c=false:=by
  have e1_:c.datas.all (cP (zR c))=false:=by
   rw [hI91,wR hx99,hI113,wR hx121]
   simp only [z5o hB134,Bool.false_and]
  simp [jH,e1_]
 rw [hr_]
 exact ⟨(Ψ26,_),rfl,⟨le28,hX29⟩,hbk34 _ _ (hm.le (Fz.Le.refl _))⟩
 refine go fun a he =>?_
 replace hm:=hm.ar [1] [2,1,2]
 refine hL112 _ _ _ (by subst hmu;omega) ⟨(k+1),rfl,⟨he.pk,hm⟩,?_⟩
 rw [hI113,wR hx121];simp only [z5n hB134,Bool.true_and]
 refine go fun a he =>?_
 replace hm:=hm.dl [0]
 refine hL90 _ _ _ (by subst hmu;omega) ⟨(i+1),rfl,⟨he.pk,hm⟩,?_⟩
 rw [hI91,wR hx99];have hF_:=hI113;rw [y6y h115] at hF_;rw [hF_];rfl
 refine go fun a he =>?_
 have hD_:c.datas.all (cP (zR c))=true:=by rw [hI91,y6y h93]
 replace hm:=hm.pl 1
 refine yK call129 (fun hB140 w hm a he =>?_) (fun hB140 w hm a he =>?_) (c:=y3d (Φ:=Ψ31) (K:=.blk b22 (ob [.slice p9 c.datas.length c10,.slice p13 c.inputs.length c14,.slice p17 c.funs.length c18,.slice q4 c.outputs.length cc5] 27)::.blk b81 (ob [.pointer (some p27)] 96)::K) (p:=fun p => !kU c.datas p.type) (fs:=[]) (cs:=[.pointer (some ⟨b22,0,none⟩)]) h7 call130 (fun x c w hx hc hm=>j3l hc h6 hm) hm)
 refine wP ?_
 replace hm:=hm.dl [1,0]
 have hr_:jH c=false:=by
  have e1_:=z5o hB140
  simp [jH,e1_]
 rw [hr_]
 exact ⟨(Ψ26,_),rfl,⟨le28,hX29⟩,hbk34 _ _ (hm.le (Fz.Le.refl _))⟩
 have hIn_:c.inputs.all (fun p=>kU c.datas p.type)=true:=z5n hB140
 refine go fun a he =>?_
 refine yF (he.ks [1,4,62,63]) hm (fun R mm a w=>∃(i:Nat),mm=c.funs.length - i∧R Ψ31 [(64,.int .i64 ((i:Nat):Int))] [] a w∧(c.funs.all (pK (zR c))=(c.funs.drop i).all (pK (zR c)))) (c.funs.length - 0) ⟨0,rfl,⟨he.pk,hm⟩,rfl⟩ ?_
 clear hm he
 rintro mm a w ⟨i,hmu,⟨he,hm⟩,hI145⟩ L144 hL144
 by_cases h147:i < c.funs.length
 refine go fun a he =>?_
 obtain ⟨q151,rfl,x152,hx153,cs154,hl155,ha156,hr157⟩:=h8.el hn20 h147
 obtain ⟨s158,b164,rfl,h159,h165⟩:=id hr157
 obtain ⟨p160,c161,rfl,hm162,hn163⟩:=h159.fm
 obtain ⟨p168,c169,p174,c175,rfl,hi178,h167,h173,hm170,hn171,hm176,hn177⟩:=REx.fm h165
 refine Alc fun b179 w hm a he =>?_
 refine Sto 0 fun w hm a he =>?_
 refine go fun a he =>?_
 replace hm:=hm.nilRow 9 1
 replace hm:=hm.nf
 refine MkM fun b182 w hm a he =>?_
 refine go fun a he =>?_
 replace hm:=hm.nf
 refine go fun a he =>?_
 refine yF (he.ks [1,4,11,13,62,63,64,70,71]) hm (fun R mm a w=>∃(k:Nat) (u:Value) (nl:List Bs) (sc:Scope),mm=x152.params.length - k∧R Ψ31 [(12,u),(72,.int .i64 ((k:Nat):Int))] [(0,.mp b182 (yM sc)),(1,.gs (u) 9 1 (strs nl))] a w∧(x152.params.all (fun p=>wM (zR c) p.type)=(x152.params.drop k).all (fun p=>wM (zR c) p.type)∧x152.params.map Param.name=nl++(x152.params.drop k).map Param.name∧gI x152.params=(x152.params.drop k).foldl (fun s p=>qM s p.name p.type) sc)) (x152.params.length - 0) ⟨0,.slice none 0 0,[],[],rfl,⟨he.pk,hm⟩,⟨rfl,rfl,rfl⟩⟩ ?_
 clear hm he
 rintro mm a w ⟨k,u,nl,sc,hmu,⟨he,hm⟩,hI186⟩ L185 hL185
 replace hm:=hm.nf
 by_cases h188:k < x152.params.length
 refine go fun a he =>?_
 obtain ⟨q192,rfl,x193,hx194,cs195,hl196,ha197,hr198⟩:=h159.el hn163 h188
 obtain rfl:=id hr198
 refine Alc fun b199 w hm a he =>?_
 refine Sto 0 fun w hm a he =>?_
 refine yK call128 (fun hB202 w hm a he =>?_) (fun hB202 w hm a he =>?_) (c:=z4m hT30 hm)
 refine qW fun v204 w hm a he =>?_
 refine qL 3 pS (fun v205 w hm a he =>?_) (hb:=by have hq_:=congrArg List.length (hI186).2.1;have h_:=(tM hlong (List.mem_of_getElem? hx153)).1;simp only [List.length_map,List.length_append,yH,List.length_cons,List.length_nil] at hq_ ⊢;omega)
 first | rw [qY] at hm | rw [← qU] at hm
 refine uX 2 runUnderlying195 runUnderlying9 fun w hm a he =>?_
 rw [aD] at hm
 refine go fun a he =>?_
 replace hm:=hm.dl [1,0]
 refine hL185 _ _ _ (by subst hmu;omega) ⟨(k+1),(v205),(nl++[x193.name]),((qM sc x193.name x193.type)),rfl,⟨he.pk,hm⟩,?_⟩
 obtain ⟨hA_,hN_,hS_⟩:=hI186
 refine ⟨?_,?_,?_⟩
 rw [hA_,wR hx194,hB202];rfl
 rw [hN_,zA hx194];simp
 rw [hS_,zA hx194];rfl
 refine wP ?_
 replace hm:=hm.dl [5,4,3,2,1,0]
 have hr_:jH c=false:=by
  obtain ⟨hA_,_,_⟩:=hI186
  have e_:pK (zR c) x152=false:=by
   have e2_:x152.params.all (fun p=>wM (zR c) p.type)=false:=by rw [hA_,wR hx194];simp only [hB202,Bool.false_and]
   simp only [pK,e2_,Bool.false_and]
  have e1_:c.funs.all (pK (zR c))=false:=by rw [hI145,wR hx153,e_];rfl
  simp [jH,e1_]
 rw [hr_]
 exact ⟨(Ψ26,_),rfl,⟨le28,hX29⟩,hbk34 _ _ (hm.le (Fz.Le.refl _))⟩
 refine go fun a he =>?_
 refine qB [2,1,2,0,1,1,1,2,1,0,0,1,1,1,2,1,2,1,0,1,2,1,1] (.q 0 (.q 1 (.q 2 (.e 3 (.q 4 (.q 5 (.q 6 (.q 7 (.q 8 (.e 9 (.e 10 (.q 11 (.q 12 (.q 13 (.q 14 (.q 15 (.q 16 (.q 17 (.q 19 (.q 20 (.e 18 (.q 21 (.q 22 (.done)))))))))))))))))))))))) [2,3,4] he hm fun w hm =>?_
 obtain ⟨hA_,hN_,hS_⟩:=hI186
 rw [zE h188] at hA_ hN_ hS_
 simp only [List.map_nil,List.append_nil,List.foldl_nil,List.all_nil] at hA_ hN_ hS_
 replace hm:Mem Ψ31 (.mp b182 (yM (gI x152.params))::.gs (u) 9 1 (strs (x152.params.map Param.name))::.blk b179 (ob [.string x152.name,.slice p160 x152.params.length c161,.string x152.result,.int .i64 (x152.body.kind),.int .i64 (x152.body.num),.string x152.body.name,.slice p168 x152.body.args.length c169,.slice p174 x152.body.arms.length c175] 112)::.blk b22 (ob [.slice p9 c.datas.length c10,.slice p13 c.inputs.length c14,.slice (some q151) c.funs.length c18,.slice q4 c.outputs.length cc5] 27)::.blk b81 (ob [.pointer (some p27)] 96)::K) w:=by rw [hN_,hS_];exact hm
 have hmk_:=hm
 clear hm
 subst hN_
 subst hS_
 have hm:=hmk_
 clear hmk_
 refine yK call128 (fun hB209 w hm a he =>?_) (fun hB209 w hm a he =>?_) (c:=z4m hT30 hm)
 refine go fun a he =>?_
 replace hm:=hm.pl 1
 refine d_eg he rfl rfl rfl rfl rfl (gO he rfl call133 (q3y (l:=(x152.params.map Param.name)) (by have h_:=tM hlong (List.mem_of_getElem? hx153);simp only [List.length_map];omega) h165 hm) fun v210 w hm=>⟨fun _=>hm.sn (Fz.Le.refl _),fun a he =>?_⟩)
 replace hm:=hm.nf
 have hm0_:=hm
 clear hm
 obtain ⟨Ψ211,le212,hm,hrow213⟩:=hm0_.freezeRow (i:=0) rfl
 clear hm0_
 replace G:=G.mono le212
 replace hsl33:=hsl33.up le212
 replace hT30:=hT30.mono le212
 replace hat54:=hat54.mono le212
 replace ma47:=ma47.mono le212
 replace mr51:=mr51.up le212
 replace ha156:=ha156.mono le212
 replace hr157:=RFun.mono _ _ _ _ le212 hr157
 replace h165:=REx.mono _ _ _ _ le212 h165
 replace hm:=hm.nf
 have hsl214:SliceOf RStr Ψ211 1 _ (((x152.params.map Param.name)++zS x152.body)):=SliceOf.strs.2 hrow213
 obtain ⟨p215,c216,hv_,hm217,hn218⟩:=hsl214.form (by decide)
 have hmk_:=hm
 clear hm
 subst hv_
 have hm:=hmk_
 clear hmk_
 refine yK call132 (fun hB219 w hm a he =>?_) (fun hB219 w hm a he =>?_) (c:=j4k hsl214 G hm)
 refine zZ call134 (fun w hm a he =>?_) (c:=x1j (z3h hlong hTb_) hT30 h165 hm)
 by_cases h220:(zG (zR c) x152.body (gI x152.params)).1=x152.result
 refine go fun a he =>?_
 replace hm:=hm.le (le212)
 replace hm:=hm.dl [1,0]
 refine hL144 _ _ _ (by subst hmu;omega) ⟨(i+1),rfl,⟨he.pk,hm⟩,?_⟩
 rw [hI145,wR hx153];simp [pK, *]
 refine wP ?_
 replace hm:=hm.dl [3,2,1,0]
 have hr_:jH c=false:=by
  have e_:pK (zR c) x152=false:=by simp [pK, *]
  have e1_:c.funs.all (pK (zR c))=false:=by rw [hI145,wR hx153,e_];rfl
  simp [jH,e1_]
 rw [hr_]
 exact ⟨(Ψ26,_),rfl,⟨le28,hX29⟩,hbk34 _ _ (hm.le (le212))⟩
 refine wP ?_
 replace hm:=hm.dl [3,2,1,0]
 have hr_:jH c=false:=by
  have e_:pK (zR c) x152=false:=by simp [pK, *]
  have e1_:c.funs.all (pK (zR c))=false:=by rw [hI145,wR hx153,e_];rfl
  simp [jH,e1_]
 rw [hr_]
 exact ⟨(Ψ26,_),rfl,⟨le28,hX29⟩,hbk34 _ _ (hm.le (le212))⟩
 refine wP ?_
 replace hm:=hm.dl [4,3,2,1,0]
 have hr_:jH c=false:=by
  have e_:pK (zR c) x152=false:=by simp [pK, *]
  have e1_:c.funs.all (pK (zR c))=false:=by rw [hI145,wR hx153,e_];rfl
  simp [jH,e1_]
 rw [hr_]
 exact ⟨(Ψ26,_),rfl,⟨le28,hX29⟩,hbk34 _ _ (hm.le (Fz.Le.refl _))⟩
 have hF_:c.funs.all (pK (zR c))=true:=by rw [hI145,y6y h147]
 refine MkM fun b226 w hm a he =>?_
 refine go fun a he =>?_
 refine yF (he.ks [4,16,120,121]) hm (fun R mm a w=>∃(i:Nat) (ds:List Bs),mm=c.outputs.length - i∧R Ψ31 [(122,.int .i64 ((i:Nat):Int))] [(0,.mp b226 (pL ds))] a w∧(mF (zR c) [] c.outputs=mF (zR c) ds (c.outputs.drop i))) (c.outputs.length - 0) ⟨0,[],rfl,⟨he.pk,hm⟩,rfl⟩ ?_
 clear hm he
 rintro mm a w ⟨i,ds,hmu,⟨he,hm⟩,hI230⟩ L229 hL229
 replace hm:=hm.nf
 by_cases h232:i < c.outputs.length
 refine go fun a he =>?_
 obtain ⟨q236,rfl,x237,hx238,cs239,hl240,ha241,hr242⟩:=hsl33.el hn36 h232
 obtain rfl:cs239=[.string x237]:=hr242
 refine go fun a he =>?_
 rcases hf244:yA (d43) x237 with _ | vf245
 have hf244_:=congrArg (zF true (.agg (List.toArray [.string ⟨#[]⟩,.slice none 0 0,.string ⟨#[]⟩,.int .i64 ((0:Nat):Int),.int .i64 ((0:Nat):Int),.string ⟨#[]⟩,.slice none 0 0,.slice none 0 0]))) hf244
 refine Qq (fun a he =>?_) (o:=by exact fun he hs=>Ok.cast (yD runUnderlying115 runUnderlying9 zeroValue112 he hs rfl rfl ma47) (show zF true (.agg (List.toArray [.string ⟨#[]⟩,.slice none 0 0,.string ⟨#[]⟩,.int .i64 ((0:Nat):Int),.int .i64 ((0:Nat):Int),.string ⟨#[]⟩,.slice none 0 0,.slice none 0 0])) (yA (d43) x237)=.tuple (List.toArray [.agg (List.toArray [.string ⟨#[]⟩,.slice none 0 0,.string ⟨#[]⟩,.int .i64 ((0:Nat):Int),.int .i64 ((0:Nat):Int),.string ⟨#[]⟩,.slice none 0 0,.slice none 0 0]),.bool false]) from hf244_))
 refine Alc fun b246 w hm a he =>?_
 refine Sto 0 fun w hm a he =>?_
 refine wP ?_
 replace hm:=hm.dl [3,2,1,0]
 have hr_:jH c=false:=by
  have e2_:=MapRel.none mr51 hf244
  have e1_:mF (zR c) [] c.outputs=false:=by rw [hI230,zA hx238];simp [mF, *] <;> (intro e_;simp_all)
  simp [jH,e1_]
 rw [hr_]
 exact ⟨(Ψ26,_),rfl,⟨le28,hX29⟩,hbk34 _ _ (hm.le (Fz.Le.refl _))⟩
 obtain ⟨y250,hy251,cs252,rfl,hr253⟩:=mr51.get hf244
 obtain ⟨s254,b260,rfl,h255,h261⟩:=id hr253
 obtain ⟨p256,c257,rfl,hm258,hn259⟩:=h255.fm
 obtain ⟨p264,c265,p270,c271,rfl,hi274,h263,h269,hm266,hn267,hm272,hn273⟩:=REx.fm h261
 have hf244_:=congrArg (zF true (.agg (List.toArray [.string ⟨#[]⟩,.slice none 0 0,.string ⟨#[]⟩,.int .i64 ((0:Nat):Int),.int .i64 ((0:Nat):Int),.string ⟨#[]⟩,.slice none 0 0,.slice none 0 0]))) hf244
 refine Qq (fun a he =>?_) (o:=by exact fun he hs=>Ok.cast (yD runUnderlying115 runUnderlying9 zeroValue112 he hs rfl rfl ma47) (show zF true (.agg (List.toArray [.string ⟨#[]⟩,.slice none 0 0,.string ⟨#[]⟩,.int .i64 ((0:Nat):Int),.int .i64 ((0:Nat):Int),.string ⟨#[]⟩,.slice none 0 0,.slice none 0 0])) (yA (d43) x237)=.tuple (List.toArray [.agg (List.toArray [.string y250.name,.slice p256 y250.params.length c257,.string y250.result,.int .i64 (y250.body.kind),.int .i64 (y250.body.num),.string y250.body.name,.slice p264 y250.body.args.length c265,.slice p270 y250.body.arms.length c271]),.bool true]) from hf244_))
 refine Alc fun b275 w hm a he =>?_
 refine Sto 0 fun w hm a he =>?_
 by_cases h278:0 < y250.params.length
 refine wP ?_
 replace hm:=hm.dl [3,2,1,0]
 have hr_:jH c=false:=by
  have e1_:mF (zR c) [] c.outputs=false:=by rw [hI230,zA hx238];simp [mF, *] <;> (intro e_;simp_all)
  simp [jH,e1_]
 rw [hr_]
 exact ⟨(Ψ26,_),rfl,⟨le28,hX29⟩,hbk34 _ _ (hm.le (Fz.Le.refl _))⟩
 refine go fun a he =>?_
 rcases hf280:yA ((pL ds)) x237 with _ | vf281
 have hf280_:=congrArg (zF false (.bool false)) hf280
 refine Qq (fun a he =>?_) (o:=by exact fun he hs=>Ok.cast (zQ 1 runUnderlying198 runUnderlying9 zeroValue4 he hs rfl rfl rfl) (show zF false (.bool false) (yA ((pL ds)) x237)=.bool false from hf280_))
 refine uX 1 runUnderlying198 runUnderlying9 fun w hm a he =>?_
 rw [← z1e] at hm
 refine go fun a he =>?_
 replace hm:=hm.dl [0]
 refine hL229 _ _ _ (by subst hmu;omega) ⟨(i+1),(ds++[x237]),rfl,⟨he.pk,hm⟩,?_⟩
 have hn_:=y2c hf280
 have hz_:y250.params=[]:=List.eq_nil_of_length_eq_zero (by omega)
 rw [hI230,zA hx238];simp [mF,hy251,hz_,hn_]
 obtain ⟨rfl,hs282⟩:=y2d hf280
 have hf280_:=congrArg (zF false (.bool false)) hf280
 refine Qq (fun a he =>?_) (o:=by exact fun he hs=>Ok.cast (zQ 1 runUnderlying198 runUnderlying9 zeroValue4 he hs rfl rfl rfl) (show zF false (.bool false) (yA ((pL ds)) x237)=.bool true from hf280_))
 refine wP ?_
 replace hm:=hm.dl [3,2,1,0]
 have hr_:jH c=false:=by
  have e1_:mF (zR c) [] c.outputs=false:=by rw [hI230,zA hx238];simp [mF, *] <;> (intro e_;simp_all)
  simp [jH,e1_]
 rw [hr_]
 exact ⟨(Ψ26,_),rfl,⟨le28,hX29⟩,hbk34 _ _ (hm.le (Fz.Le.refl _))⟩
 refine wP ?_
 replace hm:=hm.dl [2,1,0]
 have hr_:jH c=true:=by
  have e1_:mF (zR c) [] c.outputs=true:=by rw [hI230,zE h232];rfl
  simp [jH,hTb_,hO_,hD_,hIn_,hF_,e1_]
 rw [hr_]
 exact ⟨(Ψ26,_),rfl,⟨le28,hX29⟩,hbk34 _ _ (hm.le (Fz.Le.refl _))⟩
 refine wP ?_
 replace hm:=hm.dl [1,0]
 have hr_:jH c=false:=by
  have e_:nY c=false:=by simpa using hb85
  simp [jH,e_]
 rw [hr_]
 exact ⟨(Ψ26,_),rfl,⟨le28,hX29⟩,hbk34 _ _ (hm.le (Fz.Le.refl _))⟩
end Go.Sw

namespace Go.Sw
open Go.Proofs.Tryz
open Go.Proofs
set_option maxRecDepth 20000
set_option maxHeartbeats 4000000
theorem j8x {Φ:Fz} {R K:List Res} {w:World} {d0:List Value} {c:Core} {v:Value} (rpc:RCoreX Φ d0 c v) (hfz:Thaw R Φ v c.outputs) (G:Glob Φ) (hm:Mem Φ (R++K) w) :
  Calls prog 53 (List.toArray [.agg d0.toArray]) w (fun ee w'=>∃y:Fz×Addr,ee=.returned (.tuple (List.toArray [(if yC c=0 then .pointer (some y.2) else .pointer none),.int .i64 (yC c)]))∧(Φ.Le y.1∧(yC c=0→RTableX y.1 y.2 (zR c) v∧xL c=false))∧Mem y.1 (R++K) w'):=by
 obtain ⟨s1,s2,s3,q4,cc5,rfl,rfl,h6,h7,h8⟩:=id rpc
 obtain ⟨p9,c10,rfl,hm11,hn12⟩:=h6.fm
 obtain ⟨p13,c14,rfl,hm15,hn16⟩:=h7.fm
 obtain ⟨p17,c18,rfl,hm19,hn20⟩:=h8.fm
 refine zL func53 ntmps53 fun Q hQ a he =>?_
 refine Bx fun b22 w hm a he =>?_
 refine yK call86 (fun hB25 w hm a he =>?_) (fun hB25 w hm a he =>?_) (c:=y9o (Φ:=Φ) (K:=.blk b22 (ob [.slice p9 c.datas.length c10,.slice p13 c.inputs.length c14,.slice p17 c.funs.length c18,.slice q4 c.outputs.length cc5] 27)::(R++K)) (p:=fun f=>pJ 250 f.body) (fs:=[]) (cs:=[]) h8 call87 (fun x c w hx hc hm=>j8v hc hm) hm)
 refine wP ?_
 replace hm:=hm.dl [0]
 have hr_:yC c=6:=by
  simp [yC,hB25]
 rw [hr_]
 exact ⟨(Φ,⟨0,0,none⟩),rfl,⟨Fz.Le.refl _,fun h_=>(by cases h_)⟩,hm⟩
 have hdeep_:=hB25
 refine yK call89 (fun hB29 w hm a he =>?_) (fun hB29 w hm a he =>?_) (c:=j8u rpc hm)
 refine wP ?_
 replace hm:=hm.dl [0]
 have hr_:yC c=2:=by
  simp [yC, *]
 rw [hr_]
 exact ⟨(Φ,⟨0,0,none⟩),rfl,⟨Fz.Le.refl _,fun h_=>(by cases h_)⟩,hm⟩
 have hlong_:=hB29
 refine jF call90 (fun y32 w hG33 hm a he =>?_) (c:=j3m (K:=.blk b22 (ob [.slice p9 c.datas.length c10,.slice p13 c.inputs.length c14,.slice p17 c.funs.length c18,.slice q4 c.outputs.length cc5] 27)::K) rpc hfz hB29 G (hm.perm List.perm_middle.symm))
 obtain ⟨Ψ34,p35⟩:=y32
 obtain ⟨le36,hT37⟩:=hG33
 simp only at le36 hT37 hm he
 replace hm:=hm.perm List.perm_middle
 replace G:=G.mono le36
 replace hm:=hm.nf
 refine go fun a he =>?_
 generalize hb41:(!(jH c))=bb40 at he
 cases bb40
 refine wP ?_
 replace hm:=hm.dl [0]
 have hr_:yC c=0:=by
  have e_:jH c=true:=by simpa using hb41
  simp [yC,hdeep_,hlong_,e_]
 rw [hr_]
 exact ⟨(Ψ34,_),rfl,⟨le36,fun _=>⟨hT37,hlong_⟩⟩,hm⟩
 refine wP ?_
 replace hm:=hm.dl [0]
 have hr_:yC c=80:=by
  have e_:jH c=false:=by simpa using hb41
  simp [yC,hdeep_,hlong_,e_]
 rw [hr_]
 exact ⟨(Ψ34,⟨0,0,none⟩),rfl,⟨le36,fun h_=>(by cases h_)⟩,hm⟩
theorem q9b {Φ:Fz} {K:List Res} {w:World} {d0:List Value} {c:Core} (rpc:RCore Φ d0 c) (G:Glob Φ) (hm:Mem Φ K w) :
  Calls prog 53 (List.toArray [.agg d0.toArray]) w (fun ee w'=>∃y:Fz×Addr,ee=.returned (.tuple (List.toArray [(if yC c=0 then .pointer (some y.2) else .pointer none),.int .i64 (yC c)]))∧(Φ.Le y.1∧(yC c=0→RTable y.1 y.2 (zR c)∧xL c=false))∧Mem y.1 K w'):=by
 obtain ⟨v,hx,hv⟩:=rpc.x
 refine (j8x hx (Thaw.none hv) G hm).mono fun ee w' h =>?_
 obtain ⟨y,h1,⟨h2,h3⟩,h4⟩:=h
 exact ⟨y,h1,⟨h2,fun h0=>⟨(h3 h0).1.full (show SliceOf RStr y.1 1 v c.outputs from hv.mono RStr.mono h2),(h3 h0).2⟩⟩,h4⟩
theorem z8s {Φ:Fz} {K:List Res} {w:World} {d0:List Value} {c:Core} (rpc:RCore Φ d0 c) (G:Glob Φ) (hm:Mem Φ K w) :
  Calls prog 36 (List.toArray [.agg d0.toArray]) w (fun ee w'=>ee=.returned (.int .i64 (yC c))∧Mem Φ K w'):=by
 obtain ⟨p3,c4,p9,c10,p15,c16,p21,c22,rfl,h2,h8,h14,h20,hm5,hn6,hm11,hn12,hm17,hn18,hm23,hn24⟩:=RCore.fm rpc
 refine zL func36 ntmps36 fun Q hQ a he =>?_
 refine Bx fun b26 w hm a he =>?_
 refine jF call53 (fun y28 w hG29 hm a he =>?_) (c:=q9b rpc G hm)
 obtain ⟨Ψ30,p31⟩:=y28
 obtain ⟨le32,hT33⟩:=hG29
 simp only at le32 hT33 hm he
 replace rpc:=RCore.mono _ _ _ _ le32 rpc
 replace G:=G.mono le32
 replace hm:=hm.nf
 by_cases hlk34:yC c=0
 obtain ⟨hT35,hlong36⟩:=hT33 hlk34
 rw [if_pos hlk34,hlk34] at he
 refine zI ?_
 replace hm:=hm.le (le32)
 replace hm:=hm.dl [0]
 exact q2m hm (by exact hlk34.symm)
 rw [if_neg hlk34] at he
 refine zI ?_
 replace hm:=hm.le (le32)
 replace hm:=hm.dl [0]
 exact q2m hm (by rfl)
end Go.Sw
