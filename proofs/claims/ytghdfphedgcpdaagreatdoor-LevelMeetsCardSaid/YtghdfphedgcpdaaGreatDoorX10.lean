import Derived.Test.YtghdfphedgcpdaaGreatDoorProg
import Derived.Deep.DeepAppendWide
import Derived.Test.YtghdfphedgcpdaaGreatDoorX02
import Derived.Test.YtghdfphedgcpdaaGreatDoorX08
import Derived.Test.YtghdfphedgcpdaaGreatDoorX09
set_option linter.unusedVariables false
set_option linter.unusedSimpArgs false
namespace Go.Sw
open Go.Proofs.Tryz
open Go.Proofs
set_option maxRecDepth 20000
set_option maxHeartbeats 4000000
theorem j4x {β:Type} {Φ:Fz} {y:Value} {items:List Flow} {KY:List Flow→β→List Res} (hy:Takes prog Φ y flV items KY) {gb pmb:Nat} {s1 s2 s3 s4 nd:Value} (hv:∀pre z K0 w,Mem Φ (K0++KY pre z) w→∃u v x,Sees Φ [.blk gb (ob [s1,s2,s3,s4,nd,u,.map (some pmb),v,x] 75)] w) {m:List (Bs×Value)} {pmL:Pars} (hpm:MapAt Φ pmb m) (hpr:MapRel (fun v x=>SliceOf RParam Φ 2 v x) m pmL) (hps:∀n ps,zK pmL n=some ps→∀p∈ps,p.name.size≤1000) (G:Glob Φ) {f:Bs} {q1 q2 q3 q4 q5 q6 q7 q8:Value} (hf:f.size≤1000) {e:Ex} (ih:∀x:Ex,x.sz < e.sz→∀{K0:List Res} {w:World} {d0:List Value} {p0 q0:List Flow} {z0:β},REx Φ d0 x→pB x→pJ pmL x→items=p0++kS pmL f x++q0→Mem Φ (K0++KY p0 z0) w→Calls prog 104 (List.toArray [.pointer (some ⟨gb,0,none⟩),.agg (List.toArray [.string f,q1,q2,q3,q4,q5,q6,q7,q8]),.agg d0.toArray,y]) w (fun ee w'=>∃z':β,ee=.returned (.bool true)∧True∧Mem Φ (K0++KY (p0++kS pmL f x) z') w')) {K0:List Res} {w:World} {d0:List Value} {p0 q0:List Flow} {z0:β} (re:REx Φ d0 e) (ht:pB e) (hok:pJ pmL e) (hit:items=p0++kS pmL f e++q0) (hm:Mem Φ (K0++KY p0 z0) w) :
  Calls prog 104 (List.toArray [.pointer (some ⟨gb,0,none⟩),.agg (List.toArray [.string f,q1,q2,q3,q4,q5,q6,q7,q8]),.agg d0.toArray,y]) w (fun ee w'=>∃z':β,ee=.returned (.bool true)∧True∧Mem Φ (K0++KY (p0++kS pmL f e) z') w'):=by
 obtain ⟨yf_,ya_,yc_,hyv_⟩:=hy.fn
 subst hyv_
 have re0_:=re
 obtain ⟨t1_,t2_,t3_,t4_⟩:=(pC e).1 ht
 obtain ⟨o5_,o6_,oa_,ob_⟩:=(wN e).1 hok
 rw [cR] at oa_
 rw [oT] at ob_
 have hit0_:=hit
 rw [mC,List.append_assoc,List.append_assoc,List.append_assoc] at hit0_
 obtain ⟨p3,c4,p9,c10,rfl,hi13,h2,h8,hm5,hn6,hm11,hn12⟩:=REx.fm re
 refine zN func104 ntmps104 fun Q hQ a he =>?_
 refine Bx fun b15 w hm a he =>?_
 refine Bx fun b16 w hm a he =>?_
 refine Bx fun b17 w hm a he =>?_
 refine goJ 31 fun a he =>?_
 refine sq fun L19 hL19 =>?_
 have hJ20:∀a w,(∃(pr:List Flow) (zz:β),EnvR 150 [(0,.pointer (some ⟨gb,0,none⟩)),(5,.pointer (some ⟨b15,0,none⟩)),(6,.pointer (some ⟨b16,0,none⟩)),(7,.pointer (some ⟨b17,0,none⟩))] [] a∧Mem Φ (.blk b17 (ob [.func yf_ ya_ yc_] 143)::.blk b16 (ob [.int .i64 (e.kind),.int .i64 (e.num),.string e.name,.slice p3 e.args.length c4,.slice p9 e.arms.length c10] 110)::.blk b15 (ob [.string f,q1,q2,q3,q4,q5,q6,q7,q8] 131)::K0++KY pr zz) w∧(items=pr++(flowPs pmL f e.args++(flowPa pmL f e.arms++q0))))→L19 a w:=by
  clear hm he
  rintro a w ⟨pr,zz,he,hm,hI21⟩
  refine hL19 _ _ ?_
  refine go fun a he =>?_
  refine xB (fun mm a w=>∃(i:Nat) (pr:List Flow) (zz:β),mm=e.args.length - i∧EnvR 150 [(0,.pointer (some ⟨gb,0,none⟩)),(5,.pointer (some ⟨b15,0,none⟩)),(6,.pointer (some ⟨b16,0,none⟩)),(7,.pointer (some ⟨b17,0,none⟩)),(122,.slice p3 e.args.length c4),(123,.int .i64 ((e.args.length:Nat):Int)),(124,.int .i64 ((i:Nat):Int))] [] a∧Mem Φ (.blk b17 (ob [.func yf_ ya_ yc_] 143)::.blk b16 (ob [.int .i64 (e.kind),.int .i64 (e.num),.string e.name,.slice p3 e.args.length c4,.slice p9 e.arms.length c10] 110)::.blk b15 (ob [.string f,q1,q2,q3,q4,q5,q6,q7,q8] 131)::K0++KY pr zz) w∧(items=pr++(flowPs pmL f (e.args.drop i)++(flowPa pmL f e.arms++q0)))) (e.args.length - 0) ⟨0,pr,zz,rfl,he.pk,hm,by rw [hI21];rfl⟩ ?_
  clear hm he
  rintro mm a w ⟨i,pr,zz,hmu,he,hm,hI25⟩ L24 hL24
  by_cases h27:i < e.args.length
  refine go fun a he =>?_
  obtain ⟨q31,rfl,x32,hx33,cs34,hl35,ha36,hr37⟩:=h2.el hn6 h27
  obtain ⟨p40,c41,p46,c47,rfl,hi50,h39,h45,hm42,hn43,hm48,hn49⟩:=REx.fm hr37
  refine Alc fun b51 w hm a he =>?_
  refine Sto 0 fun w hm a he =>?_
  refine qV call104 (fun y53 w hG54 hm a he =>?_) (c:=ih _ (Ex.lt_args (List.mem_of_getElem? hx33)) (K0:=(.blk b51 (ob [.int .i64 (x32.kind),.int .i64 (x32.num),.string x32.name,.slice p40 x32.args.length c41,.slice p46 x32.arms.length c47] 110)::.blk b17 (ob [.func yf_ ya_ yc_] 143)::.blk b16 (ob [.int .i64 (e.kind),.int .i64 (e.num),.string e.name,.slice (some q31) e.args.length c4,.slice p9 e.arms.length c10] 110)::.blk b15 (ob [.string f,q1,q2,q3,q4,q5,q6,q7,q8] 131)::K0)) (q0:=_) hr37 (t3_ _ (List.mem_of_getElem? hx33)) (oa_ _ (List.mem_of_getElem? hx33)) (by rw [hI25,y9k hx33];simp only [List.append_assoc,List.cons_append,List.nil_append];rfl) hm)
  refine go fun a he =>?_
  replace hm:=hm.dl [0]
  refine hL24 _ _ _ (by subst hmu;omega) ⟨(i+1),((pr++kS pmL f x32)),(y53),rfl,he.pk,hm,?_⟩
  rw [hI25,y9k hx33];simp only [List.append_assoc,List.cons_append,List.nil_append]
  refine go fun a he =>?_
  refine xB (fun mm a w=>∃(i:Nat) (pr:List Flow) (zz:β),mm=e.arms.length - i∧EnvR 150 [(0,.pointer (some ⟨gb,0,none⟩)),(5,.pointer (some ⟨b15,0,none⟩)),(7,.pointer (some ⟨b17,0,none⟩)),(136,.slice p9 e.arms.length c10),(137,.int .i64 ((e.arms.length:Nat):Int)),(138,.int .i64 ((i:Nat):Int))] [] a∧Mem Φ (.blk b17 (ob [.func yf_ ya_ yc_] 143)::.blk b16 (ob [.int .i64 (e.kind),.int .i64 (e.num),.string e.name,.slice p3 e.args.length c4,.slice p9 e.arms.length c10] 110)::.blk b15 (ob [.string f,q1,q2,q3,q4,q5,q6,q7,q8] 131)::K0++KY pr zz) w∧(items=pr++(flowPa pmL f (e.arms.drop i)++q0))) (e.arms.length - 0) ⟨0,pr,zz,rfl,he.pk,hm,by rw [hI25,q8y h27,List.nil_append];rfl⟩ ?_
  clear hm he
  rintro mm a w ⟨i,pr,zz,hmu,he,hm,hI59⟩ L58 hL58
  by_cases h61:i < e.arms.length
  refine go fun a he =>?_
  obtain ⟨q65,rfl,x66,hx67,cs68,hl69,ha70,hr71⟩:=h8.el hn12 h61
  obtain ⟨s72,b78,rfl,h73,h79⟩:=RArm.iff.1 hr71
  obtain ⟨p74,c75,rfl,hm76,hn77⟩:=h73.fm
  obtain ⟨p82,c83,p88,c89,rfl,hi92,h81,h87,hm84,hn85,hm90,hn91⟩:=REx.fm h79
  refine Alc fun b93 w hm a he =>?_
  refine Sto 0 fun w hm a he =>?_
  refine qV call104 (fun y95 w hG96 hm a he =>?_) (c:=ih _ (Ex.lt_arms (List.mem_of_getElem? hx67)) (K0:=(.blk b93 (ob [.string x66.con,.slice p74 x66.vars.length c75,.int .i64 (x66.body.kind),.int .i64 (x66.body.num),.string x66.body.name,.slice p82 x66.body.args.length c83,.slice p88 x66.body.arms.length c89] 174)::.blk b17 (ob [.func yf_ ya_ yc_] 143)::.blk b16 (ob [.int .i64 (e.kind),.int .i64 (e.num),.string e.name,.slice p3 e.args.length c4,.slice (some q65) e.arms.length c10] 110)::.blk b15 (ob [.string f,q1,q2,q3,q4,q5,q6,q7,q8] 131)::K0)) (q0:=_) h79 ((t4_ _ (List.mem_of_getElem? hx67)).2.2.2) (ob_ _ (List.mem_of_getElem? hx67)) (by rw [hI59,y9j hx67];simp only [List.append_assoc,List.cons_append,List.nil_append];rfl) hm)
  refine go fun a he =>?_
  replace hm:=hm.dl [0]
  refine hL58 _ _ _ (by subst hmu;omega) ⟨(i+1),((pr++kS pmL f x66.body)),(y95),rfl,he.pk,hm,?_⟩
  rw [hI59,y9j hx67];simp only [List.append_assoc,List.cons_append,List.nil_append]
  refine zF ?_
  replace hm:=hm.dl [2,1,0]
  have h_:=hI59
  rw [q8x h61,List.nil_append,hit] at h_
  rw [j7r h_];exact ⟨_,rfl,trivial,hm⟩
 by_cases h101:e.kind=4
 refine go fun a he =>?_
 refine xB (fun mm a w=>∃(i:Nat) (pr:List Flow) (zz:β),mm=e.args.length - i∧EnvR 150 [(0,.pointer (some ⟨gb,0,none⟩)),(5,.pointer (some ⟨b15,0,none⟩)),(6,.pointer (some ⟨b16,0,none⟩)),(7,.pointer (some ⟨b17,0,none⟩)),(9,.func (.func 148) (List.toArray []) (List.toArray [.pointer (some ⟨b15,0,none⟩),.pointer (some ⟨b17,0,none⟩)])),(28,.slice p3 e.args.length c4),(29,.int .i64 ((e.args.length:Nat):Int)),(30,.int .i64 ((i:Nat):Int))] [] a∧Mem Φ (.blk b17 (ob [.func yf_ ya_ yc_] 143)::.blk b16 (ob [.int .i64 (e.kind),.int .i64 (e.num),.string e.name,.slice p3 e.args.length c4,.slice p9 e.arms.length c10] 110)::.blk b15 (ob [.string f,q1,q2,q3,q4,q5,q6,q7,q8] 131)::K0++KY pr zz) w∧(items=pr++(z6g f e.name i (e.args.drop i)++(flowPs pmL f e.args++(flowPa pmL f e.arms++q0))))) (e.args.length - 0) ⟨0,p0,z0,rfl,he.pk,hm,by rw [hit0_,j5b h101];rfl⟩ ?_
 clear hm he
 rintro mm a w ⟨i,pr,zz,hmu,he,hm,hI104⟩ L103 hL103
 by_cases h106:i < e.args.length
 refine go fun a he =>?_
 obtain ⟨q110,rfl,x111,hx112,cs113,hl114,ha115,hr116⟩:=h2.el hn6 h106
 obtain ⟨p119,c120,p125,c126,rfl,hi129,h118,h124,hm121,hn122,hm127,hn128⟩:=REx.fm hr116
 refine Alc fun b130 w hm a he =>?_
 refine Sto 0 fun w hm a he =>?_
 refine Reg [1,2,1,2,1,1,0,0,1] [0,1,2,3] fun w hm a he =>?_
 have hn_:=t1_ (by omega) (by omega)
 refine qH fun a he =>?_
 refine zT call63 (fun w hm a he =>?_) (c:=z8r G (by omega) (by omega) hm)
 replace hm:=hm.ar [] [1,3]
 refine d_e he rfl rfl rfl (kD he rfl rfl call148 (z9z hy hf (p0:=pr) (q0:=_) (z0:=zz) (K0:=(.blk b130 (ob [.int .i64 (x111.kind),.int .i64 (x111.num),.string x111.name,.slice p119 x111.args.length c120,.slice p125 x111.arms.length c126] 110)::.blk b16 (ob [.int .i64 (e.kind),.int .i64 (e.num),.string e.name,.slice (some q110) e.args.length c4,.slice p9 e.arms.length c10] 110)::K0)) hr116 (t3_ _ (List.mem_of_getElem? hx112)) (by rw [hI104,j2f hx112];simp only [List.append_assoc,List.cons_append,List.nil_append];rfl) hm) (fun y132 w hG133 hm=>⟨fun _=>hm.sn (Fz.Le.refl _),fun a he =>?_⟩))
 refine go fun a he =>?_
 replace hm:=hm.ar [2] [2,2]
 refine hL103 _ _ _ (by subst hmu;omega) ⟨(i+1),((pr++toP f (wM e.name i) x111)),(y132),rfl,he.pk,hm,?_⟩
 rw [hI104,j2f hx112];simp only [List.append_assoc,List.cons_append,List.nil_append]
 refine go fun a he =>?_
 exact hJ20 _ _ ⟨pr,zz,he.pk,hm,by rw [hI104,j8c h106,List.nil_append]⟩
 by_cases h136:e.kind=5
 refine go fun a he =>?_
 refine xB (fun mm a w=>∃(i:Nat) (pr:List Flow) (zz:β),mm=e.args.length - i∧EnvR 150 [(0,.pointer (some ⟨gb,0,none⟩)),(5,.pointer (some ⟨b15,0,none⟩)),(6,.pointer (some ⟨b16,0,none⟩)),(7,.pointer (some ⟨b17,0,none⟩)),(9,.func (.func 148) (List.toArray []) (List.toArray [.pointer (some ⟨b15,0,none⟩),.pointer (some ⟨b17,0,none⟩)])),(48,.slice p3 e.args.length c4),(49,.int .i64 ((e.args.length:Nat):Int)),(50,.int .i64 ((i:Nat):Int))] [] a∧Mem Φ (.blk b17 (ob [.func yf_ ya_ yc_] 143)::.blk b16 (ob [.int .i64 (e.kind),.int .i64 (e.num),.string e.name,.slice p3 e.args.length c4,.slice p9 e.arms.length c10] 110)::.blk b15 (ob [.string f,q1,q2,q3,q4,q5,q6,q7,q8] 131)::K0++KY pr zz) w∧(items=pr++(cP f e.name (((zK pmL e.name).getD []).drop i) (e.args.drop i)++(flowPs pmL f e.args++(flowPa pmL f e.arms++q0))))) (e.args.length - 0) ⟨0,p0,z0,rfl,he.pk,hm,by rw [hit0_,q9e h136];rfl⟩ ?_
 clear hm he
 rintro mm a w ⟨i,pr,zz,hmu,he,hm,hI139⟩ L138 hL138
 by_cases h141:i < e.args.length
 refine go fun a he =>?_
 obtain ⟨q145,rfl,x146,hx147,cs148,hl149,ha150,hr151⟩:=h2.el hn6 h141
 obtain ⟨p154,c155,p160,c161,rfl,hi164,h153,h159,hm156,hn157,hm162,hn163⟩:=REx.fm hr151
 refine Alc fun b165 w hm a he =>?_
 refine Sto 0 fun w hm a he =>?_
 refine go fun a he =>?_
 refine qL [1,2,1,2,1,1,1,1,0,1,2,2,1,1,1,2,0,0,1] (.q 0 (.q 1 (.q 2 (.q 3 (.q 4 (.q 5 (.q 6 (.q 7 (.q 9 (.q 10 (.q 12 (.e 8 (.q 11 (.q 13 (.q 14 (.q 15 (.e 16 (.e 17 (.q 18 (.done)))))))))))))))))))) [0,1,2,3] he hm fun w hm =>?_
 have hn_:=t1_ (by omega) (by omega)
 refine qH fun a he =>?_
 refine go fun a he =>?_
 obtain ⟨u167,u168,u169,hv170⟩:=hv pr zz (.blk b165 (ob [.int .i64 (x146.kind),.int .i64 (x146.num),.string x146.name,.slice p154 x146.args.length c155,.slice p160 x146.arms.length c161] 110)::.blk b17 (ob [.func yf_ ya_ yc_] 143)::.blk b16 (ob [.int .i64 (e.kind),.int .i64 (e.num),.string e.name,.slice (some q145) e.args.length c4,.slice p9 e.arms.length c10] 110)::.blk b15 (ob [.string f,q1,q2,q3,q4,q5,q6,q7,q8] 131)::K0) _ hm
 refine d_e he rfl rfl rfl (aR (yR 0 he hv170 rfl rfl rfl isAgg71) ⟨fun _=>hm.sn (Fz.Le.refl _),fun a he =>?_⟩)
 rcases hf171:yD (m) e.name with _ | vf172
 exact (by have h_:=o5_ h136;rw [hpr.none hf171] at h_;simp only [Option.getD_none,List.length_nil] at h_;omega:False).elim
 obtain ⟨y173,hy174,hs175⟩:=hpr.get hf171
 obtain ⟨p176,c177,rfl,hmx178,hn179⟩:=hs175.fm
 have hpl_:e.args.length≤y173.length:=by have h_:=o5_ h136;rw [hy174] at h_;exact h_
 have hf171_:=congrArg (zG false (.slice none 0 0)) hf171
 refine Qq (fun a he =>?_) (o:=by exact fun he hs=>Ok.cast (yP runUnderlying71 runUnderlying9 zeroValue23 he hs rfl rfl hpm) (show zG false (.slice none 0 0) (yD (m) e.name)=.slice p176 y173.length c177 from hf171_))
 have hb180:i < y173.length:=by omega
 obtain ⟨q181,rfl,x182,hx183,cs184,hl185,ha186,hr187⟩:=hs175.el hn179 hb180
 obtain rfl:=id hr187
 have hz_:=hps _ _ hy174 _ (List.mem_of_getElem? hx183)
 refine zT call64 (fun w hm a he =>?_) (c:=z5a (by omega) (by omega) hm)
 replace hm:=hm.ar [] [1,3]
 refine d_e he rfl rfl rfl (kD he rfl rfl call148 (z9z hy hf (p0:=pr) (q0:=_) (z0:=zz) (K0:=(.blk b165 (ob [.int .i64 (x146.kind),.int .i64 (x146.num),.string x146.name,.slice p154 x146.args.length c155,.slice p160 x146.arms.length c161] 110)::.blk b16 (ob [.int .i64 (e.kind),.int .i64 (e.num),.string e.name,.slice (some q145) e.args.length c4,.slice p9 e.arms.length c10] 110)::K0)) hr151 (t3_ _ (List.mem_of_getElem? hx147)) (by rw [hI139,q4k hx147 (show ((zK pmL e.name).getD [])[i]? = _ by rw [hy174];exact hx183)];simp only [List.append_assoc,List.cons_append,List.nil_append];rfl) hm) (fun y188 w hG189 hm=>⟨fun _=>hm.sn (Fz.Le.refl _),fun a he =>?_⟩))
 refine go fun a he =>?_
 replace hm:=hm.ar [2] [2,2]
 refine hL138 _ _ _ (by subst hmu;omega) ⟨(i+1),((pr++toP f (vrN e.name x182.name) x146)),(y188),rfl,he.pk,hm,?_⟩
 rw [hI139,q4k hx147 (show ((zK pmL e.name).getD [])[i]? = _ by rw [hy174];exact hx183)];simp only [List.append_assoc,List.cons_append,List.nil_append]
 refine go fun a he =>?_
 exact hJ20 _ _ ⟨pr,zz,he.pk,hm,by rw [hI139,j3z h141,List.nil_append]⟩
 by_cases h192:e.kind=6
 refine Reg [1,1,2,1,2,1,2,1,2,0,0,1] [0,1,2] fun w hm a he =>?_
 have hn_:=t1_ (by omega) (by omega)
 have hp0_:0 < e.args.length:=List.length_pos_iff.2 (o6_ h192)
 refine go fun a he =>?_
 obtain ⟨q194,rfl,x195,hx196,cs197,hl198,ha199,hr200⟩:=h2.el hn6 hp0_
 obtain ⟨p203,c204,p209,c210,rfl,hi213,h202,h208,hm205,hn206,hm211,hn212⟩:=REx.fm hr200
 refine zT call64 (fun w hm a he =>?_) (c:=z5a (by omega) (by omega) hm)
 replace hm:=hm.pl 2
 refine d_e he rfl rfl rfl (kD he rfl rfl call148 (z9z hy hf (p0:=p0) (q0:=_) (z0:=z0) (K0:=(.blk b16 (ob [.int .i64 (e.kind),.int .i64 (e.num),.string e.name,.slice (some q194) e.args.length c4,.slice p9 e.arms.length c10] 110)::K0)) hr200 (t3_ _ (List.mem_of_getElem? hx196)) (by rw [hit0_,y9q h192,j2p hx196];simp only [List.append_assoc,List.cons_append,List.nil_append];rfl) hm) (fun y214 w hG215 hm=>⟨fun _=>hm.sn (Fz.Le.refl _),fun a he =>?_⟩))
 refine go fun a he =>?_
 replace hm:=hm.ar [] [2,2]
 exact hJ20 _ _ ⟨(p0++toP f (vrN f e.name) x195),y214,he.pk,hm,by rw [hit0_,y9q h192,j2p hx196];simp only [List.append_assoc,List.cons_append,List.nil_append]⟩
 refine go fun a he =>?_
 by_cases h217:e.kind=7
 refine go fun a he =>?_
 refine xB (fun mm a w=>∃(i:Nat) (pr:List Flow) (zz:β),mm=e.arms.length - i∧EnvR 150 [(0,.pointer (some ⟨gb,0,none⟩)),(5,.pointer (some ⟨b15,0,none⟩)),(6,.pointer (some ⟨b16,0,none⟩)),(7,.pointer (some ⟨b17,0,none⟩)),(92,.slice p9 e.arms.length c10),(93,.int .i64 ((e.arms.length:Nat):Int)),(94,.int .i64 ((i:Nat):Int))] [] a∧Mem Φ (.blk b17 (ob [.func yf_ ya_ yc_] 143)::.blk b16 (ob [.int .i64 (e.kind),.int .i64 (e.num),.string e.name,.slice p3 e.args.length c4,.slice p9 e.arms.length c10] 110)::.blk b15 (ob [.string f,q1,q2,q3,q4,q5,q6,q7,q8] 131)::K0++KY pr zz) w∧(items=pr++(z0s f (e.arms.drop i)++(flowPs pmL f e.args++(flowPa pmL f e.arms++q0))))) (e.arms.length - 0) ⟨0,p0,z0,rfl,he.pk,hm,by rw [hit0_,q9f h217];rfl⟩ ?_
 clear hm he
 rintro mm a w ⟨i,pr,zz,hmu,he,hm,hI220⟩ L219 hL219
 by_cases h222:i < e.arms.length
 refine go fun a he =>?_
 obtain ⟨q226,rfl,x227,hx228,cs229,hl230,ha231,hr232⟩:=h8.el hn12 h222
 obtain ⟨s233,b239,rfl,h234,h240⟩:=RArm.iff.1 hr232
 obtain ⟨p235,c236,rfl,hm237,hn238⟩:=h234.fm
 obtain ⟨p243,c244,p249,c250,rfl,hi253,h242,h248,hm245,hn246,hm251,hn252⟩:=REx.fm h240
 refine Alc fun b254 w hm a he =>?_
 refine Sto 0 fun w hm a he =>?_
 have ha_:=t4_ _ (List.mem_of_getElem? hx228)
 refine go fun a he =>?_
 refine xB (fun mm a w=>∃(k:Nat) (pr:List Flow) (zz:β),mm=x227.vars.length - k∧EnvR 150 [(0,.pointer (some ⟨gb,0,none⟩)),(5,.pointer (some ⟨b15,0,none⟩)),(6,.pointer (some ⟨b16,0,none⟩)),(7,.pointer (some ⟨b17,0,none⟩)),(15,.pointer (some ⟨b254,0,none⟩)),(92,.slice (some q226) e.arms.length c10),(93,.int .i64 ((e.arms.length:Nat):Int)),(94,.int .i64 ((i:Nat):Int)),(99,.slice p235 x227.vars.length c236),(100,.int .i64 ((x227.vars.length:Nat):Int)),(101,.int .i64 ((k:Nat):Int))] [] a∧Mem Φ (.blk b254 (ob [.string x227.con,.slice p235 x227.vars.length c236,.int .i64 (x227.body.kind),.int .i64 (x227.body.num),.string x227.body.name,.slice p243 x227.body.args.length c244,.slice p249 x227.body.arms.length c250] 174)::.blk b17 (ob [.func yf_ ya_ yc_] 143)::.blk b16 (ob [.int .i64 (e.kind),.int .i64 (e.num),.string e.name,.slice p3 e.args.length c4,.slice (some q226) e.arms.length c10] 110)::.blk b15 (ob [.string f,q1,q2,q3,q4,q5,q6,q7,q8] 131)::K0++KY pr zz) w∧(items=pr++(z8m f x227.con k (x227.vars.drop k)++(z0s f (e.arms.drop (i+1))++(flowPs pmL f e.args++(flowPa pmL f e.arms++q0)))))) (x227.vars.length - 0) ⟨0,pr,zz,rfl,he.pk,hm,by rw [hI220,armF_at hx228];simp only [List.append_assoc,List.cons_append,List.nil_append];rfl⟩ ?_
 clear hm he
 rintro mm a w ⟨k,pr,zz,hmu,he,hm,hI257⟩ L256 hL256
 by_cases h259:k < x227.vars.length
 refine go fun a he =>?_
 obtain ⟨q263,rfl,x264,hx265,cs266,hl267,ha268,hr269⟩:=h234.el hn238 h259
 obtain rfl:cs266=[.string x264]:=hr269
 refine go fun a he =>?_
 refine qL [2,1,2,1,1,0,1,2,1,0,1,0,1] (.q 0 (.q 1 (.q 2 (.q 3 (.q 4 (.q 6 (.q 7 (.q 8 (.e 5 (.e 9 (.q 10 (.e 11 (.q 12 (.done)))))))))))))) [0,1,2,3] he hm fun w hm =>?_
 have hz_:=ha_.2.2.1 _ (List.mem_of_getElem? hx265)
 refine qH fun a he =>?_
 refine zT call63 (fun w hm a he =>?_) (c:=z8r G (by omega) (by omega) hm)
 refine zT call64 (fun w hm a he =>?_) (c:=z5a (by omega) (by omega) hm)
 refine qH fun a he =>?_
 refine d_fire he rfl rfl rfl (xS he rfl rfl (hy.go pr (wM x227.con k,vrN f x264) _ zz (.blk b254 (ob [.string x227.con,.slice (some q263) x227.vars.length c236,.int .i64 (x227.body.kind),.int .i64 (x227.body.num),.string x227.body.name,.slice p243 x227.body.args.length c244,.slice p249 x227.body.arms.length c250] 174)::.blk b17 (ob [.func yf_ ya_ yc_] 143)::.blk b16 (ob [.int .i64 (e.kind),.int .i64 (e.num),.string e.name,.slice p3 e.args.length c4,.slice (some q226) e.arms.length c10] 110)::.blk b15 (ob [.string f,q1,q2,q3,q4,q5,q6,q7,q8] 131)::K0) w (by rw [hI257,j3l hx265];simp only [List.append_assoc,List.cons_append,List.nil_append];rfl) hm) fun w hJ_=>⟨fun _=>hJ_.elim fun z_ hm=>hm.sn (Fz.Le.refl _),fun a he =>?_⟩)
 obtain ⟨z271,hm⟩:=hJ_
 replace hm:=hm.nf
 refine go fun a he =>?_
 refine hL256 _ _ _ (by subst hmu;omega) ⟨(k+1),((pr++[(wM x227.con k,vrN f x264)])),(z271),rfl,he.pk,hm,?_⟩
 rw [hI257,j3l hx265];simp only [List.append_assoc,List.cons_append,List.nil_append]
 refine go fun a he =>?_
 replace hm:=hm.dl [0]
 refine hL219 _ _ _ (by subst hmu;omega) ⟨(i+1),(pr),(zz),rfl,he.pk,hm,?_⟩
 have h_:=hI257
 rw [x3u h259,List.nil_append] at h_
 rw [h_]
 refine go fun a he =>?_
 exact hJ20 _ _ ⟨pr,zz,he.pk,hm,by rw [hI220,j7t h222,List.nil_append]⟩
 refine go fun a he =>?_
 exact hJ20 _ _ ⟨p0,z0,he.pk,hm,by rw [hit0_,q9g (by assumption) (by assumption) (by assumption) (by assumption),List.nil_append]⟩
theorem j8v {β:Type} {Φ:Fz} {y:Value} {items:List Flow} {KY:List Flow→β→List Res} (hy:Takes prog Φ y flV items KY) {gb pmb:Nat} {s1 s2 s3 s4 nd:Value} (hv:∀pre z K0 w,Mem Φ (K0++KY pre z) w→∃u v x,Sees Φ [.blk gb (ob [s1,s2,s3,s4,nd,u,.map (some pmb),v,x] 75)] w) {m:List (Bs×Value)} {pmL:Pars} (hpm:MapAt Φ pmb m) (hpr:MapRel (fun v x=>SliceOf RParam Φ 2 v x) m pmL) (hps:∀n ps,zK pmL n=some ps→∀p∈ps,p.name.size≤1000) (G:Glob Φ) {f:Bs} {q1 q2 q3 q4 q5 q6 q7 q8:Value} (hf:f.size≤1000) {e:Ex} {K0:List Res} {w:World} {d0:List Value} {p0 q0:List Flow} {z0:β} (re:REx Φ d0 e) (ht:pB e) (hok:pJ pmL e) (hit:items=p0++kS pmL f e++q0) (hm:Mem Φ (K0++KY p0 z0) w) :
  Calls prog 104 (List.toArray [.pointer (some ⟨gb,0,none⟩),.agg (List.toArray [.string f,q1,q2,q3,q4,q5,q6,q7,q8]),.agg d0.toArray,y]) w (fun ee w'=>∃z':β,ee=.returned (.bool true)∧True∧Mem Φ (K0++KY (p0++kS pmL f e) z') w'):=by
 have:∀(n:Nat) (e:Ex),e.sz < n→∀{K0:List Res} {w:World} {d0:List Value} {p0 q0:List Flow} {z0:β},REx Φ d0 e→pB e→pJ pmL e→items=p0++kS pmL f e++q0→Mem Φ (K0++KY p0 z0) w →
   Calls prog 104 (List.toArray [.pointer (some ⟨gb,0,none⟩),.agg (List.toArray [.string f,q1,q2,q3,q4,q5,q6,q7,q8]),.agg d0.toArray,y]) w (fun ee w'=>∃z':β,ee=.returned (.bool true)∧True∧Mem Φ (K0++KY (p0++kS pmL f e) z') w'):=by
  intro n
  induction n with
  | zero=>intro e h;omega
  | succ n ih=>intro e h K0 w d0 p0 q0 z0 re ht hok hit hm;exact j4x hy hv hpm hpr hps G hf (fun x hx K0 w d0 p0 q0 z0 r t o h1 h2=>ih x (by omega) r t o h1 h2) re ht hok hit hm
 exact this _ e (Nat.lt_succ_self _) re ht hok hit hm
end Go.Sw

namespace Go.Sw
open Go.Proofs.Tryz
open Go.Proofs
set_option maxRecDepth 20000
set_option maxHeartbeats 4000000
theorem y0i {i:Param} {x:Bs} {l:List Bs} {k:Nat} {t:Bs} (h:l[k]? = some t):cT i x k (l.drop k)=(if t=i.type then [(inN i.name,wM x k)] else [])++cT i x (k+1) (l.drop (k+1)):=by rw [zA h];rfl
theorem j5f {i:Param} {x:Bs} {l:List Bs} {k:Nat} (h:¬k < l.length):cT i x k (l.drop k)=[]:=by rw [zH h];rfl
theorem x1g {i:Param} {d:Data} (h:¬d.name=i.type):z5n i d=[]:=if_neg h
theorem j5e {i:Param} {d:Data} (h:d.name=i.type):z5n i d=(d.cons.drop 0).flatMap fun x=>cT i x.name 0 x.fields:=if_pos h
theorem q3x (c:Core):xI c=[]++((c.inputs.drop 0).flatMap (q2k c)++c.funs.flatMap (cS (wY c))):=rfl
theorem all_ok' {Φ:Fz} {K:List Res} {w:World} {gb:Nat} (hm:Mem Φ K w) :
  Calls prog 66 (List.toArray [.pointer (some ⟨gb,0,none⟩)]) w (fun ee w'=>∃b:Nat,ee=.returned (.func (.func 102) (List.toArray []) (List.toArray [.pointer (some ⟨b,0,none⟩)]))∧True∧Mem Φ (.blk b (ob [.pointer (some ⟨gb,0,none⟩)] 66)::K) w'):=by
 refine zN func66 ntmps66 fun Q hQ a he =>?_
 refine Bx fun b2 w hm a he =>?_
 refine zF ?_
 exact ⟨_,rfl,trivial,hm⟩
theorem all1_ok {β:Type} {Φ:Fz} {w:World} {c:Core} {d0:List Value} {y:Value} {KY:List Flow→β→List Res} {z0:β} {gb pmb b:Nat} {nd:Value} {m:List (Bs×Value)} (hy:Takes prog Φ y flV (xI c) KY) (hv:∀pre z K0 w,Mem Φ (K0++KY pre z) w→∃u v x,Sees Φ [.blk gb (ob (d0++[nd,u,.map (some pmb),v,x]) 75)] w) (rpc:RCore Φ d0 c) (hpm:MapAt Φ pmb m) (hpr:MapRel (fun v x=>SliceOf RParam Φ 2 v x) m (wY c)) (hps:∀n ps,zK (wY c) n=some ps→∀p∈ps,p.name.size≤1000) (hT:TidyC c) (hF:∀f∈c.funs,pB f.body∧pJ (wY c) f.body) (G:Glob Φ) (hm:Mem Φ (.blk b (ob [.pointer (some ⟨gb,0,none⟩)] 66)::KY [] z0) w) :
  Calls prog 102 (List.toArray [y,.pointer (some ⟨b,0,none⟩)]) w (fun ee w'=>∃z':β,ee=.returned (.tuple #[])∧True∧Mem Φ (.blk b (ob [.pointer (some ⟨gb,0,none⟩)] 66)::KY (xI c) z') w'):=by
 obtain ⟨yf_,ya_,yc_,hyv_⟩:=hy.fn
 subst hyv_
 obtain ⟨p3,c4,p9,c10,p15,c16,p21,c22,rfl,h2,h8,h14,h20,hm5,hn6,hm11,hn12,hm17,hn18,hm23,hn24⟩:=RCore.fm rpc
 refine z3m func102 rfl ntmps102 rfl (fun Q hQ a he =>?_)
 refine Bx fun b26 w hm a he =>?_
 refine go fun a he =>?_
 obtain ⟨u29,u30,u31,hv32⟩:=hv [] z0 (.blk b26 (ob [.func yf_ ya_ yc_] 143)::.blk b (ob [.pointer (some ⟨gb,0,none⟩)] 66)::[]) _ hm
 refine xW he (yR 0 he hv32 rfl rfl rfl isAgg23) rfl fun a he =>?_
 refine go fun a he =>?_
 refine xB (fun mm a w=>∃(i:Nat) (pr:List Flow) (zz:β),mm=c.inputs.length - i∧EnvR 113 [(1,.pointer (some ⟨b,0,none⟩)),(2,.pointer (some ⟨b26,0,none⟩)),(19,.slice p9 c.inputs.length c10),(20,.int .i64 ((c.inputs.length:Nat):Int)),(21,.int .i64 ((i:Nat):Int))] [] a∧Mem Φ (.blk b26 (ob [.func yf_ ya_ yc_] 143)::.blk b (ob [.pointer (some ⟨gb,0,none⟩)] 66)::KY pr zz) w∧(xI c=pr++((c.inputs.drop i).flatMap (q2k c)++c.funs.flatMap (cS (wY c))))) (c.inputs.length - 0) ⟨0,[],z0,rfl,he.pk,hm,q3x c⟩ ?_
 clear hm he
 rintro mm a w ⟨i,pr,zz,hmu,he,hm,hI34⟩ L33 hL33
 by_cases h36:i < c.inputs.length
 refine go fun a he =>?_
 obtain ⟨q40,rfl,x41,hx42,cs43,hl44,ha45,hr46⟩:=h8.el hn12 h36
 obtain rfl:=id hr46
 refine Alc fun b47 w hm a he =>?_
 refine Sto 0 fun w hm a he =>?_
 refine go fun a he =>?_
 obtain ⟨u49,u50,u51,hv52⟩:=hv pr zz (.blk b47 (ob [.string x41.name,.string x41.type] 36)::.blk b26 (ob [.func yf_ ya_ yc_] 143)::.blk b (ob [.pointer (some ⟨gb,0,none⟩)] 66)::[]) _ hm
 refine xW he (yR 0 he hv52 rfl rfl rfl isAgg22) rfl fun a he =>?_
 refine go fun a he =>?_
 refine xB (fun mm a w=>∃(k:Nat) (pr:List Flow) (zz:β),mm=c.datas.length - k∧EnvR 113 [(1,.pointer (some ⟨b,0,none⟩)),(2,.pointer (some ⟨b26,0,none⟩)),(4,.pointer (some ⟨b47,0,none⟩)),(19,.slice (some q40) c.inputs.length c10),(20,.int .i64 ((c.inputs.length:Nat):Int)),(21,.int .i64 ((i:Nat):Int)),(29,.slice p3 c.datas.length c4),(30,.int .i64 ((c.datas.length:Nat):Int)),(31,.int .i64 ((k:Nat):Int))] [] a∧Mem Φ (.blk b47 (ob [.string x41.name,.string x41.type] 36)::.blk b26 (ob [.func yf_ ya_ yc_] 143)::.blk b (ob [.pointer (some ⟨gb,0,none⟩)] 66)::KY pr zz) w∧(xI c=pr++((c.datas.drop k).flatMap (z5n x41)++((c.inputs.drop (i+1)).flatMap (q2k c)++c.funs.flatMap (cS (wY c)))))) (c.datas.length - 0) ⟨0,pr,zz,rfl,he.pk,hm,by rw [hI34,zA hx42,List.flatMap_cons,List.append_assoc];rfl⟩ ?_
 clear hm he
 rintro mm a w ⟨k,pr,zz,hmu,he,hm,hI54⟩ L53 hL53
 by_cases h56:k < c.datas.length
 refine go fun a he =>?_
 obtain ⟨q60,rfl,x61,hx62,cs63,hl64,ha65,hr66⟩:=h2.el hn6 h56
 obtain ⟨s67,rfl,h68⟩:=id hr66
 obtain ⟨p69,c70,rfl,hm71,hn72⟩:=h68.fm
 refine Alc fun b73 w hm a he =>?_
 refine Sto 0 fun w hm a he =>?_
 by_cases h76:x61.name=x41.type
 refine go fun a he =>?_
 refine xB (fun mm a w=>∃(j:Nat) (pr:List Flow) (zz:β),mm=x61.cons.length - j∧EnvR 113 [(1,.pointer (some ⟨b,0,none⟩)),(2,.pointer (some ⟨b26,0,none⟩)),(4,.pointer (some ⟨b47,0,none⟩)),(19,.slice (some q40) c.inputs.length c10),(20,.int .i64 ((c.inputs.length:Nat):Int)),(21,.int .i64 ((i:Nat):Int)),(29,.slice (some q60) c.datas.length c4),(30,.int .i64 ((c.datas.length:Nat):Int)),(31,.int .i64 ((k:Nat):Int)),(41,.slice p69 x61.cons.length c70),(42,.int .i64 ((x61.cons.length:Nat):Int)),(43,.int .i64 ((j:Nat):Int))] [] a∧Mem Φ (.blk b73 (ob [.string x61.name,.slice p69 x61.cons.length c70] 126)::.blk b47 (ob [.string x41.name,.string x41.type] 36)::.blk b26 (ob [.func yf_ ya_ yc_] 143)::.blk b (ob [.pointer (some ⟨gb,0,none⟩)] 66)::KY pr zz) w∧(xI c=pr++((x61.cons.drop j).flatMap (fun x=>cT x41 x.name 0 x.fields)++((c.datas.drop (k+1)).flatMap (z5n x41)++((c.inputs.drop (i+1)).flatMap (q2k c)++c.funs.flatMap (cS (wY c))))))) (x61.cons.length - 0) ⟨0,pr,zz,rfl,he.pk,hm,by rw [hI54,zA hx62,List.flatMap_cons,j5e h76,List.append_assoc]⟩ ?_
 clear hm he
 rintro mm a w ⟨j,pr,zz,hmu,he,hm,hI79⟩ L78 hL78
 by_cases h81:j < x61.cons.length
 refine go fun a he =>?_
 obtain ⟨q85,rfl,x86,hx87,cs88,hl89,ha90,hr91⟩:=h68.el hn72 h81
 obtain ⟨s92,rfl,h93⟩:=id hr91
 obtain ⟨p94,c95,rfl,hm96,hn97⟩:=h93.fm
 refine Alc fun b98 w hm a he =>?_
 refine Sto 0 fun w hm a he =>?_
 refine go fun a he =>?_
 refine xB (fun mm a w=>∃(l:Nat) (pr:List Flow) (zz:β),mm=x86.fields.length - l∧EnvR 113 [(1,.pointer (some ⟨b,0,none⟩)),(2,.pointer (some ⟨b26,0,none⟩)),(4,.pointer (some ⟨b47,0,none⟩)),(8,.pointer (some ⟨b98,0,none⟩)),(19,.slice (some q40) c.inputs.length c10),(20,.int .i64 ((c.inputs.length:Nat):Int)),(21,.int .i64 ((i:Nat):Int)),(29,.slice (some q60) c.datas.length c4),(30,.int .i64 ((c.datas.length:Nat):Int)),(31,.int .i64 ((k:Nat):Int)),(41,.slice (some q85) x61.cons.length c70),(42,.int .i64 ((x61.cons.length:Nat):Int)),(43,.int .i64 ((j:Nat):Int)),(48,.slice p94 x86.fields.length c95),(49,.int .i64 ((x86.fields.length:Nat):Int)),(50,.int .i64 ((l:Nat):Int))] [] a∧Mem Φ (.blk b98 (ob [.string x86.name,.slice p94 x86.fields.length c95] 128)::.blk b73 (ob [.string x61.name,.slice (some q85) x61.cons.length c70] 126)::.blk b47 (ob [.string x41.name,.string x41.type] 36)::.blk b26 (ob [.func yf_ ya_ yc_] 143)::.blk b (ob [.pointer (some ⟨gb,0,none⟩)] 66)::KY pr zz) w∧(xI c=pr++(cT x41 x86.name l (x86.fields.drop l)++((x61.cons.drop (j+1)).flatMap (fun x=>cT x41 x.name 0 x.fields)++((c.datas.drop (k+1)).flatMap (z5n x41)++((c.inputs.drop (i+1)).flatMap (q2k c)++c.funs.flatMap (cS (wY c)))))))) (x86.fields.length - 0) ⟨0,pr,zz,rfl,he.pk,hm,by rw [hI79,zA hx87,List.flatMap_cons,List.append_assoc];rfl⟩ ?_
 clear hm he
 rintro mm a w ⟨l,pr,zz,hmu,he,hm,hI101⟩ L100 hL100
 by_cases h103:l < x86.fields.length
 refine go fun a he =>?_
 obtain ⟨q107,rfl,x108,hx109,cs110,hl111,ha112,hr113⟩:=h93.el hn97 h103
 obtain rfl:cs110=[.string x108]:=hr113
 refine go fun a he =>?_
 refine qL [1,1,2,1,1,2,1,2,1,0,1,2,1,1,0,1,0,1,1] (.q 0 (.q 1 (.q 2 (.q 3 (.q 4 (.q 5 (.q 6 (.q 7 (.q 8 (.q 10 (.q 11 (.q 12 (.q 13 (.e 9 (.e 14 (.q 15 (.e 16 (.q 17 (.q 18 (.done)))))))))))))))))))) [0,1,2,3,4] he hm fun w hm =>?_
 have hz_:=hT.con _ (List.mem_of_getElem? hx62) _ (List.mem_of_getElem? hx87)
 have hi_:=hT.inp _ (List.mem_of_getElem? hx42)
 by_cases h115:x108=x41.type
 refine qH fun a he =>?_
 refine qH fun a he =>?_
 refine zT call40 (fun w hm a he =>?_) (c:=y0j (by omega) hm)
 refine zT call63 (fun w hm a he =>?_) (c:=z8r G (by omega) (by omega) hm)
 refine qH fun a he =>?_
 refine d_fireg he rfl rfl rfl rfl rfl (xS he rfl rfl (hy.go pr (inN x41.name,wM x86.name l) _ zz (.blk b98 (ob [.string x86.name,.slice (some q107) x86.fields.length c95] 128)::.blk b73 (ob [.string x61.name,.slice (some q85) x61.cons.length c70] 126)::.blk b47 (ob [.string x41.name,.string x41.type] 36)::.blk b26 (ob [.func yf_ ya_ yc_] 143)::.blk b (ob [.pointer (some ⟨gb,0,none⟩)] 66)::[]) w (by rw [hI101,y0i hx109,if_pos h115];simp only [List.append_assoc,List.cons_append,List.nil_append];rfl) hm) fun w hJ_=>⟨fun _=>hJ_.elim fun z_ hm=>hm.sn (Fz.Le.refl _),fun a he =>?_⟩)
 obtain ⟨z116,hm⟩:=hJ_
 replace hm:=hm.nf
 refine go fun a he =>?_
 refine hL100 _ _ _ (by subst hmu;omega) ⟨(l+1),((pr++[(inN x41.name,wM x86.name l)])),(z116),rfl,he.pk,hm,?_⟩
 rw [hI101,y0i hx109,if_pos h115];simp only [List.append_assoc,List.cons_append,List.nil_append]
 refine go fun a he =>?_
 refine hL100 _ _ _ (by subst hmu;omega) ⟨(l+1),(pr),(zz),rfl,he.pk,hm,?_⟩
 rw [hI101,y0i hx109,if_neg h115];simp only [List.append_assoc,List.cons_append,List.nil_append]
 refine go fun a he =>?_
 replace hm:=hm.dl [0]
 refine hL78 _ _ _ (by subst hmu;omega) ⟨(j+1),(pr),(zz),rfl,he.pk,hm,?_⟩
 have h_:=hI101
 rw [j5f h103,List.nil_append] at h_
 rw [h_]
 refine go fun a he =>?_
 replace hm:=hm.dl [0]
 refine hL53 _ _ _ (by subst hmu;omega) ⟨(k+1),(pr),(zz),rfl,he.pk,hm,?_⟩
 have h_:=hI79
 rw [zH h81,List.flatMap_nil,List.nil_append] at h_
 rw [h_]
 refine go fun a he =>?_
 replace hm:=hm.dl [0]
 refine hL53 _ _ _ (by subst hmu;omega) ⟨(k+1),(pr),(zz),rfl,he.pk,hm,?_⟩
 rw [hI54,zA hx62,List.flatMap_cons,x1g h76,List.nil_append]
 refine go fun a he =>?_
 replace hm:=hm.dl [0]
 refine hL33 _ _ _ (by subst hmu;omega) ⟨(i+1),(pr),(zz),rfl,he.pk,hm,?_⟩
 have h_:=hI54
 rw [zH h56,List.flatMap_nil,List.nil_append] at h_
 rw [h_]
 refine go fun a he =>?_
 obtain ⟨u122,u123,u124,hv125⟩:=hv pr zz (.blk b26 (ob [.func yf_ ya_ yc_] 143)::.blk b (ob [.pointer (some ⟨gb,0,none⟩)] 66)::[]) _ hm
 refine xW he (yR 0 he hv125 rfl rfl rfl isAgg24) rfl fun a he =>?_
 refine go fun a he =>?_
 refine xB (fun mm a w=>∃(i:Nat) (pr:List Flow) (zz:β) (ds:List Nat),mm=c.funs.length - i∧EnvR 113 [(1,.pointer (some ⟨b,0,none⟩)),(2,.pointer (some ⟨b26,0,none⟩)),(82,.slice p15 c.funs.length c16),(83,.int .i64 ((c.funs.length:Nat):Int)),(84,.int .i64 ((i:Nat):Int))] (tW ds) a∧Mem Φ (.blk b26 (ob [.func yf_ ya_ yc_] 143)::.blk b (ob [.pointer (some ⟨gb,0,none⟩)] 66)::xJ ds++KY pr zz) w∧(xI c=pr++(c.funs.drop i).flatMap (cS (wY c)))) (c.funs.length - 0) ⟨0,pr,zz,[],rfl,he.pk,hm,by rw [hI34,zH h36,List.flatMap_nil,List.nil_append];rfl⟩ ?_
 clear hm he
 rintro mm a w ⟨i,pr,zz,ds,hmu,he,hm,hI127⟩ L126 hL126
 by_cases h129:i < c.funs.length
 refine go fun a he =>?_
 obtain ⟨q133,rfl,x134,hx135,cs136,hl137,ha138,hr139⟩:=h14.el hn18 h129
 obtain ⟨s140,b146,rfl,h141,h147⟩:=id hr139
 obtain ⟨p142,c143,rfl,hm144,hn145⟩:=h141.fm
 obtain ⟨p150,c151,p156,c157,rfl,hi160,h149,h155,hm152,hn153,hm158,hn159⟩:=REx.fm h147
 refine Alc fun b161 w hm a he =>?_
 refine Sto 0 fun w hm a he =>?_
 have hf_:=hT.fn _ (List.mem_of_getElem? hx135)
 have hg_:=hF _ (List.mem_of_getElem? hx135)
 refine qH fun a he =>?_
 refine y6o fun a he =>?_
 refine Alc fun b163 w hm a he =>?_
 refine Sto 0 fun w hm a he =>?_
 refine qV call103 (fun y166 w hG167 hm a he =>?_) (c:=j2l h147 hm)
 refine go fun a he =>?_
 refine z5c (p:=97) (oG x134.name x134.body) (fun x=>.string x) [.blk y166.1 (ob [.string x134.name,.string x134.name,.slice p142 x134.params.length c143,.string x134.result,.int .i64 (x134.body.kind),.int .i64 (x134.body.num),.string x134.body.name,.slice p150 x134.body.args.length c151,.slice p156 x134.body.arms.length c157] 131),.blk y166.2 (ob [.int .i64 (x134.body.kind),.int .i64 (x134.body.num),.string x134.body.name,.slice p150 x134.body.args.length c151,.slice p156 x134.body.arms.length c157] 110)] (fun pre z=>.blk b163 (ob [.string x134.name,.string x134.name,.slice p142 x134.params.length c143,.string x134.result,.int .i64 (x134.body.kind),.int .i64 (x134.body.num),.string x134.body.name,.slice p150 x134.body.args.length c151,.slice p156 x134.body.arms.length c157] 131)::.blk b161 (ob [.string x134.name,.slice p142 x134.params.length c143,.string x134.result,.int .i64 (x134.body.kind),.int .i64 (x134.body.num),.string x134.body.name,.slice p150 x134.body.args.length c151,.slice p156 x134.body.arms.length c157] 112)::.blk b26 (ob [.func yf_ ya_ yc_] 143)::.blk b (ob [.pointer (some ⟨gb,0,none⟩)] 66)::xJ ds++KY (pr++pre.map (fun s=>(s,x134.name))) z) zz he (by simpa using hm.nf) rfl call145 rfl (fun pre x post z l_ o1_ o2_ K1_ a w hit he hm =>?_) (fun y_ KY_ w hy_ hm =>?_) (fun Dk z a w he hm =>?_)
 replace hm:=hm.nf
 replace hm:Mem Φ (.blk l_ o1_::.blk b163 (ob [.string x134.name,.string x134.name,.slice p142 x134.params.length c143,.string x134.result,.int .i64 (x134.body.kind),.int .i64 (x134.body.num),.string x134.body.name,.slice p150 x134.body.args.length c151,.slice p156 x134.body.arms.length c157] 131)::.blk b161 (ob [.string x134.name,.slice p142 x134.params.length c143,.string x134.result,.int .i64 (x134.body.kind),.int .i64 (x134.body.num),.string x134.body.name,.slice p150 x134.body.args.length c151,.slice p156 x134.body.arms.length c157] 112)::.blk b26 (ob [.func yf_ ya_ yc_] 143)::.blk b (ob [.pointer (some ⟨gb,0,none⟩)] 66)::(K1_++xJ ds)++KY (pr++pre.map (fun s=>(s,x134.name))) z) w:=Mem.rot (A:=[.blk l_ o1_,.blk b163 (ob [.string x134.name,.string x134.name,.slice p142 x134.params.length c143,.string x134.result,.int .i64 (x134.body.kind),.int .i64 (x134.body.num),.string x134.body.name,.slice p150 x134.body.args.length c151,.slice p156 x134.body.arms.length c157] 131),.blk b161 (ob [.string x134.name,.slice p142 x134.params.length c143,.string x134.result,.int .i64 (x134.body.kind),.int .i64 (x134.body.num),.string x134.body.name,.slice p150 x134.body.args.length c151,.slice p156 x134.body.arms.length c157] 112),.blk b26 (ob [.func yf_ ya_ yc_] 143),.blk b (ob [.pointer (some ⟨gb,0,none⟩)] 66)]) hm
 refine regI ?_
 refine yO he (by intro c h;cases h) (vJ he rfl) rfl fun a he =>?_
 refine wV ?_
 refine ⟨_,hm,fun w hm =>?_⟩
 replace hm:=hm.nf
 refine blkI ?_
 refine sqI fun L168 hL168 =>?_
 refine regI ?_
 refine yO he (by intro c h;cases h) (yR 3 he hm.toSees rfl rfl rfl isAgg143) rfl fun a he =>
   yO he (by intro c h;cases h) (jB he rfl) rfl fun a he =>
   yO he (by intro c h;cases h) (qO he rfl q5e rfl) rfl fun a he =>
   yO he (by intro c h;cases h) (yR 2 he hm.toSees rfl rfl rfl isAgg9) rfl fun a he =>
   yO he (by intro c h;cases h) (qM (vs:=[(0,.string x),(1,.string x134.name)]) (cs:=[.string x,.string x134.name]) he rfl (by kernel_rfl)) rfl fun a he =>?_
 refine oZ he rfl rfl rfl (by intro c h;cases h) (xS he rfl rfl (hy.go (pr++pre.map (fun s=>(s,x134.name))) (x,x134.name) _ z (.blk l_ o2_::.blk b163 (ob [.string x134.name,.string x134.name,.slice p142 x134.params.length c143,.string x134.result,.int .i64 (x134.body.kind),.int .i64 (x134.body.num),.string x134.body.name,.slice p150 x134.body.args.length c151,.slice p156 x134.body.arms.length c157] 131)::.blk b161 (ob [.string x134.name,.slice p142 x134.params.length c143,.string x134.result,.int .i64 (x134.body.kind),.int .i64 (x134.body.num),.string x134.body.name,.slice p150 x134.body.args.length c151,.slice p156 x134.body.arms.length c157] 112)::.blk b26 (ob [.func yf_ ya_ yc_] 143)::.blk b (ob [.pointer (some ⟨gb,0,none⟩)] 66)::(K1_++xJ ds)) w (by rw [hI127,zA hx135,List.flatMap_cons,cS,toP,hit];simp only [List.map_append,List.map_cons,List.append_assoc,List.cons_append];rfl) hm) fun w hJ_ a he =>?_)
 obtain ⟨z169,hm⟩:=hJ_
 replace hm:=hm.nf
 refine yO he (by intro c h;cases h) (tY he rfl) rfl fun a he =>?_
 refine wV ?_
 refine hL168 _ _ ?_
 refine if_fI he rfl ?_
 refine skipI ?_
 refine ⟨rfl,z169,?_⟩
 rw [List.map_append,List.map_cons,List.map_nil,← List.append_assoc]
 exact Mem.unrot (A:=[.blk l_ o2_,.blk b163 (ob [.string x134.name,.string x134.name,.slice p142 x134.params.length c143,.string x134.result,.int .i64 (x134.body.kind),.int .i64 (x134.body.num),.string x134.body.name,.slice p150 x134.body.args.length c151,.slice p156 x134.body.arms.length c157] 131),.blk b161 (ob [.string x134.name,.slice p142 x134.params.length c143,.string x134.result,.int .i64 (x134.body.kind),.int .i64 (x134.body.num),.string x134.body.name,.slice p150 x134.body.args.length c151,.slice p156 x134.body.arms.length c157] 112),.blk b26 (ob [.func yf_ ya_ yc_] 143),.blk b (ob [.pointer (some ⟨gb,0,none⟩)] 66)]) hm
 exact (q5l hf_.1 (by assumption) hg_.1 hy_ hm).mono fun e_ w h=>let ⟨z,h1,_,h2⟩:=h;⟨_,z,h1,h2⟩
 replace hm:Mem Φ (.blk y166.1 (ob [.string x134.name,.string x134.name,.slice p142 x134.params.length c143,.string x134.result,.int .i64 (x134.body.kind),.int .i64 (x134.body.num),.string x134.body.name,.slice p150 x134.body.args.length c151,.slice p156 x134.body.arms.length c157] 131)::.blk y166.2 (ob [.int .i64 (x134.body.kind),.int .i64 (x134.body.num),.string x134.body.name,.slice p150 x134.body.args.length c151,.slice p156 x134.body.arms.length c157] 110)::.blk b163 (ob [.string x134.name,.string x134.name,.slice p142 x134.params.length c143,.string x134.result,.int .i64 (x134.body.kind),.int .i64 (x134.body.num),.string x134.body.name,.slice p150 x134.body.args.length c151,.slice p156 x134.body.arms.length c157] 131)::.blk b161 (ob [.string x134.name,.slice p142 x134.params.length c143,.string x134.result,.int .i64 (x134.body.kind),.int .i64 (x134.body.num),.string x134.body.name,.slice p150 x134.body.args.length c151,.slice p156 x134.body.arms.length c157] 112)::.blk b26 (ob [.func yf_ ya_ yc_] 143)::.blk b (ob [.pointer (some ⟨gb,0,none⟩)] 66)::xJ (Dk::ds)++KY (pr++(oG x134.name x134.body).map (fun s=>(s,x134.name))) z) w:=Mem.mid (A:=[.blk Dk (.deferred (some []))]) (B:=[.blk y166.1 (ob [.string x134.name,.string x134.name,.slice p142 x134.params.length c143,.string x134.result,.int .i64 (x134.body.kind),.int .i64 (x134.body.num),.string x134.body.name,.slice p150 x134.body.args.length c151,.slice p156 x134.body.arms.length c157] 131),.blk y166.2 (ob [.int .i64 (x134.body.kind),.int .i64 (x134.body.num),.string x134.body.name,.slice p150 x134.body.args.length c151,.slice p156 x134.body.arms.length c157] 110),.blk b163 (ob [.string x134.name,.string x134.name,.slice p142 x134.params.length c143,.string x134.result,.int .i64 (x134.body.kind),.int .i64 (x134.body.num),.string x134.body.name,.slice p150 x134.body.args.length c151,.slice p156 x134.body.arms.length c157] 131),.blk b161 (ob [.string x134.name,.slice p142 x134.params.length c143,.string x134.result,.int .i64 (x134.body.kind),.int .i64 (x134.body.num),.string x134.body.name,.slice p150 x134.body.args.length c151,.slice p156 x134.body.arms.length c157] 112),.blk b26 (ob [.func yf_ ya_ yc_] 143),.blk b (ob [.pointer (some ⟨gb,0,none⟩)] 66)]) (C:=xJ ds++KY (pr++(oG x134.name x134.body).map (fun s=>(s,x134.name))) z) hm
 replace hm:=hm.nf
 refine qV call104 (fun y171 w hG172 hm a he =>?_) (c:=j8v hy hv hpm hpr hps G (hf_.1) (K0:=(.blk y166.1 (ob [.string x134.name,.string x134.name,.slice p142 x134.params.length c143,.string x134.result,.int .i64 (x134.body.kind),.int .i64 (x134.body.num),.string x134.body.name,.slice p150 x134.body.args.length c151,.slice p156 x134.body.arms.length c157] 131)::.blk y166.2 (ob [.int .i64 (x134.body.kind),.int .i64 (x134.body.num),.string x134.body.name,.slice p150 x134.body.args.length c151,.slice p156 x134.body.arms.length c157] 110)::.blk b163 (ob [.string x134.name,.string x134.name,.slice p142 x134.params.length c143,.string x134.result,.int .i64 (x134.body.kind),.int .i64 (x134.body.num),.string x134.body.name,.slice p150 x134.body.args.length c151,.slice p156 x134.body.arms.length c157] 131)::.blk b161 (ob [.string x134.name,.slice p142 x134.params.length c143,.string x134.result,.int .i64 (x134.body.kind),.int .i64 (x134.body.num),.string x134.body.name,.slice p150 x134.body.args.length c151,.slice p156 x134.body.arms.length c157] 112)::.blk b26 (ob [.func yf_ ya_ yc_] 143)::.blk b (ob [.pointer (some ⟨gb,0,none⟩)] 66)::xJ (Dk::ds))) (p0:=(pr++toP x134.name x134.name x134.body)) (q0:=_) h147 (hg_.1) (hg_.2) (by rw [hI127,zA hx135,List.flatMap_cons,cS];simp only [List.append_assoc,List.cons_append,List.nil_append];rfl) hm)
 refine go fun a he =>?_
 replace hm:=hm.dl [3,2,1,0]
 refine hL126 _ _ _ (by subst hmu;omega) ⟨(i+1),(((pr++toP x134.name x134.name x134.body)++kS (wY c) x134.name x134.body)),(y171),((Dk::ds)),rfl,he.pk,hm,?_⟩
 rw [hI127,zA hx135,List.flatMap_cons,cS];simp only [List.append_assoc,List.cons_append,List.nil_append]
 refine go fun a he =>?_
 replace hm:=hm.dl [0]
 replace hm:Mem Φ (xJ ds++(.blk b (ob [.pointer (some ⟨gb,0,none⟩)] 66)::KY pr zz)) w:=Mem.mid (A:=[.blk b (ob [.pointer (some ⟨gb,0,none⟩)] 66)]) (B:=xJ ds) (C:=KY pr zz) hm
 refine hQ _ _ _ (retX0N (ds:=ds) he results102 hm fun w hm =>?_)
 have h_:=hI127
 rw [zH h129,List.flatMap_nil,List.append_nil] at h_
 rw [h_];exact ⟨_,rfl,trivial,hm⟩
end Go.Sw

namespace Go.Sw
open Go.Proofs.Tryz
open Go.Proofs
set_option maxRecDepth 20000
set_option maxHeartbeats 4000000
variable {Φ:Fz} {K:List Res} {w:World}
def ixG (s:Bs):List Bs→Nat→Int
 | [],_=>-1
 | x::l,i=>if s=x then ((i:Nat):Int) else ixG s l (i+1)
theorem y0v (s:Bs):∀(l:List Bs) (i:Nat),decide (0≤ixG s l i)=decide (s∈l)
 | [],_=>by simp [ixG]
 | x::l,i=>by
  by_cases h:s=x
  simp [ixG,h]
  simp only [ixG,if_neg h,y0v s l (i+1)];simp [h]
theorem RFlow.ones (Φ:Fz) (cs:List Value) (x:Flow) (h:RFlow Φ cs x):cs.all Value.oneCell'=true:=by rw [h];rfl
theorem y0o {Φ:Fz} {w:World} {σ:Type} {step:σ→Flow→Bool×σ} {Kf:σ→List Res} {g:Nat} {fs cs:List Value} {s0:σ} {v0:Value} {l:List Flow} (hl:SliceOf RFlow Φ 2 v0 l)
  (hg:∀args w,(callFunc g args).run prog w=.ok (.enter g args) w)
  (hf:∀s x c w,x∈l→RFlow Φ c x→Mem Φ (Kf s) w→Calls prog g (fs++[Value.agg c.toArray]++cs).toArray w (fun e w'=>e=.returned (.bool (step s x).1)∧Mem Φ (Kf (step s x).2) w'))
  (hm:Mem Φ (Kf s0) w):Calls prog 106 (List.toArray [v0,.func (.func g) fs.toArray cs.toArray]) w (fun e w'=>e=.returned (.int .i64 (yM step s0 l 0).1)∧Mem Φ (Kf (yM step s0 l 0).2) w'):=by
 obtain ⟨p0,c0,rfl,hm0,hn0⟩:=hl.fm
 refine zN func106 ntmps106 fun Q hQ a he =>?_
 refine go fun a he =>?_
 refine xB (fun mm a w=>∃(i:Nat) (s:σ),mm=l.length - i∧EnvR 19 [(0,.slice p0 l.length c0),(1,.func (.func g) (List.toArray fs) (List.toArray cs)),(7,.int .i64 ((l.length:Nat):Int)),(8,.int .i64 ((i:Nat):Int))] [] a∧Mem Φ (Kf s) w∧(yM step s0 l 0=yM step s (l.drop i) i)) (l.length - 0) ⟨0,s0,rfl,he.pk,hm,rfl⟩ ?_
 clear hm he
 rintro mm a w ⟨i,s,hmu,he,hm,hI5⟩ L4 hL4
 by_cases h7:i < l.length
 refine go fun a he =>?_
 obtain ⟨q12,rfl,x13,hx14,cs15,hl16,ha17,hr18⟩:=hl.el hn0 h7
 obtain rfl:=id hr18
 refine q1r hg (fun hB19 w hm a he =>?_) (fun hB19 w hm a he =>?_) (c:=by exact hf s _ _ _ (List.mem_of_getElem? hx14) hr18 hm)
 refine zF ?_
 have hf_:=hI5
 rw [zA hx14] at hf_
 simp only [yM,hB19,if_true] at hf_
 rw [hf_]
 exact ⟨rfl,hm⟩
 refine go fun a he =>?_
 refine hL4 _ _ _ (by subst hmu;omega) ⟨(i+1),((step s x13).2),rfl,he.pk,hm,?_⟩
 rw [hI5,zA hx14];simp [yM,hB19]
 refine zF ?_
 have hf_:=hI5
 rw [zH h7] at hf_
 simp only [yM] at hf_
 rw [hf_]
 exact ⟨rfl,hm⟩
theorem z0u {Φ:Fz} {w:World} {σ:Type} {step:σ→Flow→Bool×σ} {Kf:σ→List Res} {g:Nat} {fs cs:List Value} {s0:σ} {v0:Value} {l:List Flow} (hl:SliceOf RFlow Φ 2 v0 l)
  (hg:∀args w,(callFunc g args).run prog w=.ok (.enter g args) w)
  (hf:∀s x c w,x∈l→RFlow Φ c x→Mem Φ (Kf s) w→Calls prog g (fs++[Value.agg c.toArray]++cs).toArray w (fun e w'=>e=.returned (.bool (step s x).1)∧Mem Φ (Kf (step s x).2) w'))
  (hm:Mem Φ (Kf s0) w):Calls prog 71 (List.toArray [v0,.func (.func g) fs.toArray cs.toArray]) w (fun e w'=>e=.returned (.bool (z3s step s0 l))∧Mem Φ (Kf (yM step s0 l 0).2) w'):=by
 obtain ⟨p0,c0,rfl,hm0,hn0⟩:=hl.fm
 refine Calls.mono (R:=fun e w'=>e=.returned (.bool (decide (0≤(yM step s0 l 0).1)))∧Mem Φ (Kf (yM step s0 l 0).2) w') ?_ (fun e w' h=>by rw [vG] at h;exact h)
 refine zN func71 ntmps71 fun Q hQ a he =>?_
 refine zT call106 (fun w hm a he =>?_) (c:=y0o (Φ:=Φ) (step:=step) (Kf:=Kf) (s0:=s0) (l:=l) hl hg hf hm)
 refine Qq (fun a he =>?_) (o:=by exact fun he hs=>sZ he rfl rfl)
 refine zF ?_
 exact ⟨rfl,hm⟩
theorem q1v {p:Flow→Bool} {g:Nat} {fs cs:List Value} {v0:Value} {l:List Flow} (hl:SliceOf RFlow Φ 2 v0 l)
  (hg:∀args w,(callFunc g args).run prog w=.ok (.enter g args) w)
  (hf:∀x c w,x∈l→RFlow Φ c x→Mem Φ K w→Calls prog g (fs++[Value.agg c.toArray]++cs).toArray w (fun e w'=>e=.returned (.bool (p x))∧Mem Φ K w'))
  (hm:Mem Φ K w):Calls prog 71 (List.toArray [v0,.func (.func g) fs.toArray cs.toArray]) w (fun e w'=>e=.returned (.bool (l.any p))∧Mem Φ K w') :=
 (z0u (σ:=Unit) (step:=fun s x=>(p x,s)) (Kf:=fun _=>K) (s0:=()) hl hg (fun _ x c w hx hc hm=>hf x c w hx hc hm) hm).mono (fun e w' h=>by rw [pT] at h;exact h)
theorem x1h {v:Value} {l:List Bs} {s:Bs} (rl:SliceOf RStr Φ 1 v l) (hm:Mem Φ K w) :
  Calls prog 83 (List.toArray [v,.string s]) w (fun ee w'=>ee=.returned (.int .i64 (ixG s l 0))∧Mem Φ K w'):=by
 obtain ⟨p1,c2,rfl,hmx3,hn4⟩:=rl.fm
 refine zN func83 ntmps83 fun Q hQ a he =>?_
 refine go fun a he =>?_
 refine yG (he.ks [0,1,7]) hm (fun R mm a w=>∃(i:Nat),mm=l.length - i∧R Φ [(8,.int .i64 ((i:Nat):Int))] [] a w∧(ixG s l 0=ixG s (l.drop i) i)) (l.length - 0) ⟨0,rfl,⟨he.pk,hm⟩,rfl⟩ ?_
 clear hm he
 rintro mm a w ⟨i,hmu,⟨he,hm⟩,hI9⟩ L8 hL8
 by_cases h11:i < l.length
 refine go fun a he =>?_
 obtain ⟨q16,rfl,x17,hx18,cs19,hl20,ha21,hr22⟩:=rl.el hn4 h11
 obtain rfl:cs19=[.string x17]:=hr22
 by_cases h23:s=x17
 refine zF ?_
 rw [hI9,zA hx18,ixG,if_pos h23];exact ⟨rfl,hm⟩
 refine go fun a he =>?_
 refine hL8 _ _ _ (by subst hmu;omega) ⟨(i+1),rfl,⟨he.pk,hm⟩,?_⟩
 rw [hI9,zA hx18,ixG,if_neg h23]
 refine zF ?_
 rw [hI9,zH h11];exact ⟨rfl,hm⟩
theorem cQ {v:Value} {l:List Bs} {s:Bs} (rl:SliceOf RStr Φ 1 v l) (hm:Mem Φ K w) :
  Calls prog 48 (List.toArray [v,.string s]) w (fun ee w'=>ee=.returned (.bool (decide (s∈l)))∧Mem Φ K w'):=by
 obtain ⟨p1,c2,rfl,hmx3,hn4⟩:=rl.fm
 rw [← y0v s l 0]
 refine zN func48 ntmps48 fun Q hQ a he =>?_
 refine zT call83 (fun w hm a he =>?_) (c:=x1h (l:=l) rl hm)
 refine Qq (fun a he =>?_) (o:=by exact fun he hs=>sZ he rfl rfl)
 refine zF ?_
 exact ⟨rfl,hm⟩
theorem j8o {v u:Value} {l m:List Bs} (rl:SliceOf RStr Φ 1 v l) (rm:SliceOf RStr Φ 1 u m) (hm:Mem Φ K w) :
  Calls prog 68 (List.toArray [v,u]) w (fun ee w'=>ee=.returned (.bool (decide (l=m)))∧Mem Φ K w'):=by
 obtain ⟨p1,c2,rfl,hmx3,hn4⟩:=rl.fm
 obtain ⟨p5,c6,rfl,hmx7,hn8⟩:=rm.fm
 refine zN func68 ntmps68 fun Q hQ a he =>?_
 by_cases h12:l.length=m.length
 refine go fun a he =>?_
 refine yG (he.ks [0,1,12]) hm (fun R mm a w=>∃(i:Nat),mm=l.length - i∧R Φ [(13,.int .i64 ((i:Nat):Int))] [] a w∧((l=m↔l.drop i=m.drop i))) (l.length - 0) ⟨0,rfl,⟨he.pk,hm⟩,Iff.rfl⟩ ?_
 clear hm he
 rintro mm a w ⟨i,hmu,⟨he,hm⟩,hI16⟩ L15 hL15
 by_cases h18:i < l.length
 refine Reg [1,1,1,2,1,1,1,2,1] [] fun w hm a he =>?_
 refine go fun a he =>?_
 obtain ⟨q23,rfl,x24,hx25,cs26,hl27,ha28,hr29⟩:=rl.el hn4 h18
 obtain rfl:cs26=[.string x24]:=hr29
 refine go fun a he =>?_
 have hb30:i < m.length:=by omega
 obtain ⟨q31,rfl,x32,hx33,cs34,hl35,ha36,hr37⟩:=rm.el hn8 hb30
 obtain rfl:cs34=[.string x32]:=hr37
 by_cases h38:x24=x32
 refine go fun a he =>?_
 refine hL15 _ _ _ (by subst hmu;omega) ⟨(i+1),rfl,⟨he.pk,hm⟩,?_⟩
 rw [hI16,zA hx25,zA hx33,h38];simp
 refine zF ?_
 rw [decide_eq_false (fun e_=>h38 (by have h_:=hI16.1 e_;rw [zA hx25,zA hx33] at h_;exact (List.cons.inj h_).1))];exact ⟨rfl,hm⟩
 refine zF ?_
 rw [decide_eq_true (hI16.2 (by rw [zH h18,zH (by omega)]))];exact ⟨rfl,hm⟩
 refine zF ?_
 rw [decide_eq_false (fun e_=>h12 (by rw [e_]))];exact ⟨rfl,hm⟩
end Go.Sw

namespace Go.Sw
open Go.Proofs
set_option maxRecDepth 20000
set_option maxHeartbeats 4000000
def walkV (b:Addr):Value:=.func (.func 67) (List.toArray [.pointer (some b)]) (List.toArray [])
def RGraph (Φ:Fz) (b:Addr) (g:Graph):Prop:=∃d0 nd fl pm nb nm,At Φ b (d0++[nd,fl,pm,.map (some nb),walkV b])∧RCore Φ d0 g.core∧SliceOf RStr Φ 1 nd g.nodes∧SliceOf RFlow Φ 2 fl g.flows∧MapAt Φ nb nm∧MapRel (fun v x=>SliceOf RStr Φ 1 v x) nm g.next
theorem cF {Φ:Fz} {K:List Res} {w:World} {b:Addr} {g:Graph} (rg:RGraph Φ b g) (hz:∀p∈g.core.inputs,p.name.size≤1000) (hn:g.core.inputs.length≤1000000000) (hm:Mem Φ K w) :
  Calls Tryz.prog 39 (List.toArray [.pointer (some b)]) w (fun ee w'=>∃v:Value,ee=.returned v∧True∧Mem Φ (.gs v 9 1 (strs (zO g.core))::K) w'):=by
 obtain ⟨d1,nd2,fl3,pm4,nb5,nm6,hat7,rc8,rn9,rf10,ma11,mr12⟩:=id rg
 have rc8o:=rc8
 obtain ⟨p15,c16,p21,c22,p27,c28,p33,c34,rfl,h14,h20,h26,h32,hm17,hn18,hm23,hn24,hm29,hn30,hm35,hn36⟩:=RCore.fm rc8
 obtain ⟨p37,c38,rfl,hmx39,hn40⟩:=rn9.fm
 obtain ⟨p41,c42,rfl,hmx43,hn44⟩:=rf10.fm
 refine zN Tryz.func39 Tryz.ntmps39 fun Q hQ a he =>?_
 refine go fun a he =>?_
 replace hm:=hm.nilRow 9 1
 replace hm:=hm.nf
 refine go fun a he =>?_
 refine yG (he.ks [10,11]) hm (fun R mm a w=>∃(i:Nat) (u:Value) (acc:List Bs),mm=g.core.inputs.length - i∧R Φ [(3,u),(12,.int .i64 ((i:Nat):Int))] [(0,.gs (u) 9 1 (strs acc))] a w∧(zO g.core=acc++(g.core.inputs.drop i).map (fun p=>inN p.name))) (g.core.inputs.length - 0) ⟨0,.slice none 0 0,[],rfl,⟨he.pk,hm⟩,rfl⟩ ?_
 clear hm he
 rintro mm a w ⟨i,u,acc,hmu,⟨he,hm⟩,hI50⟩ L49 hL49
 replace hm:=hm.nf
 by_cases h52:i < g.core.inputs.length
 refine go fun a he =>?_
 obtain ⟨q56,rfl,x57,hx58,cs59,hl60,ha61,hr62⟩:=h20.el hn24 h52
 obtain rfl:=id hr62
 refine Alc fun b63 w hm a he =>?_
 refine Sto 0 fun w hm a he =>?_
 have hz_:=hz _ (List.mem_of_getElem? hx58)
 refine qH fun a he =>?_
 refine zT Tryz.call40 (fun w hm a he =>?_) (c:=y0j (by omega) hm)
 refine kW fun v64 w hm a he =>?_
 refine wL 2 vV (fun v65 w hm a he =>?_) (hb:=by have hq_:=congrArg List.length hI50;simp only [zO,List.length_map,List.length_append,List.length_drop,yA,List.length_cons,List.length_nil] at hq_ ⊢;omega)
 replace hm:Mem Φ (.gs (v64) 9 1 [.string (inN x57.name)]::.blk b63 (ob [.string x57.name,.string x57.type] 36)::.gs (v65) 9 1 (strs (acc++[inN x57.name]))::K) w:=by rw [qK] at hm;exact hm
 refine go fun a he =>?_
 replace hm:=hm.dl [1,0]
 refine hL49 _ _ _ (by subst hmu;omega) ⟨(i+1),(v65),((acc++[inN x57.name])),rfl,⟨he.pk,hm⟩,?_⟩
 rw [hI50,zA hx58];simp
 refine zF ?_
 have h_:=hI50
 rw [zH h52,List.map_nil,List.append_nil] at h_
 rw [h_];exact ⟨_,rfl,trivial,hm⟩
end Go.Sw

namespace Go.Sw
inductive PlanT where
 | q (i:Nat) (p:PlanT)
 | e3 (i j k:Nat) (p q r:PlanT)
 | e4 (i j k m:Nat) (p q r s:PlanT)
 | pl (p:Plan)
def wP (md:Region.Mode) (ops:Array Oper) (kd:List Nat):PlanT→Array Bool→Bool
 | .pl p,l=>cB md ops kd p l
 | .q i p,l=>(Region.ready md ops l).contains i&&Region.free md ops l i&&yX kd i != 0&&wP md ops kd p (l.setIfInBounds i true)
 | .e3 i j k p q r,l=>Region.ready md ops l==[i,j,k]&&[i,j,k].all (yX kd ·==0)&&wP md ops kd p (l.setIfInBounds i true)&&wP md ops kd q (l.setIfInBounds j true)&&wP md ops kd r (l.setIfInBounds k true)
 | .e4 i j k m p q r s,l=>Region.ready md ops l==[i,j,k,m]&&[i,j,k,m].all (yX kd ·==0)&&wP md ops kd p (l.setIfInBounds i true)&&wP md ops kd q (l.setIfInBounds j true)&&wP md ops kd r (l.setIfInBounds k true)&&wP md ops kd s (l.setIfInBounds m true)
def PlanT.len:PlanT→Nat
 | .pl p=>p.len
 | .q _ p=>p.len+1
 | .e3 _ _ _ p _ _=>p.len+1
 | .e4 _ _ _ _ p _ _ _=>p.len+1
def PlanT.even:PlanT→Bool
 | .pl p=>p.even
 | .q _ p=>p.even
 | .e3 _ _ _ p u r=>p.even&&u.even&&r.even&&p.len==u.len&&p.len==r.len
 | .e4 _ _ _ _ p u r s=>p.even&&u.even&&r.even&&s.even&&p.len==u.len&&p.len==r.len&&p.len==s.len
section
variable {P:Program} {md:Region.Mode} {ops:Array Oper} {B:World→Prop} {kd:List Nat} {Qp:List PanicEntry→World→Prop}
def jQ (P:Program) (md:Region.Mode) (ops:Array Oper) (B:World→Prop) (kd:List Nat) (Qp:List PanicEntry→World→Prop) (Q:Act→World→Prop):PlanT→Act→World→Prop
 | .pl p,a,w=>zX P md ops B kd Qp Q p a w
 | .q i p,a,w=>xO P md ops B kd Qp i (jQ P md ops B kd Qp Q p) a w
 | .e3 i j k p q r,a,w=>xO P md ops B kd Qp i (jQ P md ops B kd Qp Q p) a w∧xO P md ops B kd Qp j (jQ P md ops B kd Qp Q q) a w∧xO P md ops B kd Qp k (jQ P md ops B kd Qp Q r) a w
 | .e4 i j k m p q r s,a,w=>xO P md ops B kd Qp i (jQ P md ops B kd Qp Q p) a w∧xO P md ops B kd Qp j (jQ P md ops B kd Qp Q q) a w∧xO P md ops B kd Qp k (jQ P md ops B kd Qp Q r) a w∧xO P md ops B kd Qp m (jQ P md ops B kd Qp Q s) a w
theorem jM {Q:Act→World→Prop} (hs:Region.noSelect ops=true):∀(p:PlanT) (listed:Array Bool) (a:Act) (w:World),p.even=true→wP md ops kd p listed=true →
  jQ P md ops B kd Qp Q p a w→y8l P md ops B kd Qp Q p.len listed a w
 | .pl p,l,a,w,hev,hp,h=>xK hs p l a w hev hp h
 | .q i p,l,a,w,hev,hp,h=>by
  simp only [wP,Bool.and_eq_true,List.contains_iff_mem,bne_iff_ne,ne_eq] at hp
  obtain ⟨⟨⟨hr,hf⟩,hk⟩,hp⟩:=hp
  obtain ⟨_,o,ho,_⟩:=mem_ready.1 hr
  unfold jQ xO at h
  simp only [ho] at h
  by_cases hw:Region.wanted o (yielded ops a.tmps)=true
  ·rw [if_pos hw,if_neg hk] at h
   obtain ⟨v,h1,h2⟩:=h
   exact oC ho (Region.noSelect_spec hs) hk _ _ _ _ (Region.free_spec ho hf) hr (.inl ⟨hw,h1⟩) (jM hs p _ _ _ hev hp h2)
  ·rw [if_neg hw] at h
   exact oC ho (Region.noSelect_spec hs) hk _ _ _ _ (Region.free_spec ho hf) hr (.inr ⟨by simpa using hw,rfl⟩) (jM hs p _ _ _ hev hp h)
 | .e3 i j k p q r,l,a,w,hev,hp,h=>by
  simp only [wP,Bool.and_eq_true,beq_iff_eq] at hp
  obtain ⟨⟨⟨⟨hr,_⟩,hp⟩,hq⟩,hrr⟩:=hp
  simp only [PlanT.even,Bool.and_eq_true,beq_iff_eq] at hev
  obtain ⟨⟨⟨⟨e1,e2⟩,e3⟩,l2⟩,l3⟩:=hev
  obtain ⟨h1,h2,h3⟩:=h
  simp only [PlanT.len,y8l]
  refine ⟨fun h0=>(by rw [h0] at hr;cases hr),fun x hx =>?_⟩
  rw [hr] at hx
  simp only [List.mem_cons,List.not_mem_nil,or_false] at hx
  rcases hx with rfl | rfl | rfl
  ·exact kN (fun a' w' _ hh=>jM hs p _ _ _ e1 hp hh) h1
  ·exact kN (fun a' w' _ hh=>by rw [l2];exact jM hs q _ _ _ e2 hq hh) h2
  ·exact kN (fun a' w' _ hh=>by rw [l3];exact jM hs r _ _ _ e3 hrr hh) h3
 | .e4 i j k m p q r s,l,a,w,hev,hp,h=>by
  simp only [wP,Bool.and_eq_true,beq_iff_eq] at hp
  obtain ⟨⟨⟨⟨⟨hr,_⟩,hp⟩,hq⟩,hrr⟩,hss⟩:=hp
  simp only [PlanT.even,Bool.and_eq_true,beq_iff_eq] at hev
  obtain ⟨⟨⟨⟨⟨⟨e1,e2⟩,e3⟩,e4⟩,l2⟩,l3⟩,l4⟩:=hev
  obtain ⟨h1,h2,h3,h4⟩:=h
  simp only [PlanT.len,y8l]
  refine ⟨fun h0=>(by rw [h0] at hr;cases hr),fun x hx =>?_⟩
  rw [hr] at hx
  simp only [List.mem_cons,List.not_mem_nil,or_false] at hx
  rcases hx with rfl | rfl | rfl | rfl
  ·exact kN (fun a' w' _ hh=>jM hs p _ _ _ e1 hp hh) h1
  ·exact kN (fun a' w' _ hh=>by rw [l2];exact jM hs q _ _ _ e2 hq hh) h2
  ·exact kN (fun a' w' _ hh=>by rw [l3];exact jM hs r _ _ _ e3 hrr hh) h3
  ·exact kN (fun a' w' _ hh=>by rw [l4];exact jM hs s _ _ _ e4 hss hh) h4
def planBT (ops:Array Oper) (kd:List Nat) (p:PlanT):Bool:=Region.noSelect ops&&p.even&&p.len==ops.size&&wP .any ops kd p (Array.replicate ops.size false)
section
variable {n:Nat} {E:List (Nat×Value)} {D:List Deferred} {a:Act} {Φ:Fz} {K:List Res} {w:World}
theorem q3d {id:Nat} {l:List Oper} {Q:Exit→Act→World→Prop} (kd:List Nat) (p:PlanT) (K':List Res) (he:EnvR n E D a) (hm:Mem Φ K w) (hw:P.follows .mixedOrders=true) (hB:planBT l.toArray kd p=true) (hK:∀r∈K',r∈K)
  (h:∀w,Mem Φ K w→jQ P .any l.toArray (Sees Φ K') kd (fun c w=>∀a,a.defers=D→Q (.panic c) a w) (Q .normal) p a w):(Code.region id l.toArray true).wp P Q a w:=by
 have hm':=hm.drew
 simp only [planBT,Bool.and_eq_true,beq_iff_eq] at hB
 obtain ⟨⟨⟨hs,hev⟩,hl⟩,hok⟩:=hB
 refine (wpIn_wide (n:=3)).1 (wpIn_region_any hw (mN (r:=none) (Inv:=fun a=>a.defers=D) (kd:=kd) (B:=Sees Φ K') (Qp:=fun c w=>∀a,a.defers=D→Q (.panic c) a w) (Q:=Q .normal) (fun h=>absurd rfl h) (fun i o a v _ he=>by cases ho:o.dst <;> exact he) (fun _ _ h=>h) (fun c a w he h=>h a he) _ _ _ _ he.defs (fun _=>⟨hm'.fz,fun r hr=>hm'.own r (hK r hr)⟩) ?_))
 have:=jM hs p _ _ _ hev hok (h _ hm')
 rw [hl] at this
 exact this
variable {Q:Act→World→Prop} {d:Nat} {v:Value} {op:Op} {ty:TypeId} {pos:String} {aft:Array Edge} {i j k m:Nat} {p q r s:PlanT} {L:Act→World→Prop}
theorem drOp_q (he:EnvR n E D a) (hi:ops[i]? = some ⟨some d,op,ty,pos,aft,none⟩) (hk:yX kd i=2) (ho:∀w,B w→Ok P a op ty w v) (hd:Nat.blt d n=true)
  (k:∀a,EnvR n ((d,v)::E) D a→L a w):xO P .any ops B kd Qp i L a w:=by
 unfold xO
 simp only [hi]
 rw [if_pos (pW rfl _),if_neg (by rw [hk];decide)]
 exact ⟨v,fun w hw=>ho w (hw hk) _ _ _ _,k _ (he.put hd)⟩
theorem t_q (h:xO P .any ops B kd Qp i (jQ P .any ops B kd Qp Q p) a w):jQ P .any ops B kd Qp Q (.q i p) a w:=h
theorem z8l {p:Plan} (h:zX P .any ops B kd Qp Q p a w):jQ P .any ops B kd Qp Q (.pl p) a w:=h
theorem t_e3 (h1:xO P .any ops B kd Qp i (jQ P .any ops B kd Qp Q p) a w) (h2:xO P .any ops B kd Qp j (jQ P .any ops B kd Qp Q q) a w) (h3:xO P .any ops B kd Qp k (jQ P .any ops B kd Qp Q r) a w):jQ P .any ops B kd Qp Q (.e3 i j k p q r) a w:=⟨h1,h2,h3⟩
theorem t_e4 (h1:xO P .any ops B kd Qp i (jQ P .any ops B kd Qp Q p) a w) (h2:xO P .any ops B kd Qp j (jQ P .any ops B kd Qp Q q) a w) (h3:xO P .any ops B kd Qp k (jQ P .any ops B kd Qp Q r) a w) (h4:xO P .any ops B kd Qp m (jQ P .any ops B kd Qp Q s) a w):jQ P .any ops B kd Qp Q (.e4 i j k m p q r s) a w:=⟨h1,h2,h3,h4⟩
end
end
end Go.Sw

namespace Go.Sw
section
variable {P:Program} {Φ:Fz} {K:List Res} {w:World}
theorem j1m {α β:Type} {n gf p:Nat} {E:List (Nat×Value)} {Dd:List Deferred} {a:Act} {g:Operand} {assign body:Code} {Q:Exit→Act→World→Prop} {fs cs:List Value}
  (items:List α) (arg:α→Value) (KX:List Res) (KV:List α→β→List Res) (z0:β)
  (he:EnvR n E Dd a) (hm:Mem Φ (KX++KV [] z0) w) (hg:ev E g=some (.func (.func gf) fs.toArray cs.toArray)) (hf:∀args w,(callFunc gf args).run P w=.ok (.enter gf args) w) (hp:Nat.blt p n=true)
  (hr:∀pre x post z l o1 o2 K' a w,items=pre++x::post→EnvR n ((p,arg x)::E) [] a→Mem Φ (.blk l o1::(KV pre z++K')) w →
   assign.wpIn (FO (some l)) 2 P (Exit.then (fun a1 w1=>∃K1,Mem Φ (.blk l o1::K1) w1∧∀w2,Mem Φ (.blk l o2::K1) w2 →
    body.wpIn (FO (some l)) 2 P (fun e _ w=>e=.normal∧∃z,Mem Φ (.blk l o2::(KV (pre++[x]) z++K')) w) a1 w2) (fun _ _ _=>False)) a w)
  (hc:∀(y:Value) (KY:List α→β→List Res) (w:World),Takes P Φ y (fun x=>[arg x]) items KY→(∀pre z K0 w,Mem Φ (K0++KY pre z) w→∃K1,Mem Φ (K1++KV pre z) w)→Mem Φ (KX++KY [] z0) w→Calls P gf (fs++[y]++cs).toArray w (fun e w'=>∃v z,e=.returned v∧Mem Φ (KX++KY items z) w'))
  (kn:∀Dk z a w,EnvR n E ({ target:=.collected Dk,args:=#[] }::Dd) a→Mem Φ (.blk Dk (.deferred (some []))::(KX++KV items z)) w→Q .normal a w):(Code.rangeFunc g #[p] assign body).wp P Q a w:=by
 refine z3d (β:=β) (δ:=Unit) (F1:=fun _=>Φ) (KO:=fun z=>KX++KV items z) (KE:=fun _=>[]) (G:=fun _=>True) (B:=fun _ _=>False) he hm hg hf (fun Dk l r w hps has hbo hst hpd hE hm =>?_) (fun Dk z a w _ he hm=>kn Dk z a w he hm) (fun _ _ _ _ _ h=>h.elim)
 subst has;subst hbo
 have key:=hc (.func (.yield l) #[] #[]) (fun pre z=>.blk l (.loop r)::.blk Dk (.deferred (some []))::KV pre z) w ⟨⟨_,_,_,rfl⟩,fun pre x post z K0 w hit hm=>.inr ⟨l,rfl,?_⟩⟩ (fun pre z K0 w hm=>⟨K0++[.blk l (.loop r),.blk Dk (.deferred (some []))],by rw [List.append_assoc];exact hm⟩) ?_
 ·refine key.mono fun e w' h =>?_
  obtain ⟨v,z,rfl,h⟩:=h
  refine .inl ⟨v,z,rfl,trivial,h.perm ?_⟩
  exact (List.perm_middle.trans (List.Perm.cons _ List.perm_middle))
 ·have hm1:Mem Φ (.blk l (.loop r)::(KV pre z++(.blk Dk (.deferred (some []))::K0))) w:=hm.perm (List.perm_middle.trans (List.Perm.cons _ (List.perm_middle.trans ((List.Perm.cons _ List.perm_append_comm).trans List.perm_middle.symm))))
  have hl:w.heap[l]? = some (.loop r):=hm1.own _ List.mem_cons_self
  refine ⟨r.fn,r.tmps.setIfInBounds p (arg x),r.assign,r.body,?_,?_⟩
  ·rw [run_yield hl (by rw [hps];rfl),hps]
   simp
  ·have he2:EnvR n ((p,arg x)::E) [] ⟨r.tmps.setIfInBounds p (arg x),[]⟩:=hE.put (d:=p) hp
   have h:=q0u (P:=P) (Φ:=Φ) (tmps:=r.tmps.setIfInBounds p (arg x)) (KO:=fun z=>KV (pre++[x]) z++(.blk Dk (.deferred (some []))::K0)) hst hpd (hr pre x post z l _ _ _ _ _ hit he2 hm1)
   refine h.mono fun e w' hh =>?_
   obtain ⟨h1,z',h2⟩:=hh
   refine ⟨h1,z',h2.perm ?_⟩
   exact ((List.Perm.cons _ ((List.perm_middle.trans (List.Perm.cons _ List.perm_append_comm)).trans List.perm_middle.symm)).trans List.perm_middle.symm)
 ·refine hm.perm ?_
  exact ((List.Perm.cons _ List.perm_middle.symm).trans List.perm_middle.symm)
theorem Mem.see1 {r:Res} {K1:List Res} (h:Mem Φ (K1++(r::K)) w):Sees Φ [r] w:=⟨h.fz,fun x hx=>h.own x (by rw [List.mem_singleton] at hx;subst hx;simp)⟩
theorem y5c {A B C:List Res}:(A++(B++C)).Perm (B++(A++C)):=by
 rw [← List.append_assoc,← List.append_assoc];exact List.perm_append_comm.append_right _
theorem j6m {A K':List Res} {N:Next} {zf:Bs→Value} (s:Bs) (hm:Mem Φ (A++((nxK N zf++K)++K')) w):Mem Φ (.gs (zG false (.slice none 0 0) (yD (nxM N zf) s)) 9 1 (strs ((zK N s).getD []))::(A++((nxK (tT N s) zf++K)++K'))) w:=by
 rw [List.append_assoc] at hm ⊢
 have h:=x2c s (Mem.mid (A:=A) hm)
 exact h.perm (List.Perm.cons _ y5c)
theorem q9z {A K':List Res} {N:Next} {zf:Bs→Value} {s:Bs} {v:Value} {l:List Bs} (hD:mS N) (hm:Mem Φ (.gs v 9 1 (strs l)::(A++((nxK (tT N s) zf++K)++K'))) w):Mem Φ (A++((nxK (qX N s l) (cK zf s v)++K)++K')) w:=by
 rw [List.append_assoc] at hm ⊢
 have h:=j6l (K:=A++(K++K')) hD (hm.perm (List.Perm.cons _ y5c))
 exact Mem.mid (A:=nxK (qX N s l) (cK zf s v)) h
end
section
variable {P:Program} {n:Nat} {E:List (Nat×Value)} {D:List Deferred} {a:Act} {Φ:Fz} {K:List Res} {w:World}
variable {dst:Option Tmp} {ty:TypeId} {pos:String} {aft:Array Edge} {g:Option (Nat×Bool)} {Kn:Value→World→Prop} {Qp:List PanicEntry→World→Prop}
theorem z5j (i:Nat) {s x:Operand} {t e:TypeId} {size bytes:Nat} {v vx:Value} {xs news:List Value} (hT:RowT P t e size bytes) (he:EnvR n E D a) (hm:Mem Φ K w)
  (hs:ev E s=some v) (hk:qI K i=some (.gs v e size xs)) (hx:ev E x=some vx) (hr:y8m w vx size news) (h1:news.all Value.oneCell'=true)
  (hb:∀n m,xs.length=n * size→news.length=m * size→((n+m)+(n+m) / 4+192) * bytes≤281474976710656)
  (k:∀v' w',Mem Φ (kR K i (.gs v' e size (xs++news))) w'→Kn v' w') :
  Oper.eff P ⟨dst,.call { callee:=.builtin .append,args:=#[s,x],argTypes:=#[t,t] },ty,pos,aft,g⟩ a w Kn Qp:=by
 obtain ⟨inf,z,hi,hz,hsz,hby,hzs⟩:=hT.info
 obtain ⟨nn,hown⟩:=hm.own _ (qJ hk)
 have hp:=hT.pos
 have hxl:xs.length=nn * size:=hown.1
 have hfin:∀v' w',(Builtin.append_ #[t,t] ty #[v,vx]).run P w=.ok v' w'→Kn v' w' →
   Oper.eff P ⟨dst,.call { callee:=.builtin .append,args:=#[s,x],argTypes:=#[t,t] },ty,pos,aft,g⟩ a w Kn Qp:=by
  intro v' w' hrun hK
  unfold Oper.eff
  have:(execOp a.eval ⟨dst,.call { callee:=.builtin .append,args:=#[s,x],argTypes:=#[t,t] },ty,pos,aft,g⟩).run P w=.ok (.value v') w':=by
   simp only [execOp,resolve,invoke,builtin,Sem.run_bind,Sem.run_pure,Result.andThen_ok,List.map_toArray,List.map_cons,List.map_nil,he.ev hs,he.ev hx,hrun]
  rw [this]
  exact hK
 rcases hr with ⟨rfl,rfl⟩ | ⟨q,m',c,rfl,hl,hat⟩
 ·
  have hfit:∃p nn cap,v=.slice p nn cap∧nn≤cap:=by
   rcases hown.2 with ⟨rfl,rfl⟩ | ⟨b,cap,cur,rfl,_,_,hc,_⟩
   ·exact ⟨none,0,0,rfl,Nat.le_refl _⟩
   ·exact ⟨_,nn,cap,rfl,hc⟩
  obtain ⟨p,nn',cap,rfl,hc⟩:=hfit
  refine hfin (.slice p nn' cap) w ?_ (k _ _ ?_)
  ·cases p with
   | none=>simp [Builtin.append_,run_underlying hT.under,sizeOf,typeInfo,hi,Builtin.lenOf,Builtin.firstCells,hc]
   | some q=>simp [Builtin.append_,run_underlying hT.under,sizeOf,typeInfo,hi,Builtin.lenOf,Builtin.firstCells,hc,storeCells]
  ·rw [List.append_nil]
   exact hm.upd hk rfl rfl (fun _ _ _=>rfl) ⟨nn,hown⟩ (.inl rfl)
 ·have hbb:((nn+m')+(nn+m') / 4+192) * bytes≤281474976710656:=hb nn m' hxl hl
  have h63:nn+m'≤Go.maxLen:=by
   have:=Nat.le_trans (Nat.le_mul_of_pos_right ((nn+m')+(nn+m') / 4+192) hT.bpos) hbb
   simp only [Go.maxLen];omega
  have hsmall:nn+m'≤9223372036854775807:=by simp only [Go.maxLen] at h63;omega
  rcases hown.2 with ⟨rfl,rfl⟩ | ⟨b,cap,cur,rfl,_,hg,hc,hcm,hcs,_⟩
  ·obtain ⟨v',w',hrun,ho',hgr,_⟩:=run_append_own_wide (P:=P) w w.heap.size t ty e inf z size bytes hT.under hi hz hsz hby hzs hp (.slice none 0 0) 0 xs ⟨hown.1,.inl ⟨rfl,rfl⟩⟩ q m' c news hl hat (fun u hu=>List.all_eq_true.1 h1 u hu) h63 hbb (Nat.le_refl _)
   refine hfin v' w' hrun (k _ _ (hm.upd hk hgr.os hgr.output (fun b hb hne=>hgr.block b hb hne) ⟨0+m',?_⟩ (.inr fun b hb=>(ho'.lt b hb).1)))
   exact ⟨ho'.1,ho'.2.imp id fun ⟨g,cap,cur,h1,_,h3⟩=>⟨g,cap,cur,h1,Nat.zero_le _,h3⟩⟩
  ·obtain ⟨v',w',hrun,ho',hgr,_⟩:=run_append_own_wide (P:=P) w 0 t ty e inf z size bytes hT.under hi hz hsz hby hzs hp _ nn xs hown q m' c news hl hat (fun u hu=>List.all_eq_true.1 h1 u hu) h63 hbb (Nat.zero_le _)
   refine hfin v' w' hrun (k _ _ (hm.upd hk hgr.os hgr.output (fun b hb hne=>hgr.block b hb hne) ⟨nn+m',ho'⟩ ?_))
   by_cases hroom:nn+m'≤cap
   ·have hfit:nn * inf.size+news.length≤cur.size:=by rw [hl,hcs,hsz,← Nat.add_mul];exact Nat.mul_le_mul_right _ hroom
    have hr:=run_append_room (P:=P) w t ty e inf hT.under hi b nn cap cur hg q m' c news (by rw [hsz];exact hl) hat (fun u hu=>List.all_eq_true.1 h1 u hu) hroom hfit
    rw [hr] at hrun
    cases hrun
    exact .inl rfl
   ·have holds:∀j u,xs[j]? = some u→w.cell? ((⟨b,0,none⟩:Addr).add j)=some u:=hown.cells (g:=b) rfl
    have hr:=run_append_grow (P:=P) w t ty e inf z hT.under hi hz ⟨b,0,none⟩ nn cap xs (by rw [hsz];exact hxl) holds q m' c news (by rw [hsz];exact hl) hat (by omega) (by omega) (by rw [hby];exact growslice_fits_wide (by omega) hbb)
    rw [hr] at hrun
    cases hrun
    exact .inr fun c hc=>by simp [Res.foot,Value.ownBlock] at hc;omega
end
end Go.Sw

namespace Go.Sw
open Go.Proofs.Tryz
open Go.Proofs
set_option maxRecDepth 20000
set_option maxHeartbeats 4000000
theorem q6h {Φ:Fz} {m:List (Bs×Value)} {N:Next} (hr:MapRel (fun v x=>SliceOf RStr Φ 1 v x) m N) (s:Bs):SliceOf RStr Φ 1 (zG false (.slice none 0 0) (yD m s)) (jW N s):=by
 cases h:yD m s with
 | none=>rw [jW,hr.none h];exact SliceOf.nil 1
 | some v=>obtain ⟨x,h1,h2⟩:=hr.get h;rw [jW,h1];exact h2
def RI (nx:Next) (l:List Bs) (i:Nat) (o:From) (q:List Bs):Prop:=∃d,Bfs nx l i o q d∧i≤q.length∧yB nx l=cE nx (kB nx l+1 - i) i o q
def VI (x:Bs) (ns:List Bs) (o:From) (q:List Bs) (i k:Nat) (o2:From) (q2:List Bs):Prop:=wJ x (ns.drop k) o2 q2=wJ x ns o q∧q2[i]? = some x
section
variable {nx:Next} {l:List Bs} {i k:Nat} {o o2:From} {q q2 ns:List Bs} {x n:Bs}
theorem RI.start:RI nx l 0 (jV l) l:=⟨_,y8r nx l,Nat.zero_le _,rfl⟩
theorem RI.len (h:RI nx l i o q):q.length≤kB nx l:=let ⟨_,h1,_⟩:=h;z8n h1
theorem RI.step (h:RI nx l i o q) (hx:q[i]? = some x) (hv:wJ x (jW nx x) o q=(o2,q2)) (hl:q2[i]? = some x):RI nx l (i+1) o2 q2:=by
 have hlen:=h.len
 obtain ⟨d,h1,h2,h3⟩:=h
 obtain ⟨d',h4⟩:=z9c h1 hx
 have hi:i < q.length:=(List.getElem?_eq_some_iff.1 hx).1
 rw [show kB nx l+1 - i=(kB nx l+1 - (i+1))+1 by omega,z5u nx _ hx,hv] at h3
 rw [hv] at h4
 exact ⟨d',h4,(List.getElem?_eq_some_iff.1 hl).1,h3⟩
theorem RI.fin (h:RI nx l i o q) (hi:¬i < q.length):o=yB nx l:=by
 obtain ⟨d,h1,h2,h3⟩:=h
 rw [h3,y5h nx _ (List.getElem?_eq_none_iff.2 (by omega))]
theorem j7h (x:Bs) (ns:List Bs) (o:From) (q:List Bs):q.length≤(wJ x ns o q).2.length:=by
 obtain ⟨t,h,_⟩:=cI x ns o q
 rw [h,List.length_append];omega
theorem VI.start (hx:q[i]? = some x):VI x ns o q i 0 o q:=⟨rfl,hx⟩
theorem VI.len (h:VI x (jW nx x) o q i k o2 q2) (hr:RI nx l i o q) (hx:q[i]? = some x):q2.length≤kB nx l:=by
 obtain ⟨d,h1,h2,h3⟩:=hr
 obtain ⟨d',h4⟩:=z9c h1 hx
 have h5:=z8n h4
 rw [← h.1] at h5
 exact Nat.le_trans (j7h _ _ _ _) h5
theorem VI.skip (h:VI x ns o q i k o2 q2) (hn:ns[k]? = some n) {y:Bs} (hf:zK o2 n=some y):VI x ns o q i (k+1) o2 q2:=by
 obtain ⟨h1,h2⟩:=h
 rw [zA hn] at h1
 exact ⟨by rw [← h1,wJ,hf];rfl,h2⟩
theorem VI.new (h:VI x ns o q i k o2 q2) (hn:ns[k]? = some n) (hf:zK o2 n=none):VI x ns o q i (k+1) (qX o2 n x) (q2++[n]):=by
 obtain ⟨h1,h2⟩:=h
 rw [zA hn] at h1
 exact ⟨by rw [← h1,wJ,hf];rfl,by rw [List.getElem?_append_left (List.getElem?_eq_some_iff.1 h2).1];exact h2⟩
theorem VI.fin (h:VI x ns o q i k o2 q2) (hk:¬k < ns.length):wJ x ns o q=(o2,q2):=by
 obtain ⟨h1,h2⟩:=h
 rw [zH hk] at h1
 exact h1.symm
theorem VI.at (h:VI x ns o q i k o2 q2):q2[i]? = some x:=h.2
end
theorem aJ {Φ:Fz} {K:List Res} {w:World} {b:Addr} {g:Graph} {v:Value} {l:List Bs} (rg:RGraph Φ b g) (hb:kB g.next l≤10000000000000) (hm:Mem Φ (.gs v 9 1 (strs l)::K) w) :
  Calls prog 67 (List.toArray [.pointer (some b),v]) w (fun ee w'=>∃nb:Nat,ee=.returned (.map (some nb))∧True∧Mem Φ (.mp nb (yK (yB g.next l))::K) w'):=by
 obtain ⟨d1,nd2,fl3,pm4,nb5,nm6,hat7,rc8,rn9,rf10,ma11,mr12⟩:=id rg
 have rc8o:=rc8
 obtain ⟨p15,c16,p21,c22,p27,c28,p33,c34,rfl,h14,h20,h26,h32,hm17,hn18,hm23,hn24,hm29,hn30,hm35,hn36⟩:=RCore.fm rc8
 obtain ⟨p37,c38,rfl,hmx39,hn40⟩:=rn9.fm
 obtain ⟨p41,c42,rfl,hmx43,hn44⟩:=rf10.fm
 obtain ⟨q45,cap46,rfl⟩:=qZ hm (i:=0) rfl
 have hll_:l.length≤10000000000000:=by unfold kB at hb;omega
 refine zN func67 ntmps67 fun Q hQ a he =>?_
 refine MkM fun b49 w hm a he =>?_
 refine go fun a he =>?_
 replace hm:=hm.nf
 refine go fun a he =>?_
 refine yG (he.ks [0,1,5,14,15]) hm (fun R mm a w=>∃(i:Nat) (o0:From),mm=l.length - i∧R Φ [(16,.int .i64 ((i:Nat):Int))] [(0,.mp b49 (yK o0))] a w∧(jV l=(l.drop i).foldl (fun m s=>qX m s ⟨#[]⟩) o0)) (l.length - 0) ⟨0,[],rfl,⟨he.pk,hm⟩,rfl⟩ ?_
 clear hm he
 rintro mm a w ⟨i,o0,hmu,⟨he,hm⟩,hI53⟩ L52 hL52
 replace hm:=hm.nf
 by_cases h55:i < l.length
 refine go fun a he =>?_
 obtain ⟨q59,hq60⟩:=hm.toSees.gsSome (i:=1) rfl h55
 obtain ⟨x62,hx61⟩:=yF (l:=l) (i:=i) (by first | omega | exact (List.getElem?_eq_some_iff.1 (VI.at {I})).1)
 refine Qq (fun a he =>?_) (o:=by exact fun he hs=>kA (p:=q59) i he (by rw [← hq60];rfl) rfl runUnderlying25 sizeOf9 h55)
 refine Qq (fun a he =>?_) (o:=by exact fun he hs=>gH 1 i he hs rfl (by rw [← hq60];rfl) (sP hx61) isAgg9)
 refine tZ 0 runUnderlying70 runUnderlying9 fun w hm a he =>?_
 rw [nM] at hm
 refine go fun a he =>?_
 refine hL52 _ _ _ (by subst hmu;omega) ⟨(i+1),((qX o0 x62 (⟨#[]⟩:ByteArray))),rfl,⟨he.pk,hm⟩,?_⟩
 rw [hI53,zA hx61];rfl
 refine go fun a he =>?_
 refine yG (he.ks [0,5]) hm (fun R mm a w=>∃(i:Nat) (u:Value) (q:List Bs) (o:From),mm=kB g.next l - i∧R Φ [(1,u),(8,.int .i64 ((i:Nat):Int))] [(0,.mp b49 (yK o)),(1,.gs (u) 9 1 (strs q))] a w∧(RI g.next l i o q)) (kB g.next l - 0) ⟨0,.slice q45 l.length cap46,l,o0,rfl,⟨he.pk,hm⟩,by have h_:=hI53;rw [zH h55] at h_;rw [show o0=jV l from h_.symm];exact RI.start⟩ ?_
 clear hm he
 rintro mm a w ⟨i,u,q,o,hmu,⟨he,hm⟩,hI67⟩ L66 hL66
 replace hm:=hm.nf
 refine go fun a he =>?_
 obtain ⟨q70,cap71,rfl⟩:=qZ hm (i:=1) rfl
 have hlq_:=RI.len hI67
 by_cases h72:i < q.length
 refine Reg [1,1,1,2,1,1,1,2,2,1,1] [0,1] fun w hm a he =>?_
 refine go fun a he =>?_
 obtain ⟨q75,hq76⟩:=hm.toSees.gsSome (i:=1) rfl h72
 obtain ⟨x78,hx77⟩:=yF (l:=q) (i:=i) (by first | omega | exact (List.getElem?_eq_some_iff.1 (VI.at {I})).1)
 refine Qq (fun a he =>?_) (o:=by exact fun he hs=>kA (p:=q75) i he (by rw [← hq76];rfl) rfl runUnderlying25 sizeOf9 h72)
 refine Qq (fun a he =>?_) (o:=by exact fun he hs=>gH 1 i he hs rfl (by rw [← hq76];rfl) (sP hx77) isAgg9)
 have hs79:=q6h mr12 x78
 obtain ⟨p80,c81,hv82,hmx83,hn84⟩:=hs79.form (by decide)
 rw [hv82] at hs79
 refine Qq (fun a he =>?_) (o:=by exact fun he hs=>Ok.cast (yP runUnderlying72 runUnderlying9 zeroValue25 he hs rfl rfl ma11) hv82)
 refine go fun a he =>?_
 refine yG (he.ks [0,5,8,37,38]) hm (fun R mm a w=>∃(k:Nat) (u2:Value) (q2:List Bs) (o2:From),mm=(jW g.next x78).length - k∧R Φ [(1,u2),(39,.int .i64 ((k:Nat):Int))] [(0,.mp b49 (yK o2)),(1,.gs (u2) 9 1 (strs q2))] a w∧(VI x78 (jW g.next x78) o q i k o2 q2)) ((jW g.next x78).length - 0) ⟨0,.slice q70 q.length cap71,q,o,rfl,⟨he.pk,hm⟩,VI.start hx77⟩ ?_
 clear hm he
 rintro mm a w ⟨k,u2,q2,o2,hmu,⟨he,hm⟩,hI86⟩ L85 hL85
 replace hm:=hm.nf
 by_cases h88:k < (jW g.next x78).length
 refine go fun a he =>?_
 obtain ⟨q92,rfl,x93,hx94,cs95,hl96,ha97,hr98⟩:=hs79.el hn84 h88
 obtain rfl:cs95=[.string x93]:=hr98
 refine go fun a he =>?_
 rcases hf100:yD ((yK o2)) x93 with _ | vf101
 have hf100_:=congrArg (zG true (.string ⟨#[]⟩)) hf100
 refine Qq (fun a he =>?_) (o:=by exact fun he hs=>Ok.cast (zQ 0 runUnderlying70 runUnderlying9 zeroValue9 he hs rfl rfl rfl) (show zG true (.string ⟨#[]⟩) (yD ((yK o2)) x93)=.tuple (List.toArray [.string ⟨#[]⟩,.bool false]) from hf100_))
 refine go fun a he =>?_
 obtain ⟨q104,cap105,rfl⟩:=qZ hm (i:=1) rfl
 have hl2_:=(List.getElem?_eq_some_iff.1 (VI.at hI86)).1
 refine go fun a he =>?_
 have hb110:i < q2.length:=by omega
 obtain ⟨q106,hq107⟩:=hm.toSees.gsSome (i:=1) rfl hb110
 obtain ⟨x109,hx108⟩:=yF (l:=q2) (i:=i) (by first | omega | exact (List.getElem?_eq_some_iff.1 (VI.at {I})).1)
 refine Qq (fun a he =>?_) (o:=by exact fun he hs=>kA (p:=q106) i he (by rw [← hq107];rfl) rfl runUnderlying25 sizeOf9 hb110)
 refine Qq (fun a he =>?_) (o:=by exact fun he hs=>gH 1 i he hs rfl (by rw [← hq107];rfl) (sP hx108) isAgg9)
 have hxx_:x109=x78:=Option.some.inj (hx108.symm.trans (VI.at hI86))
 refine tZ 0 runUnderlying70 runUnderlying9 fun w hm a he =>?_
 rw [nM] at hm
 refine kW fun v111 w hm a he =>?_
 refine st he rfl rfl rfl (z5j 2 (xs:=(strs q2)) (news:=[.string x93]) vV he hm rfl rfl rfl (hm.toSees.rowIn (i:=0) rfl) rfl (by intro n_ m_ hn_ hx_;have hl_:=VI.len hI86 hI67 hx77;simp only [yA,List.length_cons,List.length_nil] at hn_ hx_;omega) fun v112 w hm a he =>?_)
 replace hm:=hm.nf
 replace hm:Mem Φ (.gs (v111) 9 1 [.string x93]::.mp b49 (yK (qX o2 x93 x109))::.gs (v112) 9 1 (strs (q2++[x93]))::K) w:=by rw [qK] at hm;exact hm
 refine go fun a he =>?_
 replace hm:=hm.dl [0]
 refine hL85 _ _ _ (by subst hmu;omega) ⟨(k+1),(v112),((q2++[x93])),((qX o2 x93 x109)),rfl,⟨he.pk,hm⟩,?_⟩
 rw [hxx_];exact VI.new hI86 hx94 (vC hf100)
 obtain ⟨y113,hy114,rfl⟩:=vD hf100
 have hf100_:=congrArg (zG true (.string ⟨#[]⟩)) hf100
 refine Qq (fun a he =>?_) (o:=by exact fun he hs=>Ok.cast (zQ 0 runUnderlying70 runUnderlying9 zeroValue9 he hs rfl rfl rfl) (show zG true (.string ⟨#[]⟩) (yD ((yK o2)) x93)=.tuple (List.toArray [.string y113,.bool true]) from hf100_))
 refine go fun a he =>?_
 refine hL85 _ _ _ (by subst hmu;omega) ⟨(k+1),(u2),(q2),(o2),rfl,⟨he.pk,hm⟩,?_⟩
 exact VI.skip hI86 hx94 hy114
 refine go fun a he =>?_
 refine hL66 (kB g.next l - (i+1)) _ _ (by subst hmu;have hl_:=RI.len hI67;omega) ⟨(i+1),(u2),(q2),(o2),rfl,⟨he.pk,hm⟩,?_⟩
 exact RI.step hI67 hx77 (VI.fin hI86 h88) (VI.at hI86)
 refine zF ?_
 replace hm:=hm.dl [1]
 rw [← RI.fin hI67 h72];exact ⟨_,rfl,trivial,hm⟩
end Go.Sw

namespace Go.Sw
open Go.Proofs.Tryz
open Go.Proofs
set_option maxRecDepth 20000
set_option maxHeartbeats 4000000
theorem y4q {o:From} {l:List Bs} {i:Nat} {x y:Bs} (h:l[i]? = some x) (hf:zK o x=some y):jO (l.drop i) o=x::jO (l.drop (i+1)) o:=by
 rw [zA h,jO,List.filter_cons,if_pos (by rw [hf];rfl)];rfl
theorem j5z {o:From} {l:List Bs} {i:Nat} {x:Bs} (h:l[i]? = some x) (hf:zK o x=none):jO (l.drop i) o=jO (l.drop (i+1)) o:=by
 rw [zA h,jO,List.filter_cons,if_neg (by rw [hf];simp)];rfl
theorem uT (l:List Bs) (o:From):(jO l o).length≤l.length:=List.length_filter_le _ _
theorem q9w {o:From} {l:List Bs} {i:Nat} (h:¬i < l.length):jO (l.drop i) o=[]:=by rw [zH h];rfl
theorem z4m {Φ:Fz} {K:List Res} {w:World} {b:Addr} {g:Graph} {mb:Nat} {o:From} (rg:RGraph Φ b g) (hn:g.nodes.length≤1000000000) (hm:Mem Φ (.mp mb (yK o)::K) w) :
  Calls prog 42 (List.toArray [.pointer (some b),.map (some mb)]) w (fun ee w'=>∃v:Value,ee=.returned v∧True∧Mem Φ (.gs v 9 1 (strs (jO g.nodes o))::.mp mb (yK o)::K) w'):=by
 obtain ⟨d1,nd2,fl3,pm4,nb5,nm6,hat7,rc8,rn9,rf10,ma11,mr12⟩:=id rg
 have rc8o:=rc8
 obtain ⟨p15,c16,p21,c22,p27,c28,p33,c34,rfl,h14,h20,h26,h32,hm17,hn18,hm23,hn24,hm29,hn30,hm35,hn36⟩:=RCore.fm rc8
 obtain ⟨p37,c38,rfl,hmx39,hn40⟩:=rn9.fm
 obtain ⟨p41,c42,rfl,hmx43,hn44⟩:=rf10.fm
 refine zN func42 ntmps42 fun Q hQ a he =>?_
 refine go fun a he =>?_
 replace hm:=hm.nilRow 9 1
 replace hm:=hm.nf
 refine go fun a he =>?_
 refine yG (he.ks [1,13,14]) hm (fun R mm a w=>∃(i:Nat) (u:Value) (acc:List Bs),mm=g.nodes.length - i∧R Φ [(5,u),(15,.int .i64 ((i:Nat):Int))] [(0,.gs (u) 9 1 (strs acc))] a w∧(jO g.nodes o=acc++jO (g.nodes.drop i) o)) (g.nodes.length - 0) ⟨0,.slice none 0 0,[],rfl,⟨he.pk,hm⟩,rfl⟩ ?_
 clear hm he
 rintro mm a w ⟨i,u,acc,hmu,⟨he,hm⟩,hI50⟩ L49 hL49
 replace hm:=hm.nf
 by_cases h52:i < g.nodes.length
 refine go fun a he =>?_
 obtain ⟨q56,rfl,x57,hx58,cs59,hl60,ha61,hr62⟩:=rn9.el hn40 h52
 obtain rfl:cs59=[.string x57]:=hr62
 refine go fun a he =>?_
 rcases hf64:yD ((yK o)) x57 with _ | vf65
 have hf64_:=congrArg (zG true (.string ⟨#[]⟩)) hf64
 refine Qq (fun a he =>?_) (o:=by exact fun he hs=>Ok.cast (zQ 1 runUnderlying70 runUnderlying9 zeroValue9 he hs rfl rfl rfl) (show zG true (.string ⟨#[]⟩) (yD ((yK o)) x57)=.tuple (List.toArray [.string ⟨#[]⟩,.bool false]) from hf64_))
 refine go fun a he =>?_
 refine hL49 _ _ _ (by subst hmu;omega) ⟨(i+1),(u),(acc),rfl,⟨he.pk,hm⟩,?_⟩
 rw [hI50,j5z hx58 (vC hf64)]
 obtain ⟨y67,hy68,rfl⟩:=vD hf64
 have hf64_:=congrArg (zG true (.string ⟨#[]⟩)) hf64
 refine Qq (fun a he =>?_) (o:=by exact fun he hs=>Ok.cast (zQ 1 runUnderlying70 runUnderlying9 zeroValue9 he hs rfl rfl rfl) (show zG true (.string ⟨#[]⟩) (yD ((yK o)) x57)=.tuple (List.toArray [.string y67,.bool true]) from hf64_))
 refine kW fun v70 w hm a he =>?_
 refine wL 1 vV (fun v71 w hm a he =>?_) (hb:=by have hq_:=congrArg List.length hI50;rw [y4q hx58 hy68] at hq_;have hz_:=uT g.nodes o;simp only [List.length_append,yA,List.length_cons,List.length_nil] at hq_ ⊢;omega)
 replace hm:Mem Φ (.gs (v70) 9 1 [.string x57]::.gs (v71) 9 1 (strs (acc++[x57]))::.mp mb (yK o)::K) w:=by rw [qK] at hm;exact hm
 refine go fun a he =>?_
 replace hm:=hm.dl [0]
 refine hL49 _ _ _ (by subst hmu;omega) ⟨(i+1),(v71),((acc++[x57])),rfl,⟨he.pk,hm⟩,?_⟩
 rw [hI50,y4q hx58 hy68];simp
 refine zF ?_
 have h_:=hI50
 rw [q9w h52,List.append_nil] at h_
 rw [h_];exact ⟨_,rfl,trivial,hm⟩
end Go.Sw

namespace Go.Sw
open Go.Proofs.Tryz
open Go.Proofs
set_option maxRecDepth 20000
set_option maxHeartbeats 4000000
theorem hO (l:List Bs) (s:Bs):(zK (jV l) s).isSome=decide (s∈l):=by rw [gB];by_cases h:s∈l <;> simp [h]
def z4o (o:From) (f:Flow):Bool:=(zK o f.1).isSome && !(zK o f.2).isSome
section
variable {ns:List Bs} {fl:List Flow} {rs l:List Bs}
theorem j0z (h:¬jO ns (jV l)=l):jP ns fl rs l=false:=by
 rw [z5r] at h;simp [jP,h]
theorem j1a (h:(rs.any fun s => !(zK (jV l) s).isSome)=true):jP ns fl rs l=false:=by
 have:(rs.all fun r=>decide (r∈l))=false:=by
  rw [← Bool.not_eq_true,List.all_eq_true]
  intro hc
  obtain ⟨x,h1,h2⟩:=List.any_eq_true.1 h
  rw [hO,hc x h1] at h2;cases h2
 simp [jP,this]
theorem j1b (h1:jO ns (jV l)=l) (h2:(rs.any fun s => !(zK (jV l) s).isSome)=false):jP ns fl rs l = !(fl.any (z4o (jV l))):=by
 rw [z5r] at h1
 have e2:(rs.all fun r=>decide (r∈l))=true:=by
  rw [List.all_eq_true];intro x hx
  have:=List.any_eq_false.1 h2 x hx
  rw [hO] at this;simpa using this
 have e3:(fl.all fun f => !decide (f.1∈l) || decide (f.2∈l)) = !(fl.any (z4o (jV l))):=by
  rw [List.not_any_eq_all_not];congr 1;funext f
  simp only [z4o,hO];cases decide (f.1∈l) <;> cases decide (f.2∈l) <;> rfl
 simp only [jP,h1,e2,e3,decide_true,Bool.true_and]
end
theorem j0x {Φ:Fz} {K:List Res} {w:World} {b mb:Nat} {o:From} {s:Bs} (hm:Mem Φ (.blk b (ob [.map (some mb)] 70)::.mp mb (yK o)::K) w) :
  Calls prog 70 (List.toArray [.string s,.pointer (some ⟨b,0,none⟩)]) w (fun ee w'=>ee=.returned (.bool (!(zK o s).isSome))∧Mem Φ (.blk b (ob [.map (some mb)] 70)::.mp mb (yK o)::K) w'):=by
 refine zN func70 ntmps70 fun Q hQ a he =>?_
 refine go fun a he =>?_
 rcases hf3:yD ((yK o)) s with _ | vf4
 have hf3_:=congrArg (zG true (.string ⟨#[]⟩)) hf3
 refine Qq (fun a he =>?_) (o:=by exact fun he hs=>Ok.cast (zQ 1 runUnderlying70 runUnderlying9 zeroValue9 he hs rfl rfl rfl) (show zG true (.string ⟨#[]⟩) (yD ((yK o)) s)=.tuple (List.toArray [.string ⟨#[]⟩,.bool false]) from hf3_))
 refine zF ?_
 rw [vC hf3];exact ⟨rfl,hm⟩
 obtain ⟨y6,hy7,rfl⟩:=vD hf3
 have hf3_:=congrArg (zG true (.string ⟨#[]⟩)) hf3
 refine Qq (fun a he =>?_) (o:=by exact fun he hs=>Ok.cast (zQ 1 runUnderlying70 runUnderlying9 zeroValue9 he hs rfl rfl rfl) (show zG true (.string ⟨#[]⟩) (yD ((yK o)) s)=.tuple (List.toArray [.string y6,.bool true]) from hf3_))
 refine zF ?_
 rw [hy7];exact ⟨rfl,hm⟩
theorem j0y {Φ:Fz} {K:List Res} {w:World} {b mb:Nat} {o:From} {d0:List Value} {f:Flow} (rf:RFlow Φ d0 f) (hm:Mem Φ (.blk b (ob [.map (some mb)] 70)::.mp mb (yK o)::K) w) :
  Calls prog 72 (List.toArray [.agg d0.toArray,.pointer (some ⟨b,0,none⟩)]) w (fun ee w'=>ee=.returned (.bool (z4o o f))∧Mem Φ (.blk b (ob [.map (some mb)] 70)::.mp mb (yK o)::K) w'):=by
 obtain rfl:=id rf
 refine zN func72 ntmps72 fun Q hQ a he =>?_
 refine Bx fun b2 w hm a he =>?_
 refine go fun a he =>?_
 rcases hf4:yD ((yK o)) f.1 with _ | vf5
 have hf4_:=congrArg (zG true (.string ⟨#[]⟩)) hf4
 refine Qq (fun a he =>?_) (o:=by exact fun he hs=>Ok.cast (zQ 2 runUnderlying70 runUnderlying9 zeroValue9 he hs rfl rfl rfl) (show zG true (.string ⟨#[]⟩) (yD ((yK o)) f.1)=.tuple (List.toArray [.string ⟨#[]⟩,.bool false]) from hf4_))
 have hn6:(zK o f.1).isSome=false:=by rw [vC hf4];rfl
 refine go fun a he =>?_
 rcases hf8:yD ((yK o)) f.2 with _ | vf9
 have hf8_:=congrArg (zG true (.string ⟨#[]⟩)) hf8
 refine Qq (fun a he =>?_) (o:=by exact fun he hs=>Ok.cast (zQ 2 runUnderlying70 runUnderlying9 zeroValue9 he hs rfl rfl rfl) (show zG true (.string ⟨#[]⟩) (yD ((yK o)) f.2)=.tuple (List.toArray [.string ⟨#[]⟩,.bool false]) from hf8_))
 have hn10:(zK o f.2).isSome=false:=by rw [vC hf8];rfl
 refine zF ?_
 replace hm:=hm.dl [0]
 rw [show z4o o f=_ from by simp only [z4o, *];rfl];exact ⟨rfl,hm⟩
 obtain ⟨y12,hy13,rfl⟩:=vD hf8
 have hf8_:=congrArg (zG true (.string ⟨#[]⟩)) hf8
 refine Qq (fun a he =>?_) (o:=by exact fun he hs=>Ok.cast (zQ 2 runUnderlying70 runUnderlying9 zeroValue9 he hs rfl rfl rfl) (show zG true (.string ⟨#[]⟩) (yD ((yK o)) f.2)=.tuple (List.toArray [.string y12,.bool true]) from hf8_))
 have hn14:(zK o f.2).isSome=true:=by rw [hy13];rfl
 refine zF ?_
 replace hm:=hm.dl [0]
 rw [show z4o o f=_ from by simp only [z4o, *];rfl];exact ⟨rfl,hm⟩
 obtain ⟨y16,hy17,rfl⟩:=vD hf4
 have hf4_:=congrArg (zG true (.string ⟨#[]⟩)) hf4
 refine Qq (fun a he =>?_) (o:=by exact fun he hs=>Ok.cast (zQ 2 runUnderlying70 runUnderlying9 zeroValue9 he hs rfl rfl rfl) (show zG true (.string ⟨#[]⟩) (yD ((yK o)) f.1)=.tuple (List.toArray [.string y16,.bool true]) from hf4_))
 have hn18:(zK o f.1).isSome=true:=by rw [hy17];rfl
 refine go fun a he =>?_
 rcases hf20:yD ((yK o)) f.2 with _ | vf21
 have hf20_:=congrArg (zG true (.string ⟨#[]⟩)) hf20
 refine Qq (fun a he =>?_) (o:=by exact fun he hs=>Ok.cast (zQ 2 runUnderlying70 runUnderlying9 zeroValue9 he hs rfl rfl rfl) (show zG true (.string ⟨#[]⟩) (yD ((yK o)) f.2)=.tuple (List.toArray [.string ⟨#[]⟩,.bool false]) from hf20_))
 have hn22:(zK o f.2).isSome=false:=by rw [vC hf20];rfl
 refine zF ?_
 replace hm:=hm.dl [0]
 rw [show z4o o f=_ from by simp only [z4o, *];rfl];exact ⟨rfl,hm⟩
 obtain ⟨y24,hy25,rfl⟩:=vD hf20
 have hf20_:=congrArg (zG true (.string ⟨#[]⟩)) hf20
 refine Qq (fun a he =>?_) (o:=by exact fun he hs=>Ok.cast (zQ 2 runUnderlying70 runUnderlying9 zeroValue9 he hs rfl rfl rfl) (show zG true (.string ⟨#[]⟩) (yD ((yK o)) f.2)=.tuple (List.toArray [.string y24,.bool true]) from hf20_))
 have hn26:(zK o f.2).isSome=true:=by rw [hy25];rfl
 refine zF ?_
 replace hm:=hm.dl [0]
 rw [show z4o o f=_ from by simp only [z4o, *];rfl];exact ⟨rfl,hm⟩
end Go.Sw

namespace Go.Sw
open Go.Proofs.Tryz
open Go.Proofs
set_option maxRecDepth 20000
set_option maxHeartbeats 4000000
theorem RGraph.mono {Φ Ψ:Fz} {b:Addr} {g:Graph} (h:RGraph Φ b g) (hl:Φ.Le Ψ):RGraph Ψ b g:=by
 obtain ⟨d0,nd,fl,pm,nb,nm,h1,h2,h3,h4,h5,h6⟩:=h
 exact ⟨d0,nd,fl,pm,nb,nm,h1.mono hl,RCore.mono _ _ _ _ hl h2,h3.mono RStr.mono hl,h4.mono RFlow.mono hl,h5.mono hl,h6.mono fun _ _ h=>h.mono RStr.mono hl⟩
theorem y5t {Φ:Fz} {K:List Res} {w:World} {b:Addr} {g:Graph} {v:Value} {l:List Bs} (rg:RGraph Φ b g) (rl:SliceOf RStr Φ 1 v l) (hz:∀p∈g.core.inputs,p.name.size≤1000) (hni:g.core.inputs.length≤1000000000) (hn:g.nodes.length≤1000000000) (hm:Mem Φ K w) :
  Calls prog 43 (List.toArray [.pointer (some b),v]) w (fun ee w'=>ee=.returned (.bool (jP g.nodes g.flows (zO g.core) l))∧Mem Φ K w'):=by
 obtain ⟨d1,nd2,fl3,pm4,nb5,nm6,hat7,rc8,rn9,rf10,ma11,mr12⟩:=id rg
 have rc8o:=rc8
 obtain ⟨p15,c16,p21,c22,p27,c28,p33,c34,rfl,h14,h20,h26,h32,hm17,hn18,hm23,hn24,hm29,hn30,hm35,hn36⟩:=RCore.fm rc8
 obtain ⟨p37,c38,rfl,hmx39,hn40⟩:=rn9.fm
 obtain ⟨p41,c42,rfl,hmx43,hn44⟩:=rf10.fm
 obtain ⟨p45,c46,rfl,hmx47,hn48⟩:=rl.fm
 refine zN func43 ntmps43 fun Q hQ a he =>?_
 refine MkM fun b51 w hm a he =>?_
 replace hm:=hm.nf
 refine Alc fun b52 w hm a he =>?_
 refine Sto 0 fun w hm a he =>?_
 refine go fun a he =>?_
 refine yG (he.ks [0,1,5,9,10]) hm (fun R mm a w=>∃(i:Nat) (o0:From),mm=l.length - i∧R Φ [(11,.int .i64 ((i:Nat):Int))] [(1,.mp b51 (yK o0))] a w∧(jV l=(l.drop i).foldl (fun m s=>qX m s ⟨#[]⟩) o0)) (l.length - 0) ⟨0,[],rfl,⟨he.pk,hm⟩,rfl⟩ ?_
 clear hm he
 rintro mm a w ⟨i,o0,hmu,⟨he,hm⟩,hI56⟩ L55 hL55
 replace hm:=hm.nf
 by_cases h58:i < l.length
 refine go fun a he =>?_
 obtain ⟨q62,rfl,x63,hx64,cs65,hl66,ha67,hr68⟩:=rl.el hn48 h58
 obtain rfl:cs65=[.string x63]:=hr68
 refine tZ 1 runUnderlying70 runUnderlying9 fun w hm a he =>?_
 rw [nM] at hm
 refine go fun a he =>?_
 refine hL55 _ _ _ (by subst hmu;omega) ⟨(i+1),((qX o0 x63 (⟨#[]⟩:ByteArray))),rfl,⟨he.pk,hm⟩,?_⟩
 rw [hI56,zA hx64];rfl
 refine go fun a he =>?_
 have ho_:jV l=o0:=by have h_:=hI56;rw [zH h58] at h_;exact h_
 subst ho_
 replace hm:=hm.pl 1
 refine qV call42 (fun y72 w hG73 hm a he =>?_) (c:=z4m (o:=(jV l)) rg hn hm)
 replace hm:=hm.nf
 have hm0_:=hm
 clear hm
 obtain ⟨Ψ74,le75,hm,hrow76⟩:=hm0_.freezeRow (i:=0) rfl
 clear hm0_
 replace rf10:=rf10.mono RFlow.mono le75
 replace hat7:=hat7.mono le75
 replace rc8o:=RCore.mono _ _ _ _ le75 rc8o
 replace rl:=rl.up le75
 replace rg:=rg.mono le75
 replace hm:=hm.nf
 have hsl77:SliceOf RStr Ψ74 1 _ ((jO g.nodes (jV l))):=SliceOf.strs.2 hrow76
 obtain ⟨p78,c79,hv_,hm80,hn81⟩:=hsl77.form (by decide)
 have hmk_:=hm
 clear hm
 subst hv_
 have hm:=hmk_
 clear hmk_
 refine yH call68 (fun hB82 w hm a he =>?_) (fun hB82 w hm a he =>?_) (c:=j8o hsl77 rl hm)
 refine qV call39 (fun y85 w hG86 hm a he =>?_) (c:=cF rg hz hni hm)
 replace hm:=hm.nf
 have hm0_:=hm
 clear hm
 obtain ⟨Ψ87,le88,hm,hrow89⟩:=hm0_.freezeRow (i:=0) rfl
 clear hm0_
 replace rf10:=rf10.mono RFlow.mono le88
 replace hat7:=hat7.mono le88
 replace rc8o:=RCore.mono _ _ _ _ le88 rc8o
 replace hm:=hm.nf
 have hsl90:SliceOf RStr Ψ87 1 _ ((zO g.core)):=SliceOf.strs.2 hrow89
 obtain ⟨p91,c92,hv_,hm93,hn94⟩:=hsl90.form (by decide)
 have hmk_:=hm
 clear hm
 subst hv_
 have hm:=hmk_
 clear hmk_
 replace hm:=hm.pl 1
 refine yH call69 (fun hB95 w hm a he =>?_) (fun hB95 w hm a he =>?_) (c:=uA (Φ:=Ψ87) (K:=.blk b52 (ob [.map (some b51)] 70)::.mp b51 (yK (jV l))::K) (p:=fun s => !(zK (jV l) s).isSome) (fs:=[]) (cs:=[.pointer (some ⟨b52,0,none⟩)]) hsl90 call70 (fun x c w hx hc hm=>j0x hm) hm)
 refine zF ?_
 replace hm:=hm.le ((le75).trans le88)
 replace hm:=hm.dl [1,0]
 rw [j1a hB95];exact ⟨rfl,hm⟩
 replace hm:=hm.ar [] [1,1]
 refine zT call71 (fun w hm a he =>?_) (c:=q1v (Φ:=Ψ87) (K:=.blk b52 (ob [.map (some b51)] 70)::.mp b51 (yK (jV l))::K) (p:=z4o (jV l)) (fs:=[]) (cs:=[.pointer (some ⟨b52,0,none⟩)]) rf10 call72 (fun x c w hx hc hm=>j0y hc hm) hm)
 refine zF ?_
 replace hm:=hm.le ((le75).trans le88)
 replace hm:=hm.dl [1,0]
 rw [j1b (of_decide_eq_true hB82) hB95];exact ⟨rfl,hm⟩
 refine zF ?_
 replace hm:=hm.le (le75)
 replace hm:=hm.dl [1,0]
 rw [j0z (of_decide_eq_false hB82)];exact ⟨rfl,hm⟩
end Go.Sw
