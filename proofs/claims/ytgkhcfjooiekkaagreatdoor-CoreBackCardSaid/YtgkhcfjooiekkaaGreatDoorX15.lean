import Derived.Test.YtgkhcfjooiekkaaGreatDoorProg
import Derived.Test.YtgkhcfjooiekkaaGreatDoorX04
import Derived.Test.YtgkhcfjooiekkaaGreatDoorX07
import Derived.Test.YtgkhcfjooiekkaaGreatDoorX09
import Derived.Test.YtgkhcfjooiekkaaGreatDoorX10
import Derived.Test.YtgkhcfjooiekkaaGreatDoorX11
import Derived.Test.YtgkhcfjooiekkaaGreatDoorX12
import Derived.Test.YtgkhcfjooiekkaaGreatDoorX14
set_option linter.unusedVariables false
set_option linter.unusedSimpArgs false
namespace Go.Sw
open Go.Proofs.Tryz
open Go.Proofs
set_option maxRecDepth 20000
set_option maxHeartbeats 4000000
theorem sameData_ok {Φ:Fz} {K:List Res} {w:World} {d0:List Value} {v:Data} {d1:List Value} {u:Data} (rpv:RData Φ d0 v) (rpu:RData Φ d1 u) (hm:Mem Φ K w) :
  Calls Tryz.prog 78 (List.toArray [.agg d0.toArray,.agg d1.toArray]) w (fun ee w'=>ee=.returned (.bool (sameD v u))∧Mem Φ K w'):=by
 obtain ⟨s1,rfl,h2⟩:=id rpv
 obtain ⟨p3,c4,rfl,hm5,hn6⟩:=h2.fm
 obtain ⟨s7,rfl,h8⟩:=id rpu
 obtain ⟨p9,c10,rfl,hm11,hn12⟩:=h8.fm
 refine z0m func78 ntmps78 fun Q hQ a he =>?_
 refine sq fun L13 hL13 =>?_
 refine go0 he hm fun a he =>?_
 refine Bx he hm fun b14 w hm a he =>?_
 refine Bx he hm fun b15 w hm a he =>?_
 refine go0 he hm fun a he =>?_
 refine hL13 _ _ ?_
 refine sq fun L16 hL16 =>?_
 have hJ17:∀a w,(∃(o:Bool),EnvR 60 [(2,.pointer (some ⟨b14,0,none⟩)),(3,.pointer (some ⟨b15,0,none⟩)),(5,.bool o)] [] a∧Mem Φ (.blk b15 (ob [.string u.name,.slice p9 u.cons.length c10] 133)::.blk b14 (ob [.string v.name,.slice p3 v.cons.length c4] 133)::K) w∧(o=(decide (v.name=u.name)&&decide (v.cons.length=u.cons.length))))→L16 a w:=by
  clear hm he
  rintro a w ⟨o,he,hm,hI18⟩
  refine hL16 _ _ ?_
  refine sq fun L19 hL19 =>?_
  refine sq fun L20 hL20 =>?_
  refine go0 he hm fun a he =>?_
  refine hL20 _ _ ?_
  refine go0 he hm fun a he =>?_
  refine z1l (he.ks [2,3]) hm (fun R mm a w=>∃(i:Nat) (o:Bool),mm=v.cons.length - i∧R Φ [(5,.bool o),(6,.int .i64 ((i:Nat):Int))] [] a w∧(sameD v u=(o&&sameKs (v.cons.drop i) (u.cons.drop i))∧(o=true→v.cons.length=u.cons.length))) (v.cons.length - 0) ⟨0,o,rfl,⟨he.pk,hm⟩,⟨by rw [hI18];rfl,fun h=>by rw [hI18] at h;simp only [Bool.and_eq_true,decide_eq_true_eq] at h;exact h.2⟩⟩ ?_
  clear hm he
  rintro mm a w ⟨i,o,hmu,⟨he,hm⟩,hI22⟩ L21 hL21
  obtain ⟨hI_,hln_⟩:=hI22
  refine sq fun L23 hL23 =>?_
  refine sq fun L24 hL24 =>?_
  refine go0 he hm fun a he =>?_
  by_cases h25:i < v.cons.length
  refine go0 he hm fun a he =>?_
  refine hL24 _ _ ?_
  cases o
  refine go0 he hm fun a he =>?_
  refine hL19 _ _ ?_
  refine sq fun L26 hL26 =>?_
  refine go0 he hm fun a he =>?_
  refine hL26 _ _ ?_
  refine go0 he hm fun a he =>?_
  replace hm:=hm.dl [1,0]
  refine Ret1 hQ he hm ?_
  exact z0w hm (by rw [hI_,Bool.false_and])
  refine go0 he hm fun a he =>?_
  refine hL23 _ _ ?_
  refine sq fun L27 hL27 =>?_
  refine go0 he hm fun a he =>?_
  refine Reg [1,2,1,1,1,2,1,2,1,1,1,2,1,1,1,2,1,1,1,2,1,2,1,1,1,2,0,1,1] [0,1] he hm fun w hm a he =>?_
  have hlt28:i < u.cons.length:=by rw [← hln_ rfl];exact h25
  refine go0 he hm fun a he =>?_
  obtain ⟨q29,rfl,x30,hx31,cs32,hl33,ha34,hr35⟩:=h2.el hn6 h25
  obtain ⟨s36,rfl,h37⟩:=id hr35
  obtain ⟨p38,c39,rfl,hm40,hn41⟩:=h37.fm
  refine go0 he hm fun a he =>?_
  obtain ⟨q42,rfl,x43,hx44,cs45,hl46,ha47,hr48⟩:=h8.el hn12 hlt28
  obtain ⟨s49,rfl,h50⟩:=id hr48
  obtain ⟨p51,c52,rfl,hm53,hn54⟩:=h50.fm
  refine go0 he hm fun a he =>?_
  by_cases h55:x30.name=x43.name
  refine go0 he hm fun a he =>?_
  refine z0x call42 he hm (fun w hm a he =>?_) (c:=sameTexts_ok h37 h50 hm)
  refine go0 he hm fun a he =>?_
  refine hL27 _ _ ?_
  refine go0 he hm fun a he =>?_
  refine hL21 _ _ _ (by subst hmu;omega) ⟨(i+1),((sameT x30.fields x43.fields)),rfl,⟨he.pk,hm⟩,?_⟩
  exact ⟨by rw [show x30=x30 from Option.some.inj (hx31.symm.trans hx31),show x43=x43 from Option.some.inj (hx44.symm.trans hx44)];rw [hI_,z0a hx31,z0a hx44,sameKs_cons,Bool.true_and];simp [h55],fun _=>hln_ rfl⟩
  refine go0 he hm fun a he =>?_
  refine hL27 _ _ ?_
  refine go0 he hm fun a he =>?_
  refine hL21 _ _ _ (by subst hmu;omega) ⟨(i+1),(false),rfl,⟨he.pk,hm⟩,?_⟩
  exact ⟨by rw [hI_,z0a hx31,z0a hx44,sameKs_cons,Bool.true_and];simp [h55],fun _=>hln_ rfl⟩
  refine go0 he hm fun a he =>?_
  refine hL24 _ _ ?_
  refine go0 he hm fun a he =>?_
  refine hL19 _ _ ?_
  refine sq fun L56 hL56 =>?_
  refine go0 he hm fun a he =>?_
  refine hL56 _ _ ?_
  refine go0 he hm fun a he =>?_
  replace hm:=hm.dl [1,0]
  refine Ret1 hQ he hm ?_
  exact z0w hm (by rw [hI_,z0g h25,sameKs_nil,Bool.and_true])
 refine go0 he hm fun a he =>?_
 by_cases h57:v.name=u.name
 refine go0 he hm fun a he =>?_
 by_cases h58:v.cons.length=u.cons.length
 refine go0 he hm fun a he =>?_
 exact hJ17 _ _ ⟨true,he.pk,hm,by simp [h57,h58]⟩
 refine go0 he hm fun a he =>?_
 exact hJ17 _ _ ⟨false,he.pk,hm,by simp [h57,h58]⟩
 refine go0 he hm fun a he =>?_
 exact hJ17 _ _ ⟨false,he.pk,hm,by simp [h57]⟩
theorem sameExpr_step {Φ:Fz} {K:List Res} {w:World} {d0:List Value} {v:Ex} {d1:List Value} {u:Ex} (rpv:REx Φ d0 v) (rpu:REx Φ d1 u) (ih:∀x:Ex,x.sz < v.sz→∀{Φ:Fz} {K:List Res} {w:World} {d e:List Value} {u:Ex},REx Φ d x→REx Φ e u→Mem Φ K w→Calls Tryz.prog 79 (List.toArray [.agg d.toArray,.agg e.toArray]) w (fun ee w'=>ee=.returned (.bool (y2a x u))∧Mem Φ K w')) (hm:Mem Φ K w) :
  Calls Tryz.prog 79 (List.toArray [.agg d0.toArray,.agg d1.toArray]) w (fun ee w'=>ee=.returned (.bool (y2a v u))∧Mem Φ K w'):=by
 obtain ⟨p3,c4,p9,c10,rfl,hi13,h2,h8,hm5,hn6,hm11,hn12⟩:=REx.fm rpv
 obtain ⟨p16,c17,p22,c23,rfl,hi26,h15,h21,hm18,hn19,hm24,hn25⟩:=REx.fm rpu
 refine z0m func79 ntmps79 fun Q hQ a he =>?_
 refine sq fun L27 hL27 =>?_
 refine go0 he hm fun a he =>?_
 refine Bx he hm fun b28 w hm a he =>?_
 refine Bx he hm fun b29 w hm a he =>?_
 refine go0 he hm fun a he =>?_
 refine hL27 _ _ ?_
 refine sq fun L30 hL30 =>?_
 have hJ31:∀a w,(∃(o:Bool),EnvR 120 [(2,.pointer (some ⟨b28,0,none⟩)),(3,.pointer (some ⟨b29,0,none⟩)),(5,.bool o)] [] a∧Mem Φ (.blk b29 (ob [.int .i64 (u.kind),.int .i64 (u.num),.string u.name,.slice p16 u.args.length c17,.slice p22 u.arms.length c23] 66)::.blk b28 (ob [.int .i64 (v.kind),.int .i64 (v.num),.string v.name,.slice p3 v.args.length c4,.slice p9 v.arms.length c10] 66)::K) w∧(o=((((decide (v.kind=u.kind)&&decide (v.num=u.num))&&decide (v.name=u.name))&&decide (v.args.length=u.args.length))&&decide (v.arms.length=u.arms.length))))→L30 a w:=by
  clear hm he
  rintro a w ⟨o,he,hm,hI32⟩
  refine hL30 _ _ ?_
  refine sq fun L33 hL33 =>?_
  have hJ34:∀a w,(∃(o1:Bool),EnvR 120 [(2,.pointer (some ⟨b28,0,none⟩)),(3,.pointer (some ⟨b29,0,none⟩)),(5,.bool o1)] [] a∧Mem Φ (.blk b29 (ob [.int .i64 (u.kind),.int .i64 (u.num),.string u.name,.slice p16 u.args.length c17,.slice p22 u.arms.length c23] 66)::.blk b28 (ob [.int .i64 (v.kind),.int .i64 (v.num),.string v.name,.slice p3 v.args.length c4,.slice p9 v.arms.length c10] 66)::K) w∧(y2a v u=(o1&&sameAs v.arms u.arms)∧(o1=true→v.arms.length=u.arms.length)))→L33 a w:=by
   clear hm he
   rintro a w ⟨o1,he,hm,hI35⟩
   refine hL33 _ _ ?_
   refine sq fun L36 hL36 =>?_
   refine sq fun L37 hL37 =>?_
   refine go0 he hm fun a he =>?_
   refine hL37 _ _ ?_
   refine go0 he hm fun a he =>?_
   refine z1l (he.ks [2,3]) hm (fun R mm a w=>∃(k:Nat) (o2:Bool),mm=v.arms.length - k∧R Φ [(5,.bool o2),(7,.int .i64 ((k:Nat):Int))] [] a w∧(y2a v u=(o2&&sameAs (v.arms.drop k) (u.arms.drop k))∧(o2=true→v.arms.length=u.arms.length))) (v.arms.length - 0) ⟨0,o1,rfl,⟨he.pk,hm⟩,⟨hI35.1,hI35.2⟩⟩ ?_
   clear hm he
   rintro mm a w ⟨k,o2,hmu,⟨he,hm⟩,hI39⟩ L38 hL38
   obtain ⟨hI_,hln_⟩:=hI39
   refine sq fun L40 hL40 =>?_
   refine sq fun L41 hL41 =>?_
   refine go0 he hm fun a he =>?_
   by_cases h42:k < v.arms.length
   refine go0 he hm fun a he =>?_
   refine hL41 _ _ ?_
   cases o2
   refine go0 he hm fun a he =>?_
   refine hL36 _ _ ?_
   refine sq fun L43 hL43 =>?_
   refine go0 he hm fun a he =>?_
   refine hL43 _ _ ?_
   refine go0 he hm fun a he =>?_
   replace hm:=hm.dl [1,0]
   refine Ret1 hQ he hm ?_
   exact z0w hm (by rw [hI_,Bool.false_and])
   refine go0 he hm fun a he =>?_
   refine hL40 _ _ ?_
   refine sq fun L44 hL44 =>?_
   refine go0 he hm fun a he =>?_
   refine Reg [1,2,1,1,1,2,1,2,1,1,1,2,1,1,1,2,1,1,1,2,1,2,1,1,1,2,0,1,1,1,2,1,1,1,2,1,2,1,1,1,2,0,1,1] [0,1] he hm fun w hm a he =>?_
   have hlt45:k < u.arms.length:=by rw [← hln_ rfl];exact h42
   refine go0 he hm fun a he =>?_
   obtain ⟨q46,rfl,x47,hx48,cs49,hl50,ha51,hr52⟩:=h8.el hn12 h42
   obtain ⟨s53,b59,rfl,h54,h60⟩:=RArm.iff.1 hr52
   obtain ⟨p55,c56,rfl,hm57,hn58⟩:=h54.fm
   obtain ⟨p63,c64,p69,c70,rfl,hi73,h62,h68,hm65,hn66,hm71,hn72⟩:=REx.fm h60
   refine go0 he hm fun a he =>?_
   obtain ⟨q74,rfl,x75,hx76,cs77,hl78,ha79,hr80⟩:=h21.el hn25 hlt45
   obtain ⟨s81,b87,rfl,h82,h88⟩:=RArm.iff.1 hr80
   obtain ⟨p83,c84,rfl,hm85,hn86⟩:=h82.fm
   obtain ⟨p91,c92,p97,c98,rfl,hi101,h90,h96,hm93,hn94,hm99,hn100⟩:=REx.fm h88
   refine go0 he hm fun a he =>?_
   by_cases h102:x47.con=x75.con
   refine go0 he hm fun a he =>?_
   refine z0x call42 he hm (fun w hm a he =>?_) (c:=sameTexts_ok h54 h82 hm)
   refine go0 he hm fun a he =>?_
   generalize hb104:(sameT x47.vars x75.vars)=bb103 at he
   cases bb103
   refine go0 he hm fun a he =>?_
   refine hL44 _ _ ?_
   refine go0 he hm fun a he =>?_
   refine hL38 _ _ _ (by subst hmu;omega) ⟨(k+1),(false),rfl,⟨he.pk,hm⟩,?_⟩
   exact ⟨by rw [hI_,z0a hx48,z0a hx76,sameAs_cons,Bool.true_and];simp [*],fun _=>hln_ rfl⟩
   refine go0 he hm fun a he =>?_
   refine Qq he hm (fun a he =>?_) (o:=by exact fun _ _ _ he hs=>y_load_atA 2 (vs:=[.int .i64 (x47.body.kind),.int .i64 (x47.body.num),.string x47.body.name,.slice p63 x47.body.args.length c64,.slice p69 x47.body.arms.length c70]) he hs rfl ha51 isAgg66 sizeOf66 rfl rfl)
   refine go0 he hm fun a he =>?_
   refine Qq he hm (fun a he =>?_) (o:=by exact fun _ _ _ he hs=>y_load_atA 2 (vs:=[.int .i64 (x75.body.kind),.int .i64 (x75.body.num),.string x75.body.name,.slice p91 x75.body.args.length c92,.slice p97 x75.body.arms.length c98]) he hs rfl ha79 isAgg66 sizeOf66 rfl rfl)
   refine z0x call79 he hm (fun w hm a he =>?_) (c:=ih _ (Ex.lt_arms (List.mem_of_getElem? hx48)) h60 h88 hm)
   refine go0 he hm fun a he =>?_
   refine hL44 _ _ ?_
   refine go0 he hm fun a he =>?_
   refine hL38 _ _ _ (by subst hmu;omega) ⟨(k+1),((y2a x47.body x75.body)),rfl,⟨he.pk,hm⟩,?_⟩
   exact ⟨by rw [hI_,z0a hx48,z0a hx76,sameAs_cons,Bool.true_and];simp [*],fun _=>hln_ rfl⟩
   refine go0 he hm fun a he =>?_
   refine hL44 _ _ ?_
   refine go0 he hm fun a he =>?_
   refine hL38 _ _ _ (by subst hmu;omega) ⟨(k+1),(false),rfl,⟨he.pk,hm⟩,?_⟩
   exact ⟨by rw [hI_,z0a hx48,z0a hx76,sameAs_cons,Bool.true_and];simp [*],fun _=>hln_ rfl⟩
   refine go0 he hm fun a he =>?_
   refine hL41 _ _ ?_
   refine go0 he hm fun a he =>?_
   refine hL36 _ _ ?_
   refine sq fun L105 hL105 =>?_
   refine go0 he hm fun a he =>?_
   refine hL105 _ _ ?_
   refine go0 he hm fun a he =>?_
   replace hm:=hm.dl [1,0]
   refine Ret1 hQ he hm ?_
   exact z0w hm (by rw [hI_,z0g h42,sameAs_nil,Bool.and_true])
  refine sq fun L106 hL106 =>?_
  refine go0 he hm fun a he =>?_
  refine hL106 _ _ ?_
  refine go0 he hm fun a he =>?_
  refine z1l (he.ks [2,3]) hm (fun R mm a w=>∃(i:Nat) (o:Bool),mm=v.args.length - i∧R Φ [(5,.bool o),(6,.int .i64 ((i:Nat):Int))] [] a w∧(y2a v u=(o&&(sameXs (v.args.drop i) (u.args.drop i)&&sameAs v.arms u.arms))∧(o=true→v.args.length=u.args.length∧v.arms.length=u.arms.length))) (v.args.length - 0) ⟨0,o,rfl,⟨he.pk,hm⟩,⟨by rw [hI32];exact sameX_eq v u,fun h=>by rw [hI32] at h;simp only [Bool.and_eq_true,decide_eq_true_eq] at h;exact ⟨h.1.2,h.2⟩⟩⟩ ?_
  clear hm he
  rintro mm a w ⟨i,o,hmu,⟨he,hm⟩,hI108⟩ L107 hL107
  obtain ⟨hI_,hln_⟩:=hI108
  refine sq fun L109 hL109 =>?_
  refine sq fun L110 hL110 =>?_
  refine go0 he hm fun a he =>?_
  by_cases h111:i < v.args.length
  refine go0 he hm fun a he =>?_
  refine hL110 _ _ ?_
  cases o
  refine go0 he hm fun a he =>?_
  exact hJ34 _ _ ⟨false,he.pk,hm,⟨by rw [hI_,Bool.false_and,Bool.false_and],fun h=>by cases h⟩⟩
  refine go0 he hm fun a he =>?_
  refine hL109 _ _ ?_
  refine sq fun L112 hL112 =>?_
  refine go0 he hm fun a he =>?_
  refine Reg [1,2,1,1,2,1,2,1,1,2,0,1] [0,1] he hm fun w hm a he =>?_
  have hlt113:i < u.args.length:=by rw [← (hln_ rfl).1];exact h111
  refine go0 he hm fun a he =>?_
  obtain ⟨q114,rfl,x115,hx116,cs117,hl118,ha119,hr120⟩:=h2.el hn6 h111
  obtain ⟨p123,c124,p129,c130,rfl,hi133,h122,h128,hm125,hn126,hm131,hn132⟩:=REx.fm hr120
  refine go0 he hm fun a he =>?_
  obtain ⟨q134,rfl,x135,hx136,cs137,hl138,ha139,hr140⟩:=h15.el hn19 hlt113
  obtain ⟨p143,c144,p149,c150,rfl,hi153,h142,h148,hm145,hn146,hm151,hn152⟩:=REx.fm hr140
  refine go0 he hm fun a he =>?_
  refine z0x call79 he hm (fun w hm a he =>?_) (c:=ih _ (Ex.lt_args (List.mem_of_getElem? hx116)) hr120 hr140 hm)
  refine go0 he hm fun a he =>?_
  refine hL112 _ _ ?_
  refine go0 he hm fun a he =>?_
  refine hL107 _ _ _ (by subst hmu;omega) ⟨(i+1),((y2a x115 x135)),rfl,⟨he.pk,hm⟩,?_⟩
  exact ⟨by rw [hI_,z0a hx116,z0a hx136,sameXs_cons,Bool.true_and,Bool.and_assoc],fun _=>hln_ rfl⟩
  refine go0 he hm fun a he =>?_
  refine hL110 _ _ ?_
  refine go0 he hm fun a he =>?_
  exact hJ34 _ _ ⟨o,he.pk,hm,⟨by rw [hI_,z0g h111,sameXs_nil,Bool.true_and],fun h=>(hln_ h).2⟩⟩
 refine go0 he hm fun a he =>?_
 by_cases h154:v.kind=u.kind
 refine go0 he hm fun a he =>?_
 by_cases h155:v.num=u.num
 refine go0 he hm fun a he =>?_
 by_cases h156:v.name=u.name
 refine go0 he hm fun a he =>?_
 by_cases h157:v.args.length=u.args.length
 refine go0 he hm fun a he =>?_
 by_cases h158:v.arms.length=u.arms.length
 refine go0 he hm fun a he =>?_
 exact hJ31 _ _ ⟨true,he.pk,hm,by simp [h154,h155,h156,h157,h158]⟩
 refine go0 he hm fun a he =>?_
 exact hJ31 _ _ ⟨false,he.pk,hm,by simp [h154,h155,h156,h157,h158]⟩
 refine go0 he hm fun a he =>?_
 exact hJ31 _ _ ⟨false,he.pk,hm,by simp [h154,h155,h156,h157]⟩
 refine go0 he hm fun a he =>?_
 exact hJ31 _ _ ⟨false,he.pk,hm,by simp [h154,h155,h156]⟩
 refine go0 he hm fun a he =>?_
 exact hJ31 _ _ ⟨false,he.pk,hm,by simp [h154,h155]⟩
 refine go0 he hm fun a he =>?_
 exact hJ31 _ _ ⟨false,he.pk,hm,by simp [h154]⟩
theorem sameExpr_ok {v u:Ex} {Φ:Fz} {K:List Res} {w:World} {d e:List Value} (hv:REx Φ d v) (hu:REx Φ e u) (hm:Mem Φ K w):Calls Tryz.prog 79 (List.toArray [.agg d.toArray,.agg e.toArray]) w (fun ee w'=>ee=.returned (.bool (y2a v u))∧Mem Φ K w'):=by
 have:∀n,∀v:Ex,v.sz < n→∀{Φ:Fz} {K:List Res} {w:World} {d e:List Value} {u:Ex},REx Φ d v→REx Φ e u→Mem Φ K w→Calls Tryz.prog 79 (List.toArray [.agg d.toArray,.agg e.toArray]) w (fun ee w'=>ee=.returned (.bool (y2a v u))∧Mem Φ K w'):=by
  intro n
  induction n with
  | zero=>intro v h;omega
  | succ n ih =>
   intro v hs Φ K w d e u hv hu hm
   exact sameExpr_step hv hu (fun x hx {Φ K w d e u} h1 h2 h3=>ih x (by omega) h1 h2 h3) hm
 exact this (v.sz+1) v (Nat.lt_succ_self _) hv hu hm
end Go.Sw

namespace Go.Sw
open Go.Proofs.Tryz
open Go.Proofs
set_option maxRecDepth 20000
set_option maxHeartbeats 4000000
theorem same_ok {Φ:Fz} {K:List Res} {w:World} {d0:List Value} {v:Core} {d1:List Value} {u:Core} (rpv:RCore Φ d0 v) (rpu:RCore Φ d1 u) (hm:Mem Φ K w) :
  Calls Tryz.prog 27 (List.toArray [.agg d0.toArray,.agg d1.toArray]) w (fun ee w'=>ee=.returned (.bool (sameC v u))∧Mem Φ K w'):=by
 obtain ⟨p3,c4,p9,c10,p15,c16,p21,c22,rfl,h2,h8,h14,h20,hm5,hn6,hm11,hn12,hm17,hn18,hm23,hn24⟩:=RCore.fm rpv
 obtain ⟨p27,c28,p33,c34,p39,c40,p45,c46,rfl,h26,h32,h38,h44,hm29,hn30,hm35,hn36,hm41,hn42,hm47,hn48⟩:=RCore.fm rpu
 refine z0m func27 ntmps27 fun Q hQ a he =>?_
 refine sq fun L49 hL49 =>?_
 refine go0 he hm fun a he =>?_
 refine Bx he hm fun b50 w hm a he =>?_
 refine Bx he hm fun b51 w hm a he =>?_
 refine go0 he hm fun a he =>?_
 refine hL49 _ _ ?_
 refine sq fun L52 hL52 =>?_
 have hJ53:∀a w,(∃(o:Bool),EnvR 108 [(2,.pointer (some ⟨b50,0,none⟩)),(3,.pointer (some ⟨b51,0,none⟩)),(5,.bool o)] [] a∧Mem Φ (.blk b51 (ob [.slice p27 u.datas.length c28,.slice p33 u.inputs.length c34,.slice p39 u.funs.length c40,.slice p45 u.outputs.length c46] 27)::.blk b50 (ob [.slice p3 v.datas.length c4,.slice p9 v.inputs.length c10,.slice p15 v.funs.length c16,.slice p21 v.outputs.length c22] 27)::K) w∧(o=(((decide (v.datas.length=u.datas.length)&&sameP v.inputs u.inputs)&&decide (v.funs.length=u.funs.length))&&sameT v.outputs u.outputs)))→L52 a w:=by
  clear hm he
  rintro a w ⟨o,he,hm,hI54⟩
  refine hL52 _ _ ?_
  refine sq fun L55 hL55 =>?_
  have hJ56:∀a w,(∃(o1:Bool),EnvR 108 [(2,.pointer (some ⟨b50,0,none⟩)),(3,.pointer (some ⟨b51,0,none⟩)),(5,.bool o1)] [] a∧Mem Φ (.blk b51 (ob [.slice p27 u.datas.length c28,.slice p33 u.inputs.length c34,.slice p39 u.funs.length c40,.slice p45 u.outputs.length c46] 27)::.blk b50 (ob [.slice p3 v.datas.length c4,.slice p9 v.inputs.length c10,.slice p15 v.funs.length c16,.slice p21 v.outputs.length c22] 27)::K) w∧(sameC v u=(o1&&sameFs v.funs u.funs)∧(o1=true→v.funs.length=u.funs.length)))→L55 a w:=by
   clear hm he
   rintro a w ⟨o1,he,hm,hI57⟩
   refine hL55 _ _ ?_
   refine sq fun L58 hL58 =>?_
   refine sq fun L59 hL59 =>?_
   refine go0 he hm fun a he =>?_
   refine hL59 _ _ ?_
   refine go0 he hm fun a he =>?_
   refine z1l (he.ks [2,3]) hm (fun R mm a w=>∃(k:Nat) (o2:Bool),mm=v.funs.length - k∧R Φ [(5,.bool o2),(7,.int .i64 ((k:Nat):Int))] [] a w∧(sameC v u=(o2&&sameFs (v.funs.drop k) (u.funs.drop k))∧(o2=true→v.funs.length=u.funs.length))) (v.funs.length - 0) ⟨0,o1,rfl,⟨he.pk,hm⟩,⟨hI57.1,hI57.2⟩⟩ ?_
   clear hm he
   rintro mm a w ⟨k,o2,hmu,⟨he,hm⟩,hI61⟩ L60 hL60
   obtain ⟨hI_,hln_⟩:=hI61
   refine sq fun L62 hL62 =>?_
   refine sq fun L63 hL63 =>?_
   refine go0 he hm fun a he =>?_
   by_cases h64:k < v.funs.length
   refine go0 he hm fun a he =>?_
   refine hL63 _ _ ?_
   cases o2
   refine go0 he hm fun a he =>?_
   refine hL58 _ _ ?_
   refine sq fun L65 hL65 =>?_
   refine go0 he hm fun a he =>?_
   refine hL65 _ _ ?_
   refine go0 he hm fun a he =>?_
   replace hm:=hm.dl [1,0]
   refine Ret1 hQ he hm ?_
   exact z0w hm (by rw [hI_,Bool.false_and])
   refine go0 he hm fun a he =>?_
   refine hL62 _ _ ?_
   refine sq fun L66 hL66 =>?_
   refine go0 he hm fun a he =>?_
   refine sq fun L67 hL67 =>?_
   refine go0 he hm fun a he =>?_
   obtain ⟨q68,rfl,x69,hx70,cs71,hl72,ha73,hr74⟩:=h14.el hn18 h64
   obtain ⟨s75,b81,rfl,h76,h82⟩:=id hr74
   obtain ⟨p77,c78,rfl,hm79,hn80⟩:=h76.fm
   obtain ⟨p85,c86,p91,c92,rfl,hi95,h84,h90,hm87,hn88,hm93,hn94⟩:=REx.fm h82
   refine go0 he hm fun a he =>?_
   refine Alc he hm fun b96 w hm a he =>?_
   refine Sto 0 he hm fun w hm a he =>?_
   refine go0 he hm fun a he =>?_
   refine hL67 _ _ ?_
   refine sq fun L97 hL97 =>?_
   refine go0 he hm fun a he =>?_
   have hlt98:k < u.funs.length:=by rw [← hln_ rfl];exact h64
   refine go0 he hm fun a he =>?_
   obtain ⟨q99,rfl,x100,hx101,cs102,hl103,ha104,hr105⟩:=h38.el hn42 hlt98
   obtain ⟨s106,b112,rfl,h107,h113⟩:=id hr105
   obtain ⟨p108,c109,rfl,hm110,hn111⟩:=h107.fm
   obtain ⟨p116,c117,p122,c123,rfl,hi126,h115,h121,hm118,hn119,hm124,hn125⟩:=REx.fm h113
   refine go0 he hm fun a he =>?_
   refine Alc he hm fun b127 w hm a he =>?_
   refine Sto 0 he hm fun w hm a he =>?_
   refine go0 he hm fun a he =>?_
   refine hL97 _ _ ?_
   refine go0 he hm fun a he =>?_
   by_cases h128:x69.name=x100.name
   refine go0 he hm fun a he =>?_
   by_cases h129:x69.result=x100.result
   refine go0 he hm fun a he =>?_
   refine z0x call77 he hm (fun w hm a he =>?_) (c:=sameParams_ok h76 h107 hm)
   refine go0 he hm fun a he =>?_
   generalize hb131:(sameP x69.params x100.params)=bb130 at he
   cases bb130
   refine go0 he hm fun a he =>?_
   refine hL66 _ _ ?_
   refine go0 he hm fun a he =>?_
   replace hm:=hm.dl [1,0]
   refine hL60 _ _ _ (by subst hmu;omega) ⟨(k+1),(false),rfl,⟨he.pk,hm⟩,?_⟩
   exact ⟨by rw [hI_,z0a hx70,z0a hx101,z8w,Bool.true_and];simp [sameF1, *],fun _=>hln_ rfl⟩
   refine go0 he hm fun a he =>?_
   refine z0x call79 he hm (fun w hm a he =>?_) (c:=sameExpr_ok h82 h113 hm)
   refine go0 he hm fun a he =>?_
   refine hL66 _ _ ?_
   refine go0 he hm fun a he =>?_
   replace hm:=hm.dl [1,0]
   refine hL60 _ _ _ (by subst hmu;omega) ⟨(k+1),((y2a x69.body x100.body)),rfl,⟨he.pk,hm⟩,?_⟩
   exact ⟨by rw [hI_,z0a hx70,z0a hx101,z8w,Bool.true_and];simp [sameF1, *],fun _=>hln_ rfl⟩
   refine go0 he hm fun a he =>?_
   refine hL66 _ _ ?_
   refine go0 he hm fun a he =>?_
   replace hm:=hm.dl [1,0]
   refine hL60 _ _ _ (by subst hmu;omega) ⟨(k+1),(false),rfl,⟨he.pk,hm⟩,?_⟩
   exact ⟨by rw [hI_,z0a hx70,z0a hx101,z8w,Bool.true_and];simp [sameF1, *],fun _=>hln_ rfl⟩
   refine go0 he hm fun a he =>?_
   refine hL66 _ _ ?_
   refine go0 he hm fun a he =>?_
   replace hm:=hm.dl [1,0]
   refine hL60 _ _ _ (by subst hmu;omega) ⟨(k+1),(false),rfl,⟨he.pk,hm⟩,?_⟩
   exact ⟨by rw [hI_,z0a hx70,z0a hx101,z8w,Bool.true_and];simp [sameF1, *],fun _=>hln_ rfl⟩
   refine go0 he hm fun a he =>?_
   refine hL63 _ _ ?_
   refine go0 he hm fun a he =>?_
   refine hL58 _ _ ?_
   refine sq fun L132 hL132 =>?_
   refine go0 he hm fun a he =>?_
   refine hL132 _ _ ?_
   refine go0 he hm fun a he =>?_
   replace hm:=hm.dl [1,0]
   refine Ret1 hQ he hm ?_
   exact z0w hm (by rw [hI_,z0g h64,sameFs_nil,Bool.and_true])
  refine sq fun L133 hL133 =>?_
  refine go0 he hm fun a he =>?_
  refine hL133 _ _ ?_
  refine go0 he hm fun a he =>?_
  refine z1l (he.ks [2,3]) hm (fun R mm a w=>∃(i:Nat) (o:Bool),mm=v.datas.length - i∧R Φ [(5,.bool o),(6,.int .i64 ((i:Nat):Int))] [] a w∧(sameC v u=(o&&(sameDs (v.datas.drop i) (u.datas.drop i)&&sameFs v.funs u.funs))∧(o=true→v.datas.length=u.datas.length∧v.funs.length=u.funs.length))) (v.datas.length - 0) ⟨0,o,rfl,⟨he.pk,hm⟩,⟨by rw [hI54];rfl,fun h=>by rw [hI54] at h;simp only [Bool.and_eq_true,decide_eq_true_eq] at h;exact ⟨h.1.1.1,h.1.2⟩⟩⟩ ?_
  clear hm he
  rintro mm a w ⟨i,o,hmu,⟨he,hm⟩,hI135⟩ L134 hL134
  obtain ⟨hI_,hln_⟩:=hI135
  refine sq fun L136 hL136 =>?_
  refine sq fun L137 hL137 =>?_
  refine go0 he hm fun a he =>?_
  by_cases h138:i < v.datas.length
  refine go0 he hm fun a he =>?_
  refine hL137 _ _ ?_
  cases o
  refine go0 he hm fun a he =>?_
  exact hJ56 _ _ ⟨false,he.pk,hm,⟨by rw [hI_,Bool.false_and,Bool.false_and],fun h=>by cases h⟩⟩
  refine go0 he hm fun a he =>?_
  refine hL136 _ _ ?_
  refine sq fun L139 hL139 =>?_
  refine go0 he hm fun a he =>?_
  refine Reg [1,2,1,1,2,1,2,1,1,2,0,1] [0,1] he hm fun w hm a he =>?_
  have hlt140:i < u.datas.length:=by rw [← (hln_ rfl).1];exact h138
  refine go0 he hm fun a he =>?_
  obtain ⟨q141,rfl,x142,hx143,cs144,hl145,ha146,hr147⟩:=h2.el hn6 h138
  obtain ⟨s148,rfl,h149⟩:=id hr147
  obtain ⟨p150,c151,rfl,hm152,hn153⟩:=h149.fm
  refine go0 he hm fun a he =>?_
  obtain ⟨q154,rfl,x155,hx156,cs157,hl158,ha159,hr160⟩:=h26.el hn30 hlt140
  obtain ⟨s161,rfl,h162⟩:=id hr160
  obtain ⟨p163,c164,rfl,hm165,hn166⟩:=h162.fm
  refine go0 he hm fun a he =>?_
  refine z0x call78 he hm (fun w hm a he =>?_) (c:=sameData_ok hr147 hr160 hm)
  refine go0 he hm fun a he =>?_
  refine hL139 _ _ ?_
  refine go0 he hm fun a he =>?_
  refine hL134 _ _ _ (by subst hmu;omega) ⟨(i+1),((sameD x142 x155)),rfl,⟨he.pk,hm⟩,?_⟩
  exact ⟨by rw [hI_,z0a hx143,z0a hx156,sameDs_cons,Bool.true_and,Bool.and_assoc],fun _=>hln_ rfl⟩
  refine go0 he hm fun a he =>?_
  refine hL137 _ _ ?_
  refine go0 he hm fun a he =>?_
  exact hJ56 _ _ ⟨o,he.pk,hm,⟨by rw [hI_,z0g h138,sameDs_nil,Bool.true_and],fun h=>(hln_ h).2⟩⟩
 refine go0 he hm fun a he =>?_
 by_cases h167:v.datas.length=u.datas.length
 refine go0 he hm fun a he =>?_
 refine z0x call77 he hm (fun w hm a he =>?_) (c:=sameParams_ok h8 h32 hm)
 refine go0 he hm fun a he =>?_
 generalize hb169:(sameP v.inputs u.inputs)=bb168 at he
 cases bb168
 refine go0 he hm fun a he =>?_
 exact hJ53 _ _ ⟨false,he.pk,hm,by simp [*]⟩
 refine go0 he hm fun a he =>?_
 by_cases h170:v.funs.length=u.funs.length
 refine go0 he hm fun a he =>?_
 refine z0x call42 he hm (fun w hm a he =>?_) (c:=sameTexts_ok h20 h44 hm)
 refine go0 he hm fun a he =>?_
 exact hJ53 _ _ ⟨(sameT v.outputs u.outputs),he.pk,hm,by simp [*]⟩
 refine go0 he hm fun a he =>?_
 exact hJ53 _ _ ⟨false,he.pk,hm,by simp [*]⟩
 refine go0 he hm fun a he =>?_
 exact hJ53 _ _ ⟨false,he.pk,hm,by simp [*]⟩
end Go.Sw

namespace Go.Sw
theorem quiet_all {c:Core} (hR:Right c) (hin:c.inputs=[]) (n:Bs):¬z5t (z0i c) n:=by
 rintro ⟨x,_,hx⟩
 cases hf:lget (z0i c).funs x with
 | none=>rw [fbody_none hf] at hx;simp [ex0,z4a,readsPs,readsPa] at hx
 | some f =>
  rw [y0o hf] at hx
  have hg:=fun_good (C:=⟨(z0i c).funs,[]⟩) (sound_of hR) hf
  have a4:=z1a hg.nodup
  have:=quiet_typed (sound_of (inp:=[]) hR).dNo (fun n=>by rw [hR.inputs,hin];rfl) _ f.body (Nat.lt_succ_self _) (scopeP f.params) f.result a4.2.1 (fun m hm=>by
   rw [z8x,z3u (fun hp=>a4.2.2 m hp hm)];rfl) hg.ty
  rw [this] at hx;cases hx
theorem call_add {c:Core} {o:Bs} {f:Fun} {v:Val} {g1 g2:Nat} (h0:z2c c=0) (hin:c.inputs=[]) (hf:lget (z0i c).funs o=some f) (hp:f.params=[])
  (h:z5j (z2j ⟨(z0i c).funs,[]⟩) f [] g1=.ok v g2) (hg:g1≤4000) (hl:z6l v=false):z1k c o [] 4001=(v,((g1 - g2+1:Nat):Int),0):=by
 have hlt:=y0d h
 have h2:=call_fuel h (4000 - (g1 - g2))
 rw [show g1 - g2+(4000 - (g1 - g2))=(4001:Int).toNat - 1 by simp;omega] at h2
 rw [callAll_end h0 (by omega) hf (by rw [hp];rfl) (quiet_all (z6c h0) hin o),callEnd_ok (by decide) h2 hl]
 simp only [Prod.mk.injEq,true_and,and_true]
 simp;omega
noncomputable def costP (c:Core) (o:Bs):Int:=(z1k c o [] 4001).2.1
theorem adds_all {c:Core} (h0:z2c c=0) (hin:c.inputs=[]):∀{os:List Bs} {g r:Nat} {vs:List Val},(∀o∈os,o∈c.outputs)→g≤4000→z4o ⟨(z0i c).funs,[]⟩ os g=.ok vs r→vs.any z6l=false →
  All2 (fun o v=>(z1k c o [] 4001).1=v∧(z1k c o [] 4001).2.2=0∧0≤costP c o∧costP c o≤4001) os vs∧(os.map (costP c)).sum=((g - r:Nat):Int)+os.length∧r≤g
 | [],g,r,vs,_,_,h,_=>by
  simp only [z4o,Ev.ok.injEq] at h
  obtain ⟨rfl,rfl⟩:=h
  exact ⟨trivial,by simp,Nat.le_refl _⟩
 | o::os,g,r,vs,ho,hg,h,hl=>by
  obtain ⟨f,hf,hp⟩:=outsOk_get (z6c h0).oOk o (ho o List.mem_cons_self)
  rw [z8r hf] at h
  obtain ⟨v,g1,e1,e2⟩:=Ev.bind_ok h
  obtain ⟨l,g2,e3,e4⟩:=Ev.bind_ok e2
  simp only [Ev.ok.injEq] at e4
  obtain ⟨rfl,rfl⟩:=e4
  simp only [List.any_cons,Bool.or_eq_false_iff] at hl
  have hlt:=y0d e1
  obtain ⟨k1,k2,k3⟩:=adds_all h0 hin (fun x hx=>ho x (List.mem_cons_of_mem _ hx)) (by omega) e3 hl.2
  have hc:=call_add h0 hin hf hp e1 hg hl.1
  refine ⟨⟨⟨by rw [hc],by rw [hc],by simp only [costP,hc];omega,by simp only [costP,hc];omega⟩,k1⟩,?_,by omega⟩
  simp only [List.map_cons,List.sum_cons,k2,List.length_cons,costP,hc]
  omega
end Go.Sw

namespace Go.Sw
open Go.Proofs
set_option maxRecDepth 40000
set_option maxHeartbeats 4000000
def z_l:Bs:=⟨#[108]⟩
def z_Nil:Bs:=⟨#[78,105,108]⟩
def z_h:Bs:=⟨#[104]⟩
def z_t:Bs:=⟨#[116]⟩
def z_sum:Bs:=⟨#[115,117,109]⟩
def zPlus:Bs:=⟨#[43]⟩
def z_Cons:Bs:=⟨#[67,111,110,115]⟩
def z_xs:Bs:=⟨#[120,115]⟩
def z_a:Bs:=⟨#[97]⟩
def z_b:Bs:=⟨#[98]⟩
def zLess:Bs:=⟨#[60]⟩
def z_False:Bs:=⟨#[70,97,108,115,101]⟩
def z_True:Bs:=⟨#[84,114,117,101]⟩
def z_data:Bs:=⟨#[100,97,116,97]⟩
def z_List:Bs:=⟨#[76,105,115,116]⟩
def zEq:Bs:=⟨#[61]⟩
def zBar:Bs:=⟨#[124]⟩
def y1f:Bs:=⟨#[73,110,116]⟩
def z_input:Bs:=⟨#[105,110,112,117,116]⟩
def zColon:Bs:=⟨#[58]⟩
def z_fun:Bs:=⟨#[102,117,110]⟩
def zOpn:Bs:=⟨#[40]⟩
def zCls:Bs:=⟨#[41]⟩
def z_case:Bs:=⟨#[99,97,115,101]⟩
def zArrow:Bs:=⟨#[45,62]⟩
def z_0:Bs:=⟨#[48]⟩
def z9n:Bs:=⟨#[116,111,116,97,108]⟩
def z_bangxs:Bs:=⟨#[33,120,115]⟩
def y1g:Bs:=⟨#[108,101,115,115]⟩
def z_1:Bs:=⟨#[49]⟩
def z_output:Bs:=⟨#[111,117,116,112,117,116]⟩
def saneWs:List Bs:=[z_data,z_List,zEq,z_Nil,zBar,z_Cons,y1f,z_List,z_input,z_xs,zColon,z_List,z_fun,z_sum,zOpn,z_l,zColon,z_List,zCls,zColon,y1f,zEq,zOpn,z_case,z_l,zOpn,z_Nil,zArrow,z_0,zCls,zOpn,z_Cons,z_h,z_t,zArrow,zOpn,zPlus,z_h,zOpn,z_sum,z_t,zCls,zCls,zCls,zCls,z_fun,z9n,zColon,y1f,zEq,zOpn,z_sum,z_bangxs,zCls,z_fun,y1g,zOpn,z_a,zColon,y1f,zCls,zOpn,z_b,zColon,y1f,zCls,zColon,y1f,zEq,zOpn,z_case,zOpn,zLess,z_a,z_b,zCls,zOpn,z_False,zArrow,z_0,zCls,zOpn,z_True,zArrow,z_1,zCls,zCls,z_output,z9n]
def saneC:Core:=⟨[⟨z_List,[⟨z_Nil,[]⟩,⟨z_Cons,[y1f,z_List]⟩]⟩],
 [⟨z_xs,z_List⟩],
 [⟨z_sum,[⟨z_l,z_List⟩],y1f,(.mk 7 0 sNo [(.mk 2 0 z_l [] [])] [(.mk z_Nil [] (.mk 1 0 sNo [] [])),(.mk z_Cons [z_h,z_t] (.mk 8 0 zPlus [(.mk 2 0 z_h [] []),(.mk 5 0 z_sum [(.mk 2 0 z_t [] [])] [])] []))])⟩,
  ⟨z9n,[],y1f,(.mk 5 0 z_sum [(.mk 3 0 z_xs [] [])] [])⟩,
  ⟨y1g,[⟨z_a,y1f⟩,⟨z_b,y1f⟩],y1f,(.mk 7 0 sNo [(.mk 8 0 zLess [(.mk 2 0 z_a [] []),(.mk 2 0 z_b [] [])] [])] [(.mk z_False [] (.mk 1 0 sNo [] [])),(.mk z_True [] (.mk 1 1 sNo [] []))])⟩],
 [z9n]⟩
def saneIn:List Named:=[⟨z_xs,.mk z_Cons 0 [.mk sNo 3 [],.mk z_Cons 0 [.mk sNo 4 [],(.mk z_Nil 0 [])]]⟩]
def saneA:List Val:=[.mk sNo 2 [],.mk sNo 3 []]
def saneO:Outcome:=⟨[⟨z9n,.mk sNo 7 []⟩],17⟩
theorem words_sane:wordsF textB=saneWs:=by kernel_rfl
theorem read_sane:readP textB=.ok saneC:=by
 unfold readP;rw [words_sane];kernel_rfl
theorem look_sane:z2c saneC=0:=by kernel_rfl
theorem parse_sane:z9y textB=.ok saneC:=parse_fine (by decide) read_sane look_sane
theorem asc_sane:AscB textB:=by
 intro j b h
 have h2:textB.data.toList.all (fun b=>decide (b.toNat < 128))=true:=by kernel_rfl
 exact of_decide_eq_true (List.all_eq_true.1 h2 b (List.mem_of_getElem? h))
theorem run_sane17:runP saneC saneIn 17=(saneO,0):=by kernel_rfl
theorem run_sane16:runP saneC saneIn 16=(out0,4):=by kernel_rfl
theorem print_sane:z6q saneC=(textB,0):=by kernel_rfl
theorem isType_sane:z2i saneC.datas z_List=true:=by kernel_rfl
theorem noType_sane:z2i saneC.datas sBool=false:=by kernel_rfl
theorem calls_sum:z3d (z0i saneC) z_sum=[z_sum]:=by kernel_rfl
theorem calls_total:z3d (z0i saneC) z9n=[z_sum]:=by kernel_rfl
theorem calls_less:z3d (z0i saneC) y1g=[]:=by kernel_rfl
theorem reach_less {x:Bs} (h:Reach (z0i saneC) y1g x):x=y1g:=by
 induction h with
 | refl=>rfl
 | step h1 h2 ih=>subst ih;rw [calls_less] at h2;cases h2
theorem quiet_less:¬z5t (z0i saneC) y1g:=by
 rintro ⟨x,hx,hr⟩
 rw [reach_less hx] at hr
 have h2:z4a (fbody (z0i saneC) y1g)=false:=by kernel_rfl
 rw [h2] at hr
 cases hr
theorem less_sane:lget (z0i saneC).funs y1g=some ⟨y1g,[⟨z_a,y1f⟩,⟨z_b,y1f⟩],y1f,(.mk 7 0 sNo [(.mk 8 0 zLess [(.mk 2 0 z_a [] []),(.mk 2 0 z_b [] [])] [])] [(.mk z_False [] (.mk 1 0 sNo [] [])),(.mk z_True [] (.mk 1 1 sNo [] []))])⟩:=by kernel_rfl
theorem given_sane:givenA (z0i saneC) saneA [⟨z_a,y1f⟩,⟨z_b,y1f⟩]=true:=by kernel_rfl
theorem callEnd_sane:z5i (z5j (z2j ⟨(z0i saneC).funs,[]⟩) ⟨y1g,[⟨z_a,y1f⟩,⟨z_b,y1f⟩],y1f,(.mk 7 0 sNo [(.mk 8 0 zLess [(.mk 2 0 z_a [] []),(.mk 2 0 z_b [] [])] [])] [(.mk z_False [] (.mk 1 0 sNo [] [])),(.mk z_True [] (.mk 1 1 sNo [] []))])⟩ saneA) 9=.ok (.mk sNo 1 [],3):=by kernel_rfl
theorem call_sane:z1k saneC y1g saneA 9=(.mk sNo 1 [],6,0):=by
 unfold z1k
 rw [if_neg (not_not_intro look_sane),if_neg (by decide),less_sane]
 simp only
 rw [if_neg (by rw [given_sane];decide),if_neg quiet_less,show (9:Int).toNat=9 from rfl,callEnd_sane]
 rfl
theorem named_sane {ds:List Bs} (h:Reached (z0i saneC) saneC.outputs ds):y0t saneC.funs ds=[z_sum,z9n]:=by
 have h1:=h.starts z9n (by simp [saneC])
 have h2:=h.closed _ h1 z_sum (by rw [calls_total];simp)
 have h3:¬y1g∈ds:=fun hm=>by
  have:=h.least (fun x=>x=z9n∨x=z_sum) (fun x hx=>.inl (by simpa [saneC] using hx)) (fun x hx y hy=>by
   rcases hx with rfl | rfl
   ·rw [calls_total] at hy;exact .inr (by simpa using hy)
   ·rw [calls_sum] at hy;exact .inr (by simpa using hy)) _ hm
  rcases this with h | h <;> exact absurd h (by decide)
 show y0t [_,_,_] ds=_
 rw [named_yes (has_mem.2 h2),named_yes (has_mem.2 h1),named_no (Bool.eq_false_iff.2 fun h=>h3 (has_mem.1 h)),named_nil]
end Go.Sw

namespace Go.Sw
def univO (c:Core):List Bs:=c.outputs++c.funs.flatMap fun f=>z1v f.body
theorem look_outs6 {c:Core} (h:z2c c=0):c.outputs.length≤1000:=by
 obtain ⟨hl,_⟩:=z5a h
 simp only [z5x,Bool.or_eq_false_iff,decide_eq_false_iff_not] at hl
 omega
theorem look_nfuns {c:Core} (h:z2c c=0):c.funs.length≤1000000:=by
 obtain ⟨hl,_⟩:=z5a h
 simp only [z5x,Bool.or_eq_false_iff,decide_eq_false_iff_not] at hl
 omega
theorem look_callsO {c:Core} (h:z2c c=0):(∀x,(z3d (z0i c) x).length≤6000)∧(∀x,∀y∈z3d (z0i c) x,y∈univO c)∧(univO c).length≤2000000:=by
 obtain ⟨hl,hr⟩:=z5a h
 have ht:z7m c=true:=by simp only [z2f,Bool.and_eq_true] at hr;exact hr.1.1.1.1.1
 have hn:c.funs.length≤300∧c.outputs.length≤6:=by
  simp only [z5x,Bool.or_eq_false_iff,decide_eq_false_iff_not] at hl
  omega
 refine ⟨(look_calls h).1,fun x y hy =>?_,?_⟩
 ·unfold z3d fbody at hy
  cases hf:lget (z0i c).funs x with
  | none=>rw [hf] at hy;simp [ex0,z1v,calledPs,calledPa] at hy
  | some f =>
   rw [hf] at hy
   exact List.mem_append.2 (.inr (List.mem_flatMap.2 ⟨f,z9c ht hf,hy⟩))
 ·have:=flat_len (l:=c.funs) (f:=fun f=>z1v f.body) (M:=6000) (fun f hf=>short_called (y0r hl hf))
  simp only [univO,List.length_append]
  have:c.funs.length * 6000≤300 * 6000:=Nat.mul_le_mul_right _ hn.1
  omega
end Go.Sw

namespace Go.Sw
open Go.Proofs.Tryz
open Go.Proofs
set_option maxRecDepth 20000
set_option maxHeartbeats 4000000
theorem named_ok {Φ:Fz} {K:List Res} {w:World} {p:Addr} {T:Table} {mb:Nat} {ds:List Bs} (rT:RTableW Φ p T) (hl:T.core.funs.length≤1000000) (hm:Mem Φ (.mp mb (z3i ds)::K) w) :
  Calls Tryz.prog 92 (List.toArray [.pointer (some p),.map (some mb)]) w (fun ee w'=>∃y:Value,ee=.returned y∧True∧Mem Φ (.gs y 9 1 (strs (y0t T.core.funs ds))::K) w'):=by
 obtain ⟨z1,z2,z3,z4,m5,m6,m7,m8,d9,hat10,hfs11,ma12,mr13⟩:=rT.ex
 obtain ⟨p14,c15,rfl,hmx16,hn17⟩:=hfs11.fm
 refine z0m func92 ntmps92 fun Q hQ a he =>?_
 refine go he hm fun a he =>?_
 replace hm:=hm.nilRow 9 1
 replace hm:=hm.nf
 refine z1l (he.ks [1,12,13]) hm (fun R mm a w=>∃(i:Nat) (u:Value) (ns:List Bs),mm=T.core.funs.length - i∧R Φ [(5,u),(14,.int .i64 ((i:Nat):Int))] [(0,.gs (u) 9 1 (strs ns))] a w∧(y0t T.core.funs ds=ns++y0t (T.core.funs.drop i) ds∧ns.length≤i)) (T.core.funs.length - 0) ⟨0,.slice none 0 0,[],rfl,⟨he.pk,hm⟩,⟨rfl,Nat.zero_le _⟩⟩ ?_
 clear hm he
 rintro mm a w ⟨i,u,ns,hmu,⟨he,hm⟩,hI23⟩ L22 hL22
 replace hm:=hm.nf
 obtain ⟨hI_,hnl_⟩:=hI23
 refine go he hm fun a he =>?_
 by_cases h25:i < T.core.funs.length
 refine go he hm fun a he =>?_
 obtain ⟨q29,rfl,x30,hx31,cs32,hl33,ha34,hr35⟩:=hfs11.el hn17 h25
 obtain ⟨s36,b42,rfl,h37,h43⟩:=id hr35
 obtain ⟨p38,c39,rfl,hm40,hn41⟩:=h37.fm
 obtain ⟨p46,c47,p52,c53,rfl,hi56,h45,h51,hm48,hn49,hm54,hn55⟩:=REx.fm h43
 refine Alc he hm fun b57 w hm a he =>?_
 refine Sto 0 he hm fun w hm a he =>?_
 refine go he hm fun a he =>?_
 rcases hf59:mget ((z3i ds)) x30.name with _ | vf60
 have hf59_:=congrArg (z0h false (.bool false)) hf59
 refine Qq he hm (fun a he =>?_) (o:=by exact fun _ _ _ he hs=>Ok.cast (z1g 2 runUnderlying121 runUnderlying9 zeroValue4 he hs rfl rfl rfl) (show z0h false (.bool false) (mget ((z3i ds)) x30.name)=.bool false from hf59_))
 refine go he hm fun a he =>?_
 replace hm:=hm.dl [0]
 refine hL22 _ _ _ (by subst hmu;omega) ⟨(i+1),(u),(ns),rfl,⟨he.pk,hm⟩,?_⟩
 exact ⟨by rw [hI_,z0a hx31,named_no (seen_not hf59)],by omega⟩
 obtain ⟨rfl,hs61⟩:=seen_val hf59
 have hf59_:=congrArg (z0h false (.bool false)) hf59
 refine Qq he hm (fun a he =>?_) (o:=by exact fun _ _ _ he hs=>Ok.cast (z1g 2 runUnderlying121 runUnderlying9 zeroValue4 he hs rfl rfl rfl) (show z0h false (.bool false) (mget ((z3i ds)) x30.name)=.bool true from hf59_))
 refine BldS he hm fun v62 w hm a he =>?_
 refine App_ 2 rt_25 he hm (fun v63 w hm a he =>?_)
 refine go he hm fun a he =>?_
 first | rw [z4x] at hm | rw [← z2g] at hm
 replace hm:=hm.dl [1,0]
 refine hL22 _ _ _ (by subst hmu;omega) ⟨(i+1),(v63),(ns++[x30.name]),rfl,⟨he.pk,hm⟩,?_⟩
 exact ⟨by rw [hI_,z0a hx31,named_yes hs61,List.append_assoc];rfl,by simp only [List.length_append,List.length_cons,List.length_nil];omega⟩
 refine go he hm fun a he =>?_
 replace hm:=hm.dl [1]
 refine Ret1 hQ he hm ?_
 rw [hI_,z0g h25,named_nil,List.append_nil];exact ⟨_,rfl,trivial,hm⟩
end Go.Sw

namespace Go.Sw
open Go.Proofs
set_option maxRecDepth 20000
set_option maxHeartbeats 4000000
theorem reachableO_ok {Φ:Fz} {K:List Res} {w:World} {d0:List Value} {c:Core} {v:Value} (rpc:RCoreX Φ d0 c v) (h0:z2c c=0) (hne:c.outputs≠[]) (G:Glob Φ) (hm:Mem Φ (.gs v 9 1 (strs c.outputs)::K) w) :
  Calls Tryz.prog 37 (List.toArray [.agg d0.toArray]) w (fun ee w'=>∃y:Fz×Value×List Bs,ee=.returned (.tuple (List.toArray [y.2.1,.int .i64 ((0:Nat):Int)]))∧(Φ.Le y.1∧Reached (z0i c) c.outputs y.2.2)∧Mem y.1 (.gs y.2.1 9 1 (strs (y0t c.funs y.2.2))::K) w'):=by
 obtain ⟨s1,s2,s3,q4,cc5,rfl,rfl,h6,h7,h8⟩:=id rpc
 obtain ⟨p9,c10,rfl,hm11,hn12⟩:=h6.fm
 obtain ⟨p13,c14,rfl,hm15,hn16⟩:=h7.fm
 obtain ⟨p17,c18,rfl,hm19,hn20⟩:=h8.fm
 refine z0m Tryz.func37 Tryz.ntmps37 fun Q hQ a he =>?_
 refine Bx he hm fun b22 w hm a he =>?_
 replace hm:=hm.pl 1
 refine z2n Tryz.call43 he hm (fun y24 w hG25 hm a he =>?_) (c:=lookX_ok (R:=[.gs (.slice q4 c.outputs.length cc5) 9 1 (strs c.outputs)]) (K:=.blk b22 (ob [.slice p9 c.datas.length c10,.slice p13 c.inputs.length c14,.slice p17 c.funs.length c18,.slice q4 c.outputs.length cc5] 27)::K) rpc Thaw.own G hm)
 obtain ⟨Ψ26,p27⟩:=y24
 obtain ⟨le28,hT29⟩:=hG25
 simp only at le28 hT29 hm he
 rw [if_pos h0,h0] at he
 obtain ⟨hT30,hlong31⟩:=hT29 h0
 replace G:=G.mono le28
 replace hm:=hm.nf
 refine Qq he hm (fun a he =>?_) (o:=by exact fun _ _ _ he hs=>y_ineq false he rfl rfl rfl)
 refine go he hm fun a he =>?_
 have hm0_:=hm
 clear hm
 obtain ⟨bq35,cap36,arr37,hv_,hq38,hm⟩:=gs_queue (l:=c.outputs) (i:=0) hm0_ rfl hne
 clear hm0_
 have hmk_:=hm
 have hek_:=he
 clear hm he
 rw [hv_] at hek_ hmk_
 have hm:=hmk_
 have he:=hek_
 clear hmk_ hek_
 replace hm:=hm.nf
 refine z2n Tryz.call62 he hm (fun y39 w hG40 hm a he =>?_) (c:=reach_ok (U:=univO c) (hT30).weak hq38 (look_outs6 h0) (fun x hx=>List.mem_append.2 (.inl hx)) (look_callsO h0).2.2 (look_callsO h0).1 (look_callsO h0).2.1 hm)
 obtain ⟨bd41,ds42⟩:=y39
 have hR43:=hG40
 simp only at hR43 hm he
 replace hm:=hm.nf
 refine z2n Tryz.call92 he hm (fun y44 w hG45 hm a he =>?_) (c:=named_ok (hT30).weak (look_nfuns h0) hm)
 replace hm:=hm.nf
 refine go he hm fun a he =>?_
 replace hm:=hm.dl [1]
 refine Ret2 hQ he hm ?_
 exact ⟨(Ψ26,y44,ds42),rfl,⟨le28,hR43⟩,hm⟩
end Go.Sw

namespace Go.Sw
open Go.Proofs
set_option maxRecDepth 100000
theorem rv_leaf {Φ:Fz} {s:Bs} {n:Int} (h:-9223372036854775808≤n∧n≤9223372036854775807):RVal Φ [.string s,.int .i64 n,.slice none 0 0] (.mk s n []):=RVal.iff.2 ⟨_,rfl,h,SliceOf.nil 3⟩
theorem rv_node {Φ:Fz} {s:Bs} {n:Int} {v:Value} {l:List Val} (h:-9223372036854775808≤n∧n≤9223372036854775807) (hl:SliceOf RVal Φ 3 v l):RVal Φ [.string s,.int .i64 n,v] (.mk s n l):=RVal.iff.2 ⟨v,rfl,h,hl⟩
theorem two_vals {Φ:Fz} {c1 c2:List Value} {x y:Val} (h1:RVal Φ c1 x) (l1:c1.length=3) (h2:RVal Φ c2 y) (l2:c2.length=3):Chunks (RVal Φ) 3 (c1++(c2++[])) [x,y] :=
 ⟨c1,_,rfl,l1,h1,c2,_,rfl,l2,h2,rfl⟩
theorem one_named {Φ:Fz} {c:List Value} {s:Bs} {x:Val} (h:RVal Φ c x) (l:c.length=3):Chunks (RNamed Φ) 4 ((.string s::c)++[]) [⟨s,x⟩] :=
 ⟨.string s::c,_,rfl,by simp [l],⟨c,rfl,h⟩,rfl⟩
section
variable {Φ:Fz} {K:List Res} {w:World} {d0:List Value} {va v:Value}
theorem parse_lit (G:Glob Φ) (hm:Mem Φ K w) :
  Calls Tryz.prog 25 (List.toArray [.string textB]) w (fun ee w'=>∃y:Fz×List Value×Value,ee=.returned (.tuple (List.toArray [.agg y.2.1.toArray,.int .i64 ((0:Nat):Int),.int .i64 ((0:Nat):Int)]))∧(Φ.Le y.1∧RCoreX y.1 y.2.1 saneC y.2.2)∧Mem y.1 (.gs y.2.2 9 1 (strs saneC.outputs)::K) w'):=by
 have h1:=parse_ok G asc_sane hm
 rw [parse_sane] at h1
 refine h1.mono fun ee w' h =>?_
 obtain ⟨⟨Ψ,v0,v1,v2,v3⟩,h1,⟨h2,h3,h4,h5⟩,h6⟩:=h
 obtain ⟨p,m,c,rfl,hl,_⟩:=h6.toSees.gsForm (i:=0) rfl
 have hm':m=saneC.outputs.length:=by simpa [strs] using hl.symm
 subst hm'
 exact ⟨(Ψ,[v0,v1,v2,.slice p saneC.outputs.length c],.slice p saneC.outputs.length c),h1,⟨h2,⟨v0,v1,v2,p,c,rfl,rfl,h3,h4,h5⟩⟩,h6⟩
theorem run_lit17 (rpc:RCore Φ d0 saneC) (rl:SliceOf RNamed Φ 4 va saneIn) (G:Glob Φ) (hm:Mem Φ K w) :
  Calls Tryz.prog 15 (List.toArray [.agg d0.toArray,va,.int .i64 ((17:Nat):Int)]) w (fun ee w'=>∃y:Fz×Addr×Nat×Value,ee=.returned (.tuple (List.toArray [.agg (List.toArray [.slice (some y.2.1) 1 y.2.2.1,.int .i64 ((17:Nat):Int)]),.int .i64 ((0:Nat):Int)])) ∧
   (Φ.Le y.1∧NewRow Φ (.slice (some y.2.1) 1 y.2.2.1)∧At y.1 (y.2.1.add (0 * 4)) [.string z9n,.string sNo,.int .i64 ((7:Nat):Int),y.2.2.2])∧Mem y.1 K w'):=by
 refine (runAllN_ok (fuel:=17) rpc rl G hm).mono fun ee w' h =>?_
 rw [run_sane17] at h
 obtain ⟨⟨Ψ,d⟩,h1,⟨h2,h3,h4⟩,h5⟩:=h
 obtain ⟨s,rfl,hs⟩:=h3
 obtain ⟨cs,hr,hc⟩:=hs
 obtain ⟨c1,rest,rfl,hl1,⟨b,rfl,hb⟩,rfl⟩:=hc
 obtain ⟨s2,rfl,_,_⟩:=RVal.iff.1 hb
 rcases hr with ⟨_,he⟩ | ⟨q,m,c,rfl,hl,_,hat⟩
 ·cases he
 ·have hm1:m=1:=by simp at hl;omega
  subst hm1
  exact ⟨(Ψ,q,c,s2),h1,⟨h2,h4 _ _ rfl,hat (by simp)⟩,h5⟩
theorem run_lit16 (rpc:RCore Φ d0 saneC) (rl:SliceOf RNamed Φ 4 va saneIn) (G:Glob Φ) (hm:Mem Φ K w) :
  Calls Tryz.prog 15 (List.toArray [.agg d0.toArray,va,.int .i64 ((16:Nat):Int)]) w (fun ee w'=>∃y:Fz×Option Addr×Nat,ee=.returned (.tuple (List.toArray [.agg (List.toArray [.slice y.2.1 0 y.2.2,.int .i64 ((0:Nat):Int)]),.int .i64 ((4:Nat):Int)]))∧Φ.Le y.1∧Mem y.1 K w'):=by
 refine (runAll_ok (fuel:=16) rpc rl G hm).mono fun ee w' h =>?_
 rw [run_sane16] at h
 obtain ⟨⟨Ψ,d⟩,h1,⟨h2,h3⟩,h5⟩:=h
 obtain ⟨s,rfl,hs⟩:=h3
 obtain ⟨p,c,rfl,_⟩:=hs.form (by decide)
 exact ⟨(Ψ,p,c),h1,h2,h5⟩
theorem print_lit (rpc:RCore Φ d0 saneC) (G:Glob Φ) (T_:Tabs Φ) (hm:Mem Φ K w) :
  Calls Tryz.prog 23 (List.toArray [.agg d0.toArray]) w (fun ee w'=>ee=.returned (.tuple (List.toArray [.string textB,.int .i64 ((0:Nat):Int)]))∧Mem Φ K w'):=by
 refine (print_ok rpc G T_ hm).mono fun ee w' h =>?_
 rw [print_sane] at h
 exact h
theorem call_lit (rpc:RCore Φ d0 saneC) (rl:SliceOf RVal Φ 3 va saneA) (G:Glob Φ) (hm:Mem Φ K w) :
  Calls Tryz.prog 20 (List.toArray [.agg d0.toArray,.string y1g,va,.int .i64 ((9:Nat):Int)]) w (fun ee w'=>∃y:Fz×Option Addr×Nat,ee=.returned (.tuple (List.toArray [.agg (List.toArray [.string sNo,.int .i64 ((1:Nat):Int),.slice y.2.1 0 y.2.2]),.int .i64 ((6:Nat):Int),.int .i64 ((0:Nat):Int)]))∧Φ.Le y.1∧Mem y.1 K w'):=by
 refine (callAll_ok (fuel:=9) rpc rl (fun h=>call_safe h _ _) G hm).mono fun ee w' h =>?_
 rw [call_sane] at h
 obtain ⟨⟨Ψ,d⟩,h1,⟨h2,h3⟩,h5⟩:=h
 obtain ⟨s,rfl,_,hs⟩:=RVal.iff.1 h3
 obtain ⟨p,c,rfl,_⟩:=hs.form (by decide)
 exact ⟨(Ψ,p,c),h1,h2,h5⟩
theorem reach_lit (rpc:RCoreX Φ d0 saneC v) (G:Glob Φ) (hm:Mem Φ (.gs v 9 1 (strs saneC.outputs)::K) w) :
  Calls Tryz.prog 37 (List.toArray [.agg d0.toArray]) w (fun ee w'=>∃y:Fz×Value,ee=.returned (.tuple (List.toArray [y.2,.int .i64 ((0:Nat):Int)]))∧Φ.Le y.1∧Mem y.1 (.gs y.2 9 1 (strs [z_sum,z9n])::K) w'):=by
 refine (reachableO_ok rpc look_sane (by simp [saneC]) G hm).mono fun ee w' h =>?_
 obtain ⟨⟨Ψ,v',ds⟩,h1,⟨h2,h3⟩,h5⟩:=h
 rw [named_sane h3] at h5
 exact ⟨(Ψ,v'),h1,h2,h5⟩
theorem isType_lit {u0 u1 u2 u3:Value} (rpc:RCoreX Φ [u0,u1,u2,u3] saneC v) (hm:Mem Φ K w) :
  Calls Tryz.prog 58 (List.toArray [.agg (List.toArray [u0,u1,u2,u3]),.string z_List]) w (fun ee w'=>ee=.returned (.bool true)∧Mem Φ K w'):=by
 obtain ⟨s,t,u,q,c,_,e,h1,_,_⟩:=rpc
 injection e with e1 _
 subst e1
 refine (isInputType_ok h1 hm).mono fun ee w' h =>?_
 rw [isType_sane] at h
 exact h
theorem noType_lit {u0 u1 u2 u3:Value} (rpc:RCoreX Φ [u0,u1,u2,u3] saneC v) (hm:Mem Φ K w) :
  Calls Tryz.prog 58 (List.toArray [.agg (List.toArray [u0,u1,u2,u3]),.string sBool]) w (fun ee w'=>ee=.returned (.bool false)∧Mem Φ K w'):=by
 obtain ⟨s,t,u,q,c,_,e,h1,_,_⟩:=rpc
 injection e with e1 _
 subst e1
 refine (isInputType_ok h1 hm).mono fun ee w' h =>?_
 rw [noType_sane] at h
 exact h
end
end Go.Sw

namespace Go.Sw
open Go.Proofs.Tryz
open Go.Proofs
set_option maxRecDepth 20000
set_option maxHeartbeats 4000000
theorem sane_ok {Φ:Fz} {K:List Res} {w:World} (G:Glob Φ) (T_:Tabs Φ) (hm:Mem Φ K w) :
  Calls Tryz.prog 18 (List.toArray []) w (fun ee w'=>ee=.returned (.bool true)∧Mem Φ K w'):=by
 refine z0m func18 ntmps18 fun Q hQ a he =>?_
 refine z0x call57 he hm (fun w hm a he =>?_) (c:=text_ok hm)
 refine z2n call25 he hm (fun y3 w hG4 hm a he =>?_) (c:=parse_lit G hm)
 obtain ⟨Ψ5,d6,v7⟩:=y3
 obtain ⟨le8,hX9⟩:=hG4
 simp only at le8 hX9 hm he
 replace G:=G.mono le8
 replace T_:=Tabs.mono T_ le8
 obtain ⟨s10,s11,s12,q13,cc14,rfl,rfl,h15,h16,h17⟩:=id hX9
 obtain ⟨p18,c19,rfl,hm20,hn21⟩:=h15.fm
 obtain ⟨p22,c23,rfl,hm24,hn25⟩:=h16.fm
 obtain ⟨p26,c27,rfl,hm28,hn29⟩:=h17.fm
 replace hm:=hm.nf
 refine Alc he hm fun b30 w hm a he =>?_
 refine Sto 0 he hm fun w hm a he =>?_
 refine z1n he hm fun a he =>?_
 refine Alc he hm fun b32 w hm a he =>?_
 refine Sto 0 he hm fun w hm a he =>?_
 refine z1n he hm fun a he =>?_
 refine z1n he hm fun a he =>?_
 refine BldS he hm fun v34 w hm a he =>?_
 have hm0_:=hm
 clear hm
 obtain ⟨Ψ35,le36,hm,hrow37⟩:=hm0_.freezeRow (i:=0) rfl
 clear hm0_
 replace G:=G.mono le36
 replace T_:=Tabs.mono T_ le36
 replace hX9:=hX9.mono le36
 replace hm:=hm.nf
 have hsl38:SliceOf RVal Ψ35 3 _ ([(Val.mk sNo 4 []),(Val.mk z_Nil 0 [])]):=⟨_,hrow37,(show Chunks (RVal _) 3 ([.string ⟨#[]⟩,.int .i64 ((4:Nat):Int),.slice none 0 0]++([.string ⟨#[78,105,108]⟩,.int .i64 ((0:Nat):Int),.slice none 0 0]++[])) [(Val.mk sNo 4 []),(Val.mk z_Nil 0 [])] from two_vals (rv_leaf (by decide)) rfl (rv_leaf (by decide)) rfl)⟩
 obtain ⟨p39,c40,hv_,hm41,hn42⟩:=hsl38.form (by decide)
 have hmk_:=hm
 clear hm
 subst hv_
 have hm:=hmk_
 clear hmk_
 refine z1n he hm fun a he =>?_
 refine BldS he hm fun v43 w hm a he =>?_
 have hm0_:=hm
 clear hm
 obtain ⟨Ψ44,le45,hm,hrow46⟩:=hm0_.freezeRow (i:=0) rfl
 clear hm0_
 replace G:=G.mono le45
 replace T_:=Tabs.mono T_ le45
 replace hX9:=hX9.mono le45
 replace hsl38:=hsl38.up le45
 replace hm:=hm.nf
 have hsl47:SliceOf RVal Ψ44 3 _ ([(Val.mk sNo 3 []),(Val.mk z_Cons 0 [(Val.mk sNo 4 []),(Val.mk z_Nil 0 [])])]):=⟨_,hrow46,(show Chunks (RVal _) 3 ([.string ⟨#[]⟩,.int .i64 ((3:Nat):Int),.slice none 0 0]++([.string ⟨#[67,111,110,115]⟩,.int .i64 ((0:Nat):Int),.slice p39 ([(Val.mk sNo 4 []),(Val.mk z_Nil 0 [])]).length c40]++[])) [(Val.mk sNo 3 []),(Val.mk z_Cons 0 [(Val.mk sNo 4 []),(Val.mk z_Nil 0 [])])] from two_vals (rv_leaf (by decide)) rfl (rv_node (by decide) hsl38) rfl)⟩
 obtain ⟨p48,c49,hv_,hm50,hn51⟩:=hsl47.form (by decide)
 have hmk_:=hm
 clear hm
 subst hv_
 have hm:=hmk_
 clear hmk_
 refine z1n he hm fun a he =>?_
 refine BldT he hm fun a he =>?_
 refine BldS he hm fun v52 w hm a he =>?_
 have hm0_:=hm
 clear hm
 obtain ⟨Ψ53,le54,hm,hrow55⟩:=hm0_.freezeRow (i:=0) rfl
 clear hm0_
 replace G:=G.mono le54
 replace T_:=Tabs.mono T_ le54
 replace hX9:=hX9.mono le54
 replace hsl47:=hsl47.up le54
 replace hm:=hm.nf
 have hsl56:SliceOf RNamed Ψ53 4 _ (saneIn):=⟨_,hrow55,(show Chunks (RNamed _) 4 ([.string ⟨#[120,115]⟩,.string ⟨#[67,111,110,115]⟩,.int .i64 ((0:Nat):Int),.slice p48 ([(Val.mk sNo 3 []),(Val.mk z_Cons 0 [(Val.mk sNo 4 []),(Val.mk z_Nil 0 [])])]).length c49]++[]) [⟨z_xs,(Val.mk z_Cons 0 [(Val.mk sNo 3 []),(Val.mk z_Cons 0 [(Val.mk sNo 4 []),(Val.mk z_Nil 0 [])])])⟩] from one_named (rv_node (by decide) hsl47) rfl)⟩
 obtain ⟨p57,c58,hv_,hm59,hn60⟩:=hsl56.form (by decide)
 have hmk_:=hm
 clear hm
 subst hv_
 have hm:=hmk_
 clear hmk_
 refine go he hm fun a he =>?_
 have hX0:=hX9
 have G0:=G
 obtain ⟨Ψ62,bf63,hm2_,hrow64,hfr65⟩:=hm.freezeRowD (i:=2) rfl (by simp [saneC,strs])
 have hm:=hm2_
 clear hm2_
 replace G:=G.mono hfr65.le
 replace T_:=Tabs.mono T_ hfr65.le
 replace hX9:=hX9.mono hfr65.le
 replace hsl56:=hsl56.mono RNamed.mono hfr65.le
 replace hm:=hm.nf
 have rpcF:=hX9.full (SliceOf.strs.2 hrow64)
 refine z2n call15 he hm (fun y66 w hG67 hm a he =>?_) (c:=run_lit17 rpcF hsl56 G hm)
 obtain ⟨Ψ68,p69,c70,s71⟩:=y66
 obtain ⟨le72,hnw73,hat74⟩:=hG67
 simp only at le72 hnw73 hat74 hm he
 have hne_:=hfr65.ne (Fz.Le.refl _) hnw73 rfl
 replace G:=G.mono le72
 replace T_:=Tabs.mono T_ le72
 replace hsl56:=hsl56.up le72
 replace rpcF:=RCore.mono _ _ _ _ le72 rpcF
 replace hm:=hm.nf
 refine Alc he hm fun b75 w hm a he =>?_
 refine Sto 0 he hm fun w hm a he =>?_
 refine z2n call15 he hm (fun y77 w hG78 hm a he =>?_) (c:=run_lit16 rpcF hsl56 G hm)
 obtain ⟨Ψ79,p80,c81⟩:=y77
 have le82:=hG78
 simp only at le82 hm he
 replace G:=G.mono le82
 replace T_:=Tabs.mono T_ le82
 replace rpcF:=RCore.mono _ _ _ _ le82 rpcF
 replace hat74:=hat74.mono le82
 replace hm:=hm.nf
 refine Alc he hm fun b83 w hm a he =>?_
 refine Sto 0 he hm fun w hm a he =>?_
 refine z0x call23 he hm (fun w hm a he =>?_) (c:=print_lit rpcF G T_ hm)
 refine z1n he hm fun a he =>?_
 refine z1n he hm fun a he =>?_
 refine BldS he hm fun v86 w hm a he =>?_
 have hm0_:=hm
 clear hm
 obtain ⟨Ψ87,le88,hm,hrow89⟩:=hm0_.freezeRow (i:=0) rfl
 clear hm0_
 replace G:=G.mono le88
 replace T_:=Tabs.mono T_ le88
 replace rpcF:=RCore.mono _ _ _ _ le88 rpcF
 replace hat74:=hat74.mono le88
 replace hm:=hm.nf
 have hsl90:SliceOf RVal Ψ87 3 _ (saneA):=⟨_,hrow89,(show Chunks (RVal _) 3 ([.string ⟨#[]⟩,.int .i64 ((2:Nat):Int),.slice none 0 0]++([.string ⟨#[]⟩,.int .i64 ((3:Nat):Int),.slice none 0 0]++[])) [(Val.mk sNo 2 []),(Val.mk sNo 3 [])] from two_vals (rv_leaf (by decide)) rfl (rv_leaf (by decide)) rfl)⟩
 obtain ⟨p91,c92,hv_,hm93,hn94⟩:=hsl90.form (by decide)
 have hmk_:=hm
 clear hm
 subst hv_
 have hm:=hmk_
 clear hmk_
 refine z2n call20 he hm (fun y95 w hG96 hm a he =>?_) (c:=call_lit rpcF hsl90 G hm)
 obtain ⟨Ψ97,p98,c99⟩:=y95
 have le100:=hG96
 simp only at le100 hm he
 replace G:=G.mono le100
 replace T_:=Tabs.mono T_ le100
 replace rpcF:=RCore.mono _ _ _ _ le100 rpcF
 replace hat74:=hat74.mono le100
 replace hm:=hm.nf
 refine Alc he hm fun b101 w hm a he =>?_
 refine Sto 0 he hm fun w hm a he =>?_
 refine go he hm fun a he =>?_
 obtain ⟨hle_,hm2_⟩:=hfr65.back _ _ _ ((((le72).trans le82).trans le88).trans le100) hm
 have hm:=hm2_
 clear hm2_
 have hX_:=hX0.mono hle_
 have GZ:=G0.mono hle_
 have hatZ:=hat74.del (b:=bf63) hne_
 replace hm:=hm.nf
 refine z2n call37 he hm (fun y104 w hG105 hm a he =>?_) (c:=reach_lit hX_ GZ hm)
 obtain ⟨Ψ106,v107⟩:=y104
 have le108:=hG105
 simp only at le108 hm he
 replace hX_:=hX_.mono le108
 replace hatZ:=hatZ.mono le108
 replace hm:=hm.nf
 refine Qq he hm (fun a he =>?_) (o:=by exact fun _ _ _ he hs=>z4n true he rfl rfl rfl)
 refine Qq he hm (fun a he =>?_) (o:=by exact fun _ _ _ he hs=>z4n true he rfl rfl rfl)
 refine Qq he hm (fun a he =>?_) (o:=by exact fun _ _ _ he hs=>z4n true he rfl rfl rfl)
 refine Qq he hm (fun a he =>?_) (o:=by exact fun _ _ _ he hs=>z4n true he rfl rfl rfl)
 refine Qq he hm (fun a he =>?_) (o:=by exact fun _ _ _ he hs=>z4n true he rfl rfl rfl)
 refine Qq he hm (fun a he =>?_) (o:=by exact fun _ _ _ he hs=>z4n true he rfl rfl rfl)
 refine Qq he hm (fun a he =>?_) (o:=by exact fun _ _ _ he hs=>z4n true he rfl rfl rfl)
 refine Qq he hm (fun a he =>?_) (o:=by exact fun _ _ _ he hs=>z4n true he rfl rfl rfl)
 refine Qq he hm (fun a he =>?_) (o:=by exact fun _ _ _ he hs=>y_indexAddr 0 he rfl rfl runUnderlying28 sizeOf62 (by decide))
 refine Qq he hm (fun a he =>?_) (o:=by exact fun _ _ _ he hs=>z4n true he rfl rfl rfl)
 refine Qq he hm (fun a he =>?_) (o:=by exact fun _ _ _ he hs=>z4n true he rfl rfl rfl)
 refine z0x call57 he hm (fun w hm a he =>?_) (c:=text_ok hm)
 refine Qq he hm (fun a he =>?_) (o:=by exact fun _ _ _ he hs=>y_seql true he rfl rfl (decide_eq_true rfl))
 refine Qq he hm (fun a he =>?_) (o:=by exact fun _ _ _ he hs=>z4n true he rfl rfl rfl)
 refine Qq he hm (fun a he =>?_) (o:=by exact fun _ _ _ he hs=>z4n true he rfl rfl rfl)
 refine Qq he hm (fun a he =>?_) (o:=by exact fun _ _ _ he hs=>y_len_gs 0 (2) he hs rfl rfl (rfl) (by decide) runUnderlying25)
 refine Qq he hm (fun a he =>?_) (o:=by exact fun _ _ _ he hs=>z4n true he rfl rfl rfl)
 refine z0x call58 he hm (fun w hm a he =>?_) (c:=isType_lit hX_ hm)
 refine z0x call58 he hm (fun w hm a he =>?_) (c:=noType_lit hX_ hm)
 refine go he hm fun a he =>?_
 replace hm:=hm.le ((((((le8).trans le36).trans le45).trans le54).trans hle_).trans le108)
 replace hm:=hm.dl [5,4,3,2,1,0]
 refine Ret1 hQ he hm ?_
 exact ⟨by rfl,hm⟩
end Go.Sw

namespace Go.Sw
open Go.Proofs
section
variable {P:Program} {n:Nat} {E:List (Nat×Value)} {D:List Deferred} {a:Act} {w:World} {ty:TypeId}
end
mutual
theorem sameV_refl:∀v:Val,sameV v v=true
 | .mk c n l=>by simp only [sameV,Val.con,Val.num,Val.args,decide_true,Bool.true_and];exact sameVs_refl l
theorem sameVs_refl:∀l:List Val,sameVs l l=true
 | []=>by simp only [sameVs]
 | x::xs=>by rw [sameVs_cons,sameV_refl x,sameVs_refl xs];rfl
end
theorem sameNs_refl:∀l:List Named,sameNs l l=true
 | []=>rfl
 | x::xs=>by rw [sameNs_cons,sameV_refl,sameNs_refl xs];simp
end Go.Sw

namespace Go.Sw
open Go.Proofs
def ascT (l:Tx):Bool:=l.all fun b=>decide (b.toNat < 128)
theorem z1q (a b:Tx):ascT (a++b)=(ascT a&&ascT b):=by simp [ascT,List.all_append]
theorem y0h (x:UInt8) (b:Tx):ascT (x::b)=(decide (x.toNat < 128)&&ascT b):=by simp [ascT]
theorem asc_ident {s:Bs} (h:z6k s=2∨z6k s=3):ascT (tx s)=true:=by
 simp only [ascT,List.all_eq_true,decide_eq_true_eq]
 intro b hb
 obtain ⟨j,hj,e⟩:=tx_mem hb
 have h4:=(ident_of h).2.2 j hj
 rw [e] at h4
 simp only [z2k,z8y,z9t,z1y,Bool.or_eq_true,Bool.and_eq_true,decide_eq_true_eq] at h4
 omega
theorem z7r {s:Bs} (h:z0q s=true):ascT (tx s)=true:=asc_ident (.inl (name_kind h))
theorem y1k {s:Bs} (h:z0u s=true):ascT (tx s)=true:=asc_ident (.inr (con_kind h))
theorem asc_num (n:Int):ascT (itoaL n)=true:=by
 simp only [ascT,List.all_eq_true,decide_eq_true_eq]
 intro b hb
 rcases itoa_bytes b hb with rfl | h
 ·decide
 ·omega
theorem asc_op {s:Bs} (h:z8k s=true):ascT (tx s)=true:=by
 rcases ops_are h with e | e | e | e | e | e | e <;> rw [e] <;> decide
theorem asc_vars:∀{vs:List Bs},(∀v∈vs,ascT (tx v)=true)→ascT ((vs.map fun v=>32::tx v).flatten)=true
 | [],_=>rfl
 | v::vs,h=>by
  rw [List.map_cons,List.flatten_cons,z1q,y0h,h v List.mem_cons_self,asc_vars fun x hx=>h x (List.mem_cons_of_mem _ hx)];rfl
mutual
theorem asc_write:∀{e:Ex},okE e→ascT (z2y e)=true
 | .mk k n s args arms,h=>by
  rcases h with ⟨rfl,rfl,rfl,rfl,h⟩ | ⟨rfl,rfl,h,rfl,rfl⟩ | ⟨rfl,rfl,h,rfl,rfl⟩ | ⟨rfl,rfl,h,rfl,h2⟩ | ⟨rfl,rfl,h,rfl,h2⟩ | ⟨rfl,rfl,h,rfl,h3,h2⟩ | ⟨rfl,rfl,rfl,h,h4,h2,h3⟩ | ⟨rfl,rfl,h,rfl,h3,h2⟩
  ·exact asc_num n
  ·exact z7r h
  ·show ascT (33::tx s)=true
   rw [y0h,z7r h];rfl
  ·cases args with
   | nil=>exact y1k h
   | cons a az =>
    show ascT (40::tx s++writePs (a::az)++[41])=true
    rw [z1q,z1q,y0h,y1k h,asc_writes h2];rfl
  ·show ascT (40::tx s++writePs args++[41])=true
   rw [z1q,z1q,y0h,z7r h,asc_writes h2];rfl
  ·show ascT (40::[108,101,116,32]++tx s++writePs args++[41])=true
   rw [z1q,z1q,z1q,z7r h,asc_writes h2];rfl
  ·show ascT ([40,99,97,115,101,32]++writeH args++writePa arms++[41])=true
   match args,h,h2 with
   | [a],_,h2 =>
    rw [z1q,z1q,z1q,asc_arms h3,show writeH [a]=z2y a from rfl,asc_write h2.1];rfl
  ·show ascT (40::tx s++writePs args++[41])=true
   rw [z1q,z1q,y0h,asc_op h,asc_writes h2];rfl
theorem asc_writes:∀{es:List Ex},okEs es→ascT (writePs es)=true
 | [],_=>rfl
 | e::es,h=>by
  show ascT (32::z2y e++writePs es)=true
  rw [z1q,y0h,asc_write h.1,asc_writes h.2];rfl
theorem asc_arms:∀{es:List Arm},okEa es→ascT (writePa es)=true
 | [],_=>rfl
 | .mk c vs b::es,h=>by
  show ascT ([32,40]++(tx c++(vs.map fun v=>32::tx v).flatten)++[32,45,62,32]++z2y b++[41]++writePa es)=true
  rw [z1q,z1q,z1q,z1q,z1q,z1q,y1k h.1,asc_vars fun v hv=>z7r (h.2.1 v hv),asc_write h.2.2.1,asc_arms h.2.2.2];rfl
end
theorem asc_cat {α:Type} {f:α→Bs}:∀{xs:List α},(∀x∈xs,ascT (tx (f x))=true)→ascT (tx (catB (xs.map f)))=true
 | [],_=>rfl
 | x::xs,h=>by rw [List.map_cons,catB,z9d,z1q,h x List.mem_cons_self,asc_cat fun y hy=>h y (List.mem_cons_of_mem _ hy)];rfl
theorem asc_conT {c:Con} (h:okCon c):ascT (tx (conT_ c))=true:=by
 unfold conT_
 rw [join_sp,z1q,y1k h.1,asc_vars fun v hv=>y1k (h.2 v hv)];rfl
theorem asc_bars:∀{cs:List Con},(∀c∈cs,okCon c)→ascT (((cs.map conT_).map fun v=>[32,124,32]++tx v).flatten)=true
 | [],_=>rfl
 | c::cs,h=>by
  rw [List.map_cons,List.map_cons,List.flatten_cons,z1q,z1q,asc_conT (h c List.mem_cons_self),asc_bars fun x hx=>h x (List.mem_cons_of_mem _ hx)];rfl
theorem asc_data {d:Data} (h:okData d):ascT (tx (dataB d))=true:=by
 obtain ⟨c,cs,hc⟩:∃c cs,d.cons=c::cs:=by
  cases hc:d.cons with
  | nil=>exact absurd hc h.2.1
  | cons c cs=>exact ⟨c,cs,rfl⟩
 have h2:=h.2.2
 unfold dataB
 rw [hc] at h2 ⊢
 rw [List.map_cons]
 simp only [z9d,join_bar,z1q]
 rw [y1k h.1,asc_conT (h2 c List.mem_cons_self),asc_bars fun x hx=>h2 x (List.mem_cons_of_mem _ hx)];rfl
theorem asc_input {p:Param} (h:y1x p):ascT (tx (inputB p))=true:=by
 unfold inputB
 simp only [z9d,z1q]
 rw [z7r h.1,y1k h.2];rfl
theorem asc_param {p:Param} (h:y1x p):ascT (tx (y0u p))=true:=by
 unfold y0u
 simp only [z9d,z1q]
 rw [z7r h.1,y1k h.2];rfl
theorem asc_out {o:Bs} (h:z0q o=true):ascT (tx (outB o))=true:=by
 unfold outB
 simp only [z9d,z1q]
 rw [z7r h];rfl
theorem asc_fun {f:Fun} (h:okFun f):ascT (tx (funB f))=true:=by
 obtain ⟨h1,h2,h3,h4,_⟩:=h
 unfold funB
 simp only [z9d,z1q,tx_wB]
 rw [z7r h1,y1k h3,asc_write h4,asc_cat fun p hp=>asc_param (h2 p hp)];rfl
theorem asc_print {c:Core} (h:OkCore c):AscB (z4l c):=by
 have h1:ascT (tx (z4l c))=true:=by
  unfold z4l
  simp only [z9d,z1q]
  rw [asc_cat fun d hd=>asc_data (h.datas d hd),asc_cat fun d hd=>asc_input (h.inputs d hd),asc_cat fun d hd=>asc_fun (h.funs d hd),asc_cat fun d hd=>asc_out (h.outs d hd)];rfl
 intro j b hb
 simp only [ascT,List.all_eq_true,decide_eq_true_eq] at h1
 exact h1 b (List.mem_of_getElem? hb)
theorem print_err {c:Core} (h:¬(z6q c).2=0):(z6q c).1=(⟨#[]⟩:ByteArray):=by
 unfold z6q at h ⊢
 split
 ·rfl
 ·rename_i h1
  rw [if_neg h1] at h
  split
  ·rfl
  ·rename_i h2
   rw [if_neg h2] at h
   exact absurd rfl h
theorem print_fine {c:Core} (h:(z6q c).2=0):z2c c=0∧¬60000 < (z4l c).size∧(z6q c).1=z4l c:=by
 unfold z6q at h ⊢
 split at h
 ·rename_i h1;exact absurd h h1
 ·rename_i h1
  split at h
  ·cases h
  ·rename_i h2
   rw [if_neg h1,if_neg h2]
   exact ⟨Decidable.of_not_not h1,h2,rfl⟩
theorem parseBack_ok {Φ:Fz} {K:List Res} {w:World} {d0:List Value} {c:Core} (rpc:RCore Φ d0 c) (h:(z6q c).2=0) (G:Glob Φ) (hm:Mem Φ K w) :
  Calls Tryz.prog 25 (List.toArray [.string (z6q c).1]) w (fun ee w'=>∃y:Fz×List Value,ee=.returned (.tuple (List.toArray [.agg y.2.toArray,.int .i64 ((0:Nat):Int),.int .i64 ((0:Nat):Int)]))∧(Φ.Le y.1∧RCore y.1 y.2 c)∧Mem y.1 K w'):=by
 obtain ⟨h1,h2,h3⟩:=print_fine h
 have hn:=core_nums rpc
 rw [h3]
 have h4:=parse_ok G (asc_print (ok_core h1 hn)) hm
 rw [parse_print h1 h2 hn] at h4
 refine h4.mono fun ee w' h =>?_
 obtain ⟨⟨Ψ,v0,v1,v2,v3⟩,h1,⟨h2,h3,h4,h5⟩,h6⟩:=h
 obtain ⟨Ψ2,le2,hm2,hrow⟩:=h6.freezeRow (i:=0) rfl
 exact ⟨(Ψ2,[v0,v1,v2,v3]),h1,⟨h2.trans le2,v0,v1,v2,v3,rfl,h3.mono RData.mono le2,h4.mono RParam.mono le2,h5.mono RFun.mono le2,SliceOf.strs.2 hrow⟩,hm2⟩
theorem sameT_core {Φ:Fz} {K:List Res} {w:World} {d0 d1:List Value} {v u:Core} (rpv:RCore Φ d0 v) (rpu:RCore Φ d1 u) (h:v=u) (hm:Mem Φ K w) :
  Calls Tryz.prog 27 (List.toArray [.agg d0.toArray,.agg d1.toArray]) w (fun ee w'=>ee=.returned (.bool true)∧Mem Φ K w'):=by
 subst h
 refine (same_ok rpv rpu hm).mono fun ee w' h =>?_
 rw [sameC_refl] at h
 exact h
end Go.Sw
