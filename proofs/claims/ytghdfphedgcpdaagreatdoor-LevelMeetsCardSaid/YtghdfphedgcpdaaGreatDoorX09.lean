import Derived.Test.YtghdfphedgcpdaaGreatDoorProg
import Derived.Test.YtghdfphedgcpdaaGreatDoorX01
import Derived.Test.YtghdfphedgcpdaaGreatDoorX08
set_option linter.unusedVariables false
set_option linter.unusedSimpArgs false
namespace Go.Sw
open Go.Proofs.Tryz
open Go.Proofs
set_option maxRecDepth 20000
set_option maxHeartbeats 4000000
def y0h (e:Ex):List Bs:=if e.kind=6 then [e.name] else []
theorem q8f (e:Ex):yC e=y0h e++bindPs e.args++bindPa e.arms:=nI e
theorem tB {l:List Ex} {i:Nat} {x:Ex} (h:l[i]? = some x):bindPs (l.drop i)=yC x++bindPs (l.drop (i+1)):=by rw [zA h];rfl
theorem z9e {l:List Ex} {i:Nat} (h:¬i < l.length):bindPs (l.drop i)=[]:=by rw [zH h];rfl
theorem y8s {l:List Arm} {i:Nat} {x:Arm} (h:l[i]? = some x):bindPa (l.drop i)=x.vars++(yC x.body++bindPa (l.drop (i+1))):=by rw [zA h,jS,List.append_assoc]
theorem z9d {l:List Arm} {i:Nat} (h:¬i < l.length):bindPa (l.drop i)=[]:=by rw [zH h];rfl
theorem pY {a b c:List Bs} (h:a++c=b++c):a=b:=List.append_cancel_right h
theorem j3w {β:Type} {Φ:Fz} {y:Value} {items:List Bs} {KY:List Bs→β→List Res} (hy:Takes prog Φ y (fun s=>[.string s]) items KY) {e:Ex} (ih:∀x:Ex,x.sz < e.sz→∀{K0:List Res} {w:World} {d0:List Value} {pre post:List Bs} {z:β},REx Φ d0 x→Takes prog Φ y (fun s=>[.string s]) items KY→items=pre++yC x++post→Mem Φ (K0++KY pre z) w→Calls prog 101 (List.toArray [.agg d0.toArray,y]) w (fun ee w'=>∃z':β,ee=.returned (.bool true)∧True∧Mem Φ (K0++KY (pre++yC x) z') w')) {K0:List Res} {w:World} {d0:List Value} {pre post:List Bs} {z:β} (re:REx Φ d0 e) (hit:items=pre++yC e++post) (hm:Mem Φ (K0++KY pre z) w) :
  Calls prog 101 (List.toArray [.agg d0.toArray,y]) w (fun ee w'=>∃z':β,ee=.returned (.bool true)∧True∧Mem Φ (K0++KY (pre++yC e) z') w'):=by
 have re0_:=re
 obtain ⟨p3,c4,p9,c10,rfl,hi13,h2,h8,hm5,hn6,hm11,hn12⟩:=REx.fm re
 refine zN func101 ntmps101 fun Q hQ a he =>?_
 refine Bx fun b15 w hm a he =>?_
 refine go1 fun a he =>?_
 refine jZ ?_
 have hit0_:=hit
 rw [q8f,List.append_assoc,List.append_assoc] at hit0_
 refine yO he (by intro c h;cases h) (qO he rfl q5d rfl) rfl fun a he =>
   yO he (by intro c h;cases h) (yR 0 he hm.toSees rfl rfl rfl isAgg3) rfl fun a he =>?_
 by_cases h18:e.kind=6
 refine yO he (by intro c h;cases h) (jR true he rfl rfl (decide_eq_true h18)) rfl fun a he =>
   yO he (by intro c h;cases h) (jB he rfl) rfl fun a he =>?_
 refine oY he rfl rfl rfl rfl rfl (by intro c h;cases h) (z8q (jB he rfl) fun a he =>?_)
 refine oY he rfl rfl rfl rfl rfl (by intro c h;cases h) (z8q (qO he rfl oU rfl) fun a he =>?_)
 refine oY he rfl rfl rfl rfl rfl (by intro c h;cases h) (z8q (yR 0 he hm.toSees rfl rfl rfl isAgg9) fun a he =>?_)
 refine oY he rfl rfl rfl rfl rfl (by intro c h;cases h) (xS he rfl rfl (hy.go pre e.name _ z (.blk b15 (ob [.int .i64 (e.kind),.int .i64 (e.num),.string e.name,.slice p3 e.args.length c4,.slice p9 e.arms.length c10] 110)::K0) w (by rw [hit0_,show y0h e=[e.name] by rw [y0h,if_pos h18]];simp only [List.append_assoc,List.cons_append,List.nil_append];rfl) hm) fun w hJ_ a he =>?_)
 obtain ⟨z19,hm⟩:=hJ_
 replace hm:=hm.nf
 refine oY he rfl rfl rfl rfl rfl (by intro c h;cases h) (z8q (tY he rfl) fun a he =>?_)
 refine yO he (by intro c h;cases h) (j1r he rfl rfl) rfl fun a he =>?_
 refine wV ?_
 refine go fun a he =>?_
 have hh_:items=(pre++[e.name])++(bindPs e.args++(bindPa e.arms++post)):=by
  rw [hit0_,show y0h e=[e.name] by rw [y0h,if_pos h18]];simp only [List.append_assoc,List.nil_append,List.append_nil]
 refine go fun a he =>?_
 refine xB (fun mm a w=>∃(i:Nat) (pr:List Bs) (zz:β),mm=e.args.length - i∧EnvR 58 [(1,y),(2,.pointer (some ⟨b15,0,none⟩)),(22,.slice p3 e.args.length c4),(23,.int .i64 ((e.args.length:Nat):Int)),(24,.int .i64 ((i:Nat):Int))] [] a∧Mem Φ (.blk b15 (ob [.int .i64 (e.kind),.int .i64 (e.num),.string e.name,.slice p3 e.args.length c4,.slice p9 e.arms.length c10] 110)::K0++KY pr zz) w∧(items=pr++(bindPs (e.args.drop i)++(bindPa e.arms++post)))) (e.args.length - 0) ⟨0,(pre++[e.name]),z19,rfl,he.pk,hm,hh_⟩ ?_
 clear hm he
 rintro mm a w ⟨i,pr,zz,hmu,he,hm,hI23⟩ L22 hL22
 by_cases h25:i < e.args.length
 refine go fun a he =>?_
 obtain ⟨q29,rfl,x30,hx31,cs32,hl33,ha34,hr35⟩:=h2.el hn6 h25
 obtain ⟨p38,c39,p44,c45,rfl,hi48,h37,h43,hm40,hn41,hm46,hn47⟩:=REx.fm hr35
 refine Alc fun b49 w hm a he =>?_
 refine Sto 0 fun w hm a he =>?_
 refine qV call101 (fun y51 w hG52 hm a he =>?_) (c:=ih _ (Ex.lt_args (List.mem_of_getElem? hx31)) (K0:=_::_::K0) (post:=_) hr35 hy (by rw [hI23,tB hx31];simp only [List.append_assoc];rfl) hm)
 refine go fun a he =>?_
 replace hm:=hm.dl [0]
 refine hL22 _ _ _ (by subst hmu;omega) ⟨(i+1),((pr++yC x30)),(y51),rfl,he.pk,hm,?_⟩
 rw [hI23,tB hx31];simp only [List.append_assoc]
 refine go fun a he =>?_
 refine xB (fun mm a w=>∃(i:Nat) (pr:List Bs) (zz:β),mm=e.arms.length - i∧EnvR 58 [(1,y),(34,.slice p9 e.arms.length c10),(35,.int .i64 ((e.arms.length:Nat):Int)),(36,.int .i64 ((i:Nat):Int))] [] a∧Mem Φ (.blk b15 (ob [.int .i64 (e.kind),.int .i64 (e.num),.string e.name,.slice p3 e.args.length c4,.slice p9 e.arms.length c10] 110)::K0++KY pr zz) w∧(items=pr++(bindPa (e.arms.drop i)++post))) (e.arms.length - 0) ⟨0,pr,zz,rfl,he.pk,hm,by rw [hI23,z9e h25,List.nil_append];rfl⟩ ?_
 clear hm he
 rintro mm a w ⟨i,pr,zz,hmu,he,hm,hI57⟩ L56 hL56
 by_cases h59:i < e.arms.length
 refine go fun a he =>?_
 obtain ⟨q63,rfl,x64,hx65,cs66,hl67,ha68,hr69⟩:=h8.el hn12 h59
 obtain ⟨s70,b76,rfl,h71,h77⟩:=RArm.iff.1 hr69
 obtain ⟨p72,c73,rfl,hm74,hn75⟩:=h71.fm
 obtain ⟨p80,c81,p86,c87,rfl,hi90,h79,h85,hm82,hn83,hm88,hn89⟩:=REx.fm h77
 refine Alc fun b91 w hm a he =>?_
 refine Sto 0 fun w hm a he =>?_
 refine go fun a he =>?_
 refine xB (fun mm a w=>∃(k:Nat) (pr:List Bs) (zz:β),mm=x64.vars.length - k∧EnvR 58 [(1,y),(8,.pointer (some ⟨b91,0,none⟩)),(34,.slice (some q63) e.arms.length c10),(35,.int .i64 ((e.arms.length:Nat):Int)),(36,.int .i64 ((i:Nat):Int)),(41,.slice p72 x64.vars.length c73),(42,.int .i64 ((x64.vars.length:Nat):Int)),(43,.int .i64 ((k:Nat):Int))] [] a∧Mem Φ (.blk b91 (ob [.string x64.con,.slice p72 x64.vars.length c73,.int .i64 (x64.body.kind),.int .i64 (x64.body.num),.string x64.body.name,.slice p80 x64.body.args.length c81,.slice p86 x64.body.arms.length c87] 174)::.blk b15 (ob [.int .i64 (e.kind),.int .i64 (e.num),.string e.name,.slice p3 e.args.length c4,.slice (some q63) e.arms.length c10] 110)::K0++KY pr zz) w∧(items=pr++(x64.vars.drop k++(yC x64.body++(bindPa (e.arms.drop (i+1))++post))))) (x64.vars.length - 0) ⟨0,pr,zz,rfl,he.pk,hm,by rw [hI57,y8s hx65];simp only [List.append_assoc,List.drop_zero]⟩ ?_
 clear hm he
 rintro mm a w ⟨k,pr,zz,hmu,he,hm,hI95⟩ L94 hL94
 by_cases h97:k < x64.vars.length
 refine go fun a he =>?_
 obtain ⟨q101,rfl,x102,hx103,cs104,hl105,ha106,hr107⟩:=h71.el hn75 h97
 obtain rfl:cs104=[.string x102]:=hr107
 refine go1 fun a he =>?_
 refine jZ ?_
 refine yO he (by intro c h;cases h) (jB he rfl) rfl fun a he =>
   yO he (by intro c h;cases h) (jB he rfl) rfl fun a he =>?_
 refine oZ he rfl rfl rfl (by intro c h;cases h) (xS he rfl rfl (hy.go pr x102 _ zz (.blk b91 (ob [.string x64.con,.slice (some q101) x64.vars.length c73,.int .i64 (x64.body.kind),.int .i64 (x64.body.num),.string x64.body.name,.slice p80 x64.body.args.length c81,.slice p86 x64.body.arms.length c87] 174)::.blk b15 (ob [.int .i64 (e.kind),.int .i64 (e.num),.string e.name,.slice p3 e.args.length c4,.slice (some q63) e.arms.length c10] 110)::K0) w (by have h_:=hI95;rw [zA hx103] at h_;rw [h_];simp only [List.append_assoc,List.cons_append];rfl) hm) fun w hJ_ a he =>?_)
 obtain ⟨z109,hm⟩:=hJ_
 replace hm:=hm.nf
 refine yO he (by intro c h;cases h) (tY he rfl) rfl fun a he =>?_
 refine wV ?_
 refine go fun a he =>?_
 refine hL94 _ _ _ (by subst hmu;omega) ⟨(k+1),((pr++[x102])),(z109),rfl,he.pk,hm,?_⟩
 rw [hI95,zA hx103];simp only [List.append_assoc,List.cons_append,List.nil_append]
 refine qV call101 (fun y112 w hG113 hm a he =>?_) (c:=ih _ (Ex.lt_arms (List.mem_of_getElem? hx65)) (K0:=_::_::K0) (post:=_) h77 hy (by have h_:=hI95;rw [zH h97] at h_;rw [h_];simp only [List.append_assoc,List.nil_append];rfl) hm)
 refine go fun a he =>?_
 replace hm:=hm.dl [0]
 refine hL56 _ _ _ (by subst hmu;omega) ⟨(i+1),((pr++yC x64.body)),(y112),rfl,he.pk,hm,?_⟩
 have h_:=hI95
 rw [zH h97] at h_
 rw [h_];simp only [List.append_assoc,List.nil_append]
 refine zF ?_
 replace hm:=hm.dl [0]
 have h_:=hI57
 rw [z9d h59,List.nil_append,hit] at h_
 rw [pY h_];exact ⟨_,rfl,trivial,hm⟩
 refine yO he (by intro c h;cases h) (jR false he rfl rfl (decide_eq_false h18)) rfl fun a he =>
   yO he (by intro c h;cases h) (jB he rfl) rfl fun a he =>
   y0k he rfl rfl rfl rfl rfl rfl fun a he =>
   y0k he rfl rfl rfl rfl rfl rfl fun a he =>
   y0k he rfl rfl rfl rfl rfl rfl fun a he =>
   y0k he rfl rfl rfl rfl rfl rfl fun a he =>
   y0k he rfl rfl rfl rfl rfl rfl fun a he =>
   yO he (by intro c h;cases h) (j1r he rfl rfl) rfl fun a he =>?_
 refine wV ?_
 refine go fun a he =>?_
 have hh_:items=pre++(bindPs e.args++(bindPa e.arms++post)):=by
  rw [hit0_,show y0h e=[] by rw [y0h,if_neg h18]];simp only [List.append_assoc,List.nil_append,List.append_nil]
 refine go fun a he =>?_
 refine xB (fun mm a w=>∃(i:Nat) (pr:List Bs) (zz:β),mm=e.args.length - i∧EnvR 58 [(1,y),(2,.pointer (some ⟨b15,0,none⟩)),(22,.slice p3 e.args.length c4),(23,.int .i64 ((e.args.length:Nat):Int)),(24,.int .i64 ((i:Nat):Int))] [] a∧Mem Φ (.blk b15 (ob [.int .i64 (e.kind),.int .i64 (e.num),.string e.name,.slice p3 e.args.length c4,.slice p9 e.arms.length c10] 110)::K0++KY pr zz) w∧(items=pr++(bindPs (e.args.drop i)++(bindPa e.arms++post)))) (e.args.length - 0) ⟨0,pre,z,rfl,he.pk,hm,hh_⟩ ?_
 clear hm he
 rintro mm a w ⟨i,pr,zz,hmu,he,hm,hI119⟩ L118 hL118
 by_cases h121:i < e.args.length
 refine go fun a he =>?_
 obtain ⟨q125,rfl,x126,hx127,cs128,hl129,ha130,hr131⟩:=h2.el hn6 h121
 obtain ⟨p134,c135,p140,c141,rfl,hi144,h133,h139,hm136,hn137,hm142,hn143⟩:=REx.fm hr131
 refine Alc fun b145 w hm a he =>?_
 refine Sto 0 fun w hm a he =>?_
 refine qV call101 (fun y147 w hG148 hm a he =>?_) (c:=ih _ (Ex.lt_args (List.mem_of_getElem? hx127)) (K0:=_::_::K0) (post:=_) hr131 hy (by rw [hI119,tB hx127];simp only [List.append_assoc];rfl) hm)
 refine go fun a he =>?_
 replace hm:=hm.dl [0]
 refine hL118 _ _ _ (by subst hmu;omega) ⟨(i+1),((pr++yC x126)),(y147),rfl,he.pk,hm,?_⟩
 rw [hI119,tB hx127];simp only [List.append_assoc]
 refine go fun a he =>?_
 refine xB (fun mm a w=>∃(i:Nat) (pr:List Bs) (zz:β),mm=e.arms.length - i∧EnvR 58 [(1,y),(34,.slice p9 e.arms.length c10),(35,.int .i64 ((e.arms.length:Nat):Int)),(36,.int .i64 ((i:Nat):Int))] [] a∧Mem Φ (.blk b15 (ob [.int .i64 (e.kind),.int .i64 (e.num),.string e.name,.slice p3 e.args.length c4,.slice p9 e.arms.length c10] 110)::K0++KY pr zz) w∧(items=pr++(bindPa (e.arms.drop i)++post))) (e.arms.length - 0) ⟨0,pr,zz,rfl,he.pk,hm,by rw [hI119,z9e h121,List.nil_append];rfl⟩ ?_
 clear hm he
 rintro mm a w ⟨i,pr,zz,hmu,he,hm,hI153⟩ L152 hL152
 by_cases h155:i < e.arms.length
 refine go fun a he =>?_
 obtain ⟨q159,rfl,x160,hx161,cs162,hl163,ha164,hr165⟩:=h8.el hn12 h155
 obtain ⟨s166,b172,rfl,h167,h173⟩:=RArm.iff.1 hr165
 obtain ⟨p168,c169,rfl,hm170,hn171⟩:=h167.fm
 obtain ⟨p176,c177,p182,c183,rfl,hi186,h175,h181,hm178,hn179,hm184,hn185⟩:=REx.fm h173
 refine Alc fun b187 w hm a he =>?_
 refine Sto 0 fun w hm a he =>?_
 refine go fun a he =>?_
 refine xB (fun mm a w=>∃(k:Nat) (pr:List Bs) (zz:β),mm=x160.vars.length - k∧EnvR 58 [(1,y),(8,.pointer (some ⟨b187,0,none⟩)),(34,.slice (some q159) e.arms.length c10),(35,.int .i64 ((e.arms.length:Nat):Int)),(36,.int .i64 ((i:Nat):Int)),(41,.slice p168 x160.vars.length c169),(42,.int .i64 ((x160.vars.length:Nat):Int)),(43,.int .i64 ((k:Nat):Int))] [] a∧Mem Φ (.blk b187 (ob [.string x160.con,.slice p168 x160.vars.length c169,.int .i64 (x160.body.kind),.int .i64 (x160.body.num),.string x160.body.name,.slice p176 x160.body.args.length c177,.slice p182 x160.body.arms.length c183] 174)::.blk b15 (ob [.int .i64 (e.kind),.int .i64 (e.num),.string e.name,.slice p3 e.args.length c4,.slice (some q159) e.arms.length c10] 110)::K0++KY pr zz) w∧(items=pr++(x160.vars.drop k++(yC x160.body++(bindPa (e.arms.drop (i+1))++post))))) (x160.vars.length - 0) ⟨0,pr,zz,rfl,he.pk,hm,by rw [hI153,y8s hx161];simp only [List.append_assoc,List.drop_zero]⟩ ?_
 clear hm he
 rintro mm a w ⟨k,pr,zz,hmu,he,hm,hI191⟩ L190 hL190
 by_cases h193:k < x160.vars.length
 refine go fun a he =>?_
 obtain ⟨q197,rfl,x198,hx199,cs200,hl201,ha202,hr203⟩:=h167.el hn171 h193
 obtain rfl:cs200=[.string x198]:=hr203
 refine go1 fun a he =>?_
 refine jZ ?_
 refine yO he (by intro c h;cases h) (jB he rfl) rfl fun a he =>
   yO he (by intro c h;cases h) (jB he rfl) rfl fun a he =>?_
 refine oZ he rfl rfl rfl (by intro c h;cases h) (xS he rfl rfl (hy.go pr x198 _ zz (.blk b187 (ob [.string x160.con,.slice (some q197) x160.vars.length c169,.int .i64 (x160.body.kind),.int .i64 (x160.body.num),.string x160.body.name,.slice p176 x160.body.args.length c177,.slice p182 x160.body.arms.length c183] 174)::.blk b15 (ob [.int .i64 (e.kind),.int .i64 (e.num),.string e.name,.slice p3 e.args.length c4,.slice (some q159) e.arms.length c10] 110)::K0) w (by have h_:=hI191;rw [zA hx199] at h_;rw [h_];simp only [List.append_assoc,List.cons_append];rfl) hm) fun w hJ_ a he =>?_)
 obtain ⟨z205,hm⟩:=hJ_
 replace hm:=hm.nf
 refine yO he (by intro c h;cases h) (tY he rfl) rfl fun a he =>?_
 refine wV ?_
 refine go fun a he =>?_
 refine hL190 _ _ _ (by subst hmu;omega) ⟨(k+1),((pr++[x198])),(z205),rfl,he.pk,hm,?_⟩
 rw [hI191,zA hx199];simp only [List.append_assoc,List.cons_append,List.nil_append]
 refine qV call101 (fun y208 w hG209 hm a he =>?_) (c:=ih _ (Ex.lt_arms (List.mem_of_getElem? hx161)) (K0:=_::_::K0) (post:=_) h173 hy (by have h_:=hI191;rw [zH h193] at h_;rw [h_];simp only [List.append_assoc,List.nil_append];rfl) hm)
 refine go fun a he =>?_
 replace hm:=hm.dl [0]
 refine hL152 _ _ _ (by subst hmu;omega) ⟨(i+1),((pr++yC x160.body)),(y208),rfl,he.pk,hm,?_⟩
 have h_:=hI191
 rw [zH h193] at h_
 rw [h_];simp only [List.append_assoc,List.nil_append]
 refine zF ?_
 replace hm:=hm.dl [0]
 have h_:=hI153
 rw [z9d h155,List.nil_append,hit] at h_
 rw [pY h_];exact ⟨_,rfl,trivial,hm⟩
theorem bind_ok {β:Type} {Φ:Fz} {y:Value} {items:List Bs} {KY:List Bs→β→List Res} (hy:Takes prog Φ y (fun s=>[.string s]) items KY) {e:Ex} {K0:List Res} {w:World} {d0:List Value} {pre post:List Bs} {z:β} (re:REx Φ d0 e) (hit:items=pre++yC e++post) (hm:Mem Φ (K0++KY pre z) w) :
  Calls prog 101 (List.toArray [.agg d0.toArray,y]) w (fun ee w'=>∃z':β,ee=.returned (.bool true)∧True∧Mem Φ (K0++KY (pre++yC e) z') w'):=by
 have:∀(n:Nat) (e:Ex),e.sz < n→∀{K0:List Res} {w:World} {d0:List Value} {pre post:List Bs} {z:β},REx Φ d0 e→items=pre++yC e++post→Mem Φ (K0++KY pre z) w →
   Calls prog 101 (List.toArray [.agg d0.toArray,y]) w (fun ee w'=>∃z':β,ee=.returned (.bool true)∧True∧Mem Φ (K0++KY (pre++yC e) z') w'):=by
  intro n
  induction n with
  | zero=>intro e h;omega
  | succ n ih=>intro e h K0 w d0 pre post z re hit hm;exact j3w hy (fun x hx K0 w d0 pre post z r _ h1 h2=>ih x (by omega) r h1 h2) re hit hm
 exact this _ e (Nat.lt_succ_self _) re hit hm
end Go.Sw

namespace Go.Sw
open Go.Proofs.Tryz
open Go.Proofs
set_option maxRecDepth 20000
set_option maxHeartbeats 4000000
theorem q4g {Φ:Fz} {K:List Res} {w:World} {d0:List Value} {e:Ex} (re:REx Φ d0 e) (hm:Mem Φ K w) :
  Calls prog 65 (List.toArray [.agg d0.toArray]) w (fun ee w'=>∃b:Nat,ee=.returned (.func (.func 100) (List.toArray []) (List.toArray [.pointer (some ⟨b,0,none⟩)]))∧True∧Mem Φ (.blk b (ob d0 110)::K) w'):=by
 have re0_:=re
 obtain ⟨p3,c4,p9,c10,rfl,hi13,h2,h8,hm5,hn6,hm11,hn12⟩:=REx.fm re
 refine zN func65 ntmps65 fun Q hQ a he =>?_
 refine Bx fun b15 w hm a he =>?_
 refine zF ?_
 exact ⟨_,rfl,trivial,hm⟩
theorem q4f {β:Type} {Φ:Fz} {w:World} {d0:List Value} {e:Ex} {y:Value} {KY:List Bs→β→List Res} {z:β} {b:Nat} (re:REx Φ d0 e) (hy:Takes prog Φ y (fun s=>[.string s]) (yC e) KY) (hm:Mem Φ (.blk b (ob d0 110)::KY [] z) w) :
  Calls prog 100 (List.toArray [y,.pointer (some ⟨b,0,none⟩)]) w (fun ee w'=>∃z':β,ee=.returned (.tuple #[])∧True∧Mem Φ (.blk b (ob d0 110)::KY (yC e) z') w'):=by
 have re0_:=re
 obtain ⟨p3,c4,p9,c10,rfl,hi13,h2,h8,hm5,hn6,hm11,hn12⟩:=REx.fm re
 refine zN func100 ntmps100 fun Q hQ a he =>?_
 refine qV call101 (fun y14 w hG15 hm a he =>?_) (c:=bind_ok hy re (K0:=[.blk b (ob [.int .i64 (e.kind),.int .i64 (e.num),.string e.name,.slice p3 e.args.length c4,.slice p9 e.arms.length c10] 110)]) (pre:=[]) (post:=[]) (by simp) hm)
 refine go fun a he =>?_
 refine hQ _ _ _ (q0t he results100 ?_)
 exact ⟨_,rfl,trivial,hm⟩
end Go.Sw

namespace Go.Sw
open Go.Proofs.Tryz
open Go.Proofs
set_option maxRecDepth 20000
set_option maxHeartbeats 4000000
structure TidyC (c:Core):Prop where
 inp:∀p∈c.inputs,p.name.size≤1000
 con:∀d∈c.datas,∀x∈d.cons,x.name.size≤1000∧x.fields.length≤1000
 fn:∀f∈c.funs,f.name.size≤1000∧(∀p∈f.params,p.name.size≤1000)∧∀b∈yC f.body,b.size≤1000
theorem flds_at {s:Bs} {j n:Nat} (h:j < n):(List.range' j (n - j)).map (wM s)=wM s j::(List.range' (j+1) (n - (j+1))).map (wM s):=by
 obtain ⟨m,hm⟩:∃m,n - j=m+1:=⟨n - j - 1,by omega⟩
 rw [hm,List.range'_succ,List.map_cons,show n - (j+1)=m by omega]
theorem j8u {s:Bs} {j n:Nat} (h:¬j < n):(List.range' j (n - j)).map (wM s)=[]:=by rw [show n - j=0 by omega];rfl
theorem j8t (s:Bs) (n:Nat):z9y s n=(List.range' 0 (n - 0)).map (wM s):=by rw [z9y,List.range_eq_range',Nat.sub_zero]
theorem q6j (c:Core):zD c=[]++((c.inputs.drop 0).map (fun p=>inN p.name)++(c.datas.flatMap y6t++c.funs.flatMap uD)):=by simp [zD]
theorem funN_eq (f:Fun):uD f=[f.name]++((f.params.drop 0).map (fun p=>vrN f.name p.name)++(yC f.body).map (vrN f.name)):=by simp [uD]
theorem z8u {α:Type} {n:List α} {a b:List α} (h:n=a++b):a.length≤n.length:=by rw [h,List.length_append];omega
theorem xC {Φ:Fz} {K:List Res} {w:World} {d0:List Value} {c:Core} (rpc:RCore Φ d0 c) (G:Glob Φ) (hT:TidyC c) (hN:(zD c).length≤1000000000) (hm:Mem Φ K w) :
  Calls prog 37 (List.toArray [.agg d0.toArray]) w (fun ee w'=>∃v:Value,ee=.returned v∧True∧Mem Φ (.gs v 9 1 (strs (zD c))::K) w'):=by
 obtain ⟨p3,c4,p9,c10,p15,c16,p21,c22,rfl,h2,h8,h14,h20,hm5,hn6,hm11,hn12,hm17,hn18,hm23,hn24⟩:=RCore.fm rpc
 refine z3m func37 rfl ntmps37 rfl (fun Q hQ a he =>?_)
 refine Bx fun b26 w hm a he =>?_
 refine Alc fun b28 w hm a he =>?_
 refine go fun a he =>?_
 replace hm:=hm.nilRow 9 1
 replace hm:=hm.nf
 refine go fun a he =>?_
 refine yG (he.ks [1,3,18,19]) hm (fun R mm a w=>∃(i:Nat) (u:Value) (acc:List Bs),mm=c.inputs.length - i∧R Φ [(20,.int .i64 ((i:Nat):Int))] [(0,.gs (u) 9 1 (strs acc)),(1,.blk b28 (ob [u] 25))] a w∧(zD c=acc++((c.inputs.drop i).map (fun p=>inN p.name)++(c.datas.flatMap y6t++c.funs.flatMap uD)))) (c.inputs.length - 0) ⟨0,.slice none 0 0,[],rfl,⟨he.pk,hm⟩,q6j c⟩ ?_
 clear hm he
 rintro mm a w ⟨i,u,acc,hmu,⟨he,hm⟩,hI32⟩ L31 hL31
 replace hm:=hm.nf
 by_cases h34:i < c.inputs.length
 refine go fun a he =>?_
 obtain ⟨q38,rfl,x39,hx40,cs41,hl42,ha43,hr44⟩:=h8.el hn12 h34
 obtain rfl:=id hr44
 refine Alc fun b45 w hm a he =>?_
 refine Sto 0 fun w hm a he =>?_
 refine Reg [2,1,2,1,0,0,0,0] [0,2,3] fun w hm a he =>?_
 have hz_:=hT.inp _ (List.mem_of_getElem? hx40)
 refine qH fun a he =>?_
 refine zT call40 (fun w hm a he =>?_) (c:=y0j (by omega) hm)
 refine kW fun v46 w hm a he =>?_
 refine wL 2 vV (fun v47 w hm a he =>?_) (hb:=by have hl_:=z8u hI32;simp only [yA,List.length_cons,List.length_nil];omega)
 first | rw [qK] at hm | rw [← yZ] at hm
 refine Sto 3 fun w hm a he =>?_
 refine go fun a he =>?_
 replace hm:=hm.dl [1,0]
 refine hL31 _ _ _ (by subst hmu;omega) ⟨(i+1),(v47),((acc++[inN x39.name])),rfl,⟨he.pk,hm⟩,?_⟩
 rw [hI32,zA hx40];simp only [List.append_assoc,List.cons_append,List.nil_append,List.map_cons]
 refine go fun a he =>?_
 refine yG (he.ks [1,3,33,34]) hm (fun R mm a w=>∃(i:Nat) (u:Value) (acc:List Bs),mm=c.datas.length - i∧R Φ [(35,.int .i64 ((i:Nat):Int))] [(0,.gs (u) 9 1 (strs acc)),(1,.blk b28 (ob [u] 25))] a w∧(zD c=acc++((c.datas.drop i).flatMap y6t++c.funs.flatMap uD))) (c.datas.length - 0) ⟨0,u,acc,rfl,⟨he.pk,hm⟩,by rw [hI32,zH h34];rfl⟩ ?_
 clear hm he
 rintro mm a w ⟨i,u,acc,hmu,⟨he,hm⟩,hI52⟩ L51 hL51
 replace hm:=hm.nf
 by_cases h54:i < c.datas.length
 refine go fun a he =>?_
 obtain ⟨q58,rfl,x59,hx60,cs61,hl62,ha63,hr64⟩:=h2.el hn6 h54
 obtain ⟨s65,rfl,h66⟩:=id hr64
 obtain ⟨p67,c68,rfl,hm69,hn70⟩:=h66.fm
 refine Alc fun b71 w hm a he =>?_
 refine Sto 0 fun w hm a he =>?_
 refine go fun a he =>?_
 refine yG (he.ks [1,3,33,34,35,40,41]) hm (fun R mm a w=>∃(k:Nat) (u:Value) (acc:List Bs),mm=x59.cons.length - k∧R Φ [(42,.int .i64 ((k:Nat):Int))] [(1,.gs (u) 9 1 (strs acc)),(2,.blk b28 (ob [u] 25))] a w∧(zD c=acc++((x59.cons.drop k).flatMap (fun y=>z9y y.name y.fields.length)++((c.datas.drop (i+1)).flatMap y6t++c.funs.flatMap uD)))) (x59.cons.length - 0) ⟨0,u,acc,rfl,⟨he.pk,hm⟩,by rw [hI52,zA hx60,List.flatMap_cons,List.append_assoc];rfl⟩ ?_
 clear hm he
 rintro mm a w ⟨k,u,acc,hmu,⟨he,hm⟩,hI74⟩ L73 hL73
 replace hm:=hm.nf
 by_cases h76:k < x59.cons.length
 refine go fun a he =>?_
 obtain ⟨q80,rfl,x81,hx82,cs83,hl84,ha85,hr86⟩:=h66.el hn70 h76
 obtain ⟨s87,rfl,h88⟩:=id hr86
 obtain ⟨p89,c90,rfl,hm91,hn92⟩:=h88.fm
 refine Alc fun b93 w hm a he =>?_
 refine Sto 0 fun w hm a he =>?_
 refine go fun a he =>?_
 refine yG (he.ks [1,3,9,33,34,35,40,41,42,48]) hm (fun R mm a w=>∃(j:Nat) (u:Value) (acc:List Bs),mm=x81.fields.length - j∧R Φ [(49,.int .i64 ((j:Nat):Int))] [(2,.gs (u) 9 1 (strs acc)),(3,.blk b28 (ob [u] 25))] a w∧(zD c=acc++((List.range' j (x81.fields.length - j)).map (wM x81.name)++((x59.cons.drop (k+1)).flatMap (fun y=>z9y y.name y.fields.length)++((c.datas.drop (i+1)).flatMap y6t++c.funs.flatMap uD))))) (x81.fields.length - 0) ⟨0,u,acc,rfl,⟨he.pk,hm⟩,by rw [hI74,zA hx82,List.flatMap_cons,List.append_assoc,j8t]⟩ ?_
 clear hm he
 rintro mm a w ⟨j,u,acc,hmu,⟨he,hm⟩,hI96⟩ L95 hL95
 replace hm:=hm.nf
 by_cases h98:j < x81.fields.length
 refine Reg [2,1,2,1,1,0,0,0,0] [0,1,3,4] fun w hm a he =>?_
 have hz_:=hT.con _ (List.mem_of_getElem? hx60) _ (List.mem_of_getElem? hx82)
 refine qH fun a he =>?_
 refine zT call63 (fun w hm a he =>?_) (c:=z8r G (by omega) (by omega) hm)
 refine kW fun v102 w hm a he =>?_
 refine wL 3 vV (fun v103 w hm a he =>?_) (hb:=by have hl_:=z8u hI96;simp only [yA,List.length_cons,List.length_nil];omega)
 first | rw [qK] at hm | rw [← yZ] at hm
 refine Sto 4 fun w hm a he =>?_
 refine go fun a he =>?_
 replace hm:=hm.dl [0]
 refine hL95 _ _ _ (by subst hmu;omega) ⟨(j+1),(v103),((acc++[wM x81.name j])),rfl,⟨he.pk,hm⟩,?_⟩
 rw [hI96,flds_at (s:=x81.name) h98];simp only [List.append_assoc,List.cons_append,List.nil_append]
 refine go fun a he =>?_
 replace hm:=hm.dl [0]
 refine hL73 _ _ _ (by subst hmu;omega) ⟨(k+1),(u),(acc),rfl,⟨he.pk,hm⟩,?_⟩
 have h_:=hI96
 rw [j8u h98] at h_
 rw [h_];simp only [List.nil_append]
 refine go fun a he =>?_
 replace hm:=hm.dl [0]
 refine hL51 _ _ _ (by subst hmu;omega) ⟨(i+1),(u),(acc),rfl,⟨he.pk,hm⟩,?_⟩
 have h_:=hI74
 rw [zH h76] at h_
 rw [h_];simp only [List.flatMap_nil,List.nil_append]
 refine go fun a he =>?_
 refine xB (fun mm a w=>∃(i:Nat) (u:Value) (acc:List Bs) (ds:List Nat),mm=c.funs.length - i∧EnvR 112 [(3,.pointer (some ⟨b28,0,none⟩)),(64,.slice p15 c.funs.length c16),(65,.int .i64 ((c.funs.length:Nat):Int)),(66,.int .i64 ((i:Nat):Int))] (tW ds) a∧Mem Φ (.gs (u) 9 1 (strs acc)::.blk b28 (ob [u] 25)::.blk b26 (ob [.slice p3 c.datas.length c4,.slice p9 c.inputs.length c10,.slice p15 c.funs.length c16,.slice p21 c.outputs.length c22] 27)::xJ ds++K) w∧(zD c=acc++(c.funs.drop i).flatMap uD)) (c.funs.length - 0) ⟨0,u,acc,[],rfl,he.pk,hm,by rw [hI52,zH h54];rfl⟩ ?_
 clear hm he
 rintro mm a w ⟨i,u,acc,ds,hmu,he,hm,hI110⟩ L109 hL109
 by_cases h112:i < c.funs.length
 refine go fun a he =>?_
 obtain ⟨q116,rfl,x117,hx118,cs119,hl120,ha121,hr122⟩:=h14.el hn18 h112
 obtain ⟨s123,b129,rfl,h124,h130⟩:=id hr122
 obtain ⟨p125,c126,rfl,hm127,hn128⟩:=h124.fm
 obtain ⟨p133,c134,p139,c140,rfl,hi143,h132,h138,hm135,hn136,hm141,hn142⟩:=REx.fm h130
 refine Alc fun b144 w hm a he =>?_
 refine Sto 0 fun w hm a he =>?_
 have hf_:=hT.fn _ (List.mem_of_getElem? hx118)
 refine qH fun a he =>?_
 refine y6o fun a he =>?_
 refine Alc fun b146 w hm a he =>?_
 refine Sto 0 fun w hm a he =>?_
 refine kW fun v148 w hm a he =>?_
 refine wL 3 vV (fun v149 w hm a he =>?_) (hb:=by have hl_:=z8u hI110;simp only [yA,List.length_cons,List.length_nil];omega)
 first | rw [qK] at hm | rw [← yZ] at hm
 refine Sto 4 fun w hm a he =>?_
 refine go fun a he =>?_
 refine yG (he.ks [3,13,64,65,66,83,84]) hm (fun R mm a w=>∃(k:Nat) (u:Value) (acc:List Bs),mm=x117.params.length - k∧R Φ [(85,.int .i64 ((k:Nat):Int))] [(3,.gs (u) 9 1 (strs acc)),(4,.blk b28 (ob [u] 25))] a w∧(zD c=acc++((x117.params.drop k).map (fun p=>vrN x117.name p.name)++((yC x117.body).map (vrN x117.name)++(c.funs.drop (i+1)).flatMap uD)))) (x117.params.length - 0) ⟨0,v149,(acc++[x117.name]),rfl,⟨he.pk,hm⟩,by rw [hI110,zA hx118,List.flatMap_cons,funN_eq];simp only [List.append_assoc,List.cons_append,List.nil_append]⟩ ?_
 clear hm he
 rintro mm a w ⟨k,u,acc,hmu,⟨he,hm⟩,hI153⟩ L152 hL152
 replace hm:=hm.nf
 by_cases h155:k < x117.params.length
 refine go fun a he =>?_
 obtain ⟨q159,rfl,x160,hx161,cs162,hl163,ha164,hr165⟩:=h124.el hn128 h155
 obtain rfl:=id hr165
 refine Alc fun b166 w hm a he =>?_
 refine Sto 0 fun w hm a he =>?_
 refine Reg [2,1,2,1,2,0,0,0,0] [0,1,2,3,5,6] fun w hm a he =>?_
 have hz_:=hf_.2.1 _ (List.mem_of_getElem? hx161)
 refine zT call64 (fun w hm a he =>?_) (c:=z5a (by omega) (by omega) hm)
 refine kW fun v167 w hm a he =>?_
 refine wL 5 vV (fun v168 w hm a he =>?_) (hb:=by have hl_:=z8u hI153;simp only [yA,List.length_cons,List.length_nil];omega)
 first | rw [qK] at hm | rw [← yZ] at hm
 refine Sto 6 fun w hm a he =>?_
 refine go fun a he =>?_
 replace hm:=hm.dl [1,0]
 refine hL152 _ _ _ (by subst hmu;omega) ⟨(k+1),(v168),((acc++[vrN x117.name x160.name])),rfl,⟨he.pk,hm⟩,?_⟩
 rw [hI153,zA hx161];simp only [List.append_assoc,List.cons_append,List.nil_append,List.map_cons]
 refine qV call65 (fun y171 w hG172 hm a he =>?_) (c:=q4g (by assumption) hm)
 refine go fun a he =>?_
 refine z5c (p:=102) (yC x117.body) (fun x=>.string x) [.blk y171 (ob [.int .i64 (x117.body.kind),.int .i64 (x117.body.num),.string x117.body.name,.slice p133 x117.body.args.length c134,.slice p139 x117.body.arms.length c140] 110)] (fun pre z=>.gs (v148) 9 1 [.string x117.name]::.blk b146 (ob [.string x117.name,.string x117.name,.slice p125 x117.params.length c126,.string x117.result,.int .i64 (x117.body.kind),.int .i64 (x117.body.num),.string x117.body.name,.slice p133 x117.body.args.length c134,.slice p139 x117.body.arms.length c140] 131)::.blk b144 (ob [.string x117.name,.slice p125 x117.params.length c126,.string x117.result,.int .i64 (x117.body.kind),.int .i64 (x117.body.num),.string x117.body.name,.slice p133 x117.body.args.length c134,.slice p139 x117.body.arms.length c140] 112)::.gs (z) 9 1 (strs (acc++pre.map (vrN x117.name)))::.blk b28 (ob [z] 25)::.blk b26 (ob [.slice p3 c.datas.length c4,.slice p9 c.inputs.length c10,.slice (some q116) c.funs.length c16,.slice p21 c.outputs.length c22] 27)::xJ ds++K) u he (by simpa using hm.nf) rfl call100 rfl (fun pre x post z l_ o1_ o2_ K1_ a w hit he hm =>?_) (fun y_ KY_ w hy_ hm =>?_) (fun Dk z a w he hm =>?_)
 replace hm:=hm.nf
 refine regI ?_
 refine yO he (by intro c h;cases h) (vJ he rfl) rfl fun a he =>?_
 refine wV ?_
 refine ⟨_,hm,fun w hm =>?_⟩
 replace hm:=hm.nf
 refine blkI ?_
 refine nG [2,1,2,1,0,0,0,0] (.q 0 (.q 1 (.q 2 (.q 3 (.e 4 (.e 5 (.e 6 (.e 7 (.done))))))))) [.gs (v148) 9 1 [.string x117.name],.blk b146 (ob [.string x117.name,.string x117.name,.slice p125 x117.params.length c126,.string x117.result,.int .i64 (x117.body.kind),.int .i64 (x117.body.num),.string x117.body.name,.slice p133 x117.body.args.length c134,.slice p139 x117.body.arms.length c140] 131),.blk b144 (ob [.string x117.name,.slice p125 x117.params.length c126,.string x117.result,.int .i64 (x117.body.kind),.int .i64 (x117.body.num),.string x117.body.name,.slice p133 x117.body.args.length c134,.slice p139 x117.body.arms.length c140] 112),.blk b28 (ob [z] 25),.blk b26 (ob [.slice p3 c.datas.length c4,.slice p9 c.inputs.length c10,.slice (some q116) c.funs.length c16,.slice p21 c.outputs.length c22] 27)] he hm mixed (by kernel_rfl) (by simp) (by kernel_rfl) fun w hm =>?_
 have hz_:=hf_.2.2 x (by rw [hit];simp)
 have hq_:=congrArg List.length hit
 simp only [List.length_append,List.length_cons] at hq_
 have hn_:=congrArg List.length hI153
 rw [zH h155] at hn_
 simp only [List.length_append,List.length_map,List.length_nil] at hn_
 refine zT call64 (fun w hm a he =>?_) (c:=z5a (by omega) (by omega) hm)
 refine kW fun v173 w hm a he =>?_
 refine wL 5 vV (fun v174 w hm a he =>?_) (hb:=by simp only [yA,List.length_append,List.length_map,List.length_cons,List.length_nil];omega)
 first | rw [qK] at hm | rw [← yZ] at hm
 refine Sto 6 fun w hm a he =>?_
 refine go fun a he =>?_
 replace hm:=hm.dl [0]
 refine ⟨rfl,v174,?_⟩
 rw [List.map_append,List.map_cons,List.map_nil,← List.append_assoc];exact hm
 exact (q4f (by assumption) hy_ hm).mono fun e w h=>let ⟨z,h1,_,h2⟩:=h;⟨_,z,h1,h2⟩
 replace hm:Mem Φ (.blk y171 (ob [.int .i64 (x117.body.kind),.int .i64 (x117.body.num),.string x117.body.name,.slice p133 x117.body.args.length c134,.slice p139 x117.body.arms.length c140] 110)::.gs (v148) 9 1 [.string x117.name]::.blk b146 (ob [.string x117.name,.string x117.name,.slice p125 x117.params.length c126,.string x117.result,.int .i64 (x117.body.kind),.int .i64 (x117.body.num),.string x117.body.name,.slice p133 x117.body.args.length c134,.slice p139 x117.body.arms.length c140] 131)::.blk b144 (ob [.string x117.name,.slice p125 x117.params.length c126,.string x117.result,.int .i64 (x117.body.kind),.int .i64 (x117.body.num),.string x117.body.name,.slice p133 x117.body.args.length c134,.slice p139 x117.body.arms.length c140] 112)::.gs (z) 9 1 (strs (acc++(yC x117.body).map (vrN x117.name)))::.blk b28 (ob [z] 25)::.blk b26 (ob [.slice p3 c.datas.length c4,.slice p9 c.inputs.length c10,.slice (some q116) c.funs.length c16,.slice p21 c.outputs.length c22] 27)::xJ (Dk::ds)++K) w:=Mem.mid (A:=[.blk Dk (.deferred (some []))]) (B:=[.blk y171 (ob [.int .i64 (x117.body.kind),.int .i64 (x117.body.num),.string x117.body.name,.slice p133 x117.body.args.length c134,.slice p139 x117.body.arms.length c140] 110),.gs (v148) 9 1 [.string x117.name],.blk b146 (ob [.string x117.name,.string x117.name,.slice p125 x117.params.length c126,.string x117.result,.int .i64 (x117.body.kind),.int .i64 (x117.body.num),.string x117.body.name,.slice p133 x117.body.args.length c134,.slice p139 x117.body.arms.length c140] 131),.blk b144 (ob [.string x117.name,.slice p125 x117.params.length c126,.string x117.result,.int .i64 (x117.body.kind),.int .i64 (x117.body.num),.string x117.body.name,.slice p133 x117.body.args.length c134,.slice p139 x117.body.arms.length c140] 112),.gs (z) 9 1 (strs (acc++(yC x117.body).map (vrN x117.name))),.blk b28 (ob [z] 25),.blk b26 (ob [.slice p3 c.datas.length c4,.slice p9 c.inputs.length c10,.slice (some q116) c.funs.length c16,.slice p21 c.outputs.length c22] 27)]) (C:=xJ ds++K) hm
 refine go fun a he =>?_
 replace hm:=hm.dl [3,2,1,0]
 refine hL109 _ _ _ (by subst hmu;omega) ⟨(i+1),(z),((acc++(yC x117.body).map (vrN x117.name))),((Dk::ds)),rfl,he.pk,hm,?_⟩
 have h_:=hI153
 rw [zH h155] at h_
 rw [h_];simp only [List.map_nil,List.nil_append,List.append_assoc]
 refine go fun a he =>?_
 replace hm:=hm.dl [2,1]
 replace hm:Mem Φ (xJ ds++(.gs (u) 9 1 (strs acc)::K)) w:=Mem.mid (A:=[.gs (u) 9 1 (strs acc)]) (B:=xJ ds) (C:=K) hm
 refine hQ _ _ _ (retX1 (ds:=ds) he results37 rfl hm fun w hm =>?_)
 have h_:=hI110
 rw [zH h112,List.flatMap_nil,List.append_nil] at h_
 rw [h_];exact ⟨_,rfl,trivial,hm⟩
end Go.Sw

namespace Go.Sw
inductive Tyd (T:Table):Scope→Ex→Bs→Prop
 | num {s:Scope} {e:Ex}:e.kind=1→e.args=[]→e.arms=[]→Tyd T s e qY
 | var {s:Scope} {e:Ex} {t:Bs}:e.kind=2→e.args=[]→e.arms=[]→zK s e.name=some t→Tyd T s e t
 | inp {s:Scope} {e:Ex} {t:Bs}:e.kind=3→e.args=[]→e.arms=[]→zK T.inputs e.name=some t→Tyd T s e t
 | con {s:Scope} {e:Ex} {m:Maker}:e.kind=4→e.arms=[]→zK T.cons e.name=some m→e.args.length=m.con.fields.length →
   (∀(i:Nat) x t,e.args[i]? = some x→m.con.fields[i]? = some t→Tyd T s x t)→Tyd T s e m.data
 | call {s:Scope} {e:Ex} {f:Fun}:e.kind=5→e.arms=[]→zK T.funs e.name=some f→e.args.length=f.params.length →
   (∀(i:Nat) x p,e.args[i]? = some x→f.params[i]? = some p→Tyd T s x p.type)→Tyd T s e f.result
 | let_ {s:Scope} {e x y:Ex} {t u:Bs}:e.kind=6→e.arms=[]→e.args=[x,y]→Tyd T s x t→Tyd T (qX s e.name t) y u→Tyd T s e u
 | case_ {s:Scope} {e x:Ex} {dt u:Bs} {d:Data}:e.kind=7→e.args=[x]→Tyd T s x dt→zK T.datas dt=some d→e.arms.length=d.cons.length →
   (∀(i:Nat) a c,e.arms[i]? = some a→d.cons[i]? = some c→a.con=c.name∧a.vars.length=c.fields.length) →
   (∀(i:Nat) a c,e.arms[i]? = some a→d.cons[i]? = some c→Tyd T (putAll s a.vars c.fields) a.body u)→Tyd T s e u
 | op {s:Scope} {e x y:Ex}:e.kind=8→e.arms=[]→e.args=[x,y]→Tyd T s x qY→Tyd T s y qY→Tyd T s e (opT e.name)
theorem q4c {l:List Ex} (hl:l.length=2):∃x y,l=[x,y]:=by
 match l,hl with
 | [x,y],_=>exact ⟨x,y,rfl⟩
theorem j7s {l:List Ex} (hl:l.length=1):∃x,l=[x]:=by
 match l,hl with
 | [x],_=>exact ⟨x,rfl⟩
theorem q8e {e:Ex} {a b:Bool} {r:Int} {n:Nat} (h:qN e a b r (n:Int)=true):e.arms.length=n:=by
 simp only [qN,Bool.and_eq_true,Bool.or_eq_true,decide_eq_true_eq] at h
 omega
theorem wA {e:Ex} {a b:Bool} {r:Int} (h:qN e a b r 0=true):e.arms=[]:=List.eq_nil_of_length_eq_zero (q8e (n:=0) h)
theorem oO {e:Ex} {a b:Bool} {r:Int} (h:qN e a b 0 r=true):e.args=[]:=List.eq_nil_of_length_eq_zero (kZ (n:=0) h)
theorem z3v:∀{es:List Ex} {x:Ex} {m:Bs},x∈es→m∈yC x→m∈bindPs es
 | y::es,x,m,h,hm=>by
  simp only [bindPs,List.mem_append]
  rcases List.mem_cons.1 h with rfl | h
  ·exact .inl hm
  ·exact .inr (z3v h hm)
theorem z3u:∀{es:List Arm} {a:Arm} {m:Bs},a∈es→m∈a.vars++yC a.body→m∈bindPa es
 | b::es,a,m,h,hm=>by
  rw [jS,List.mem_append]
  rcases List.mem_cons.1 h with rfl | h
  ·exact .inl hm
  ·exact .inr (z3u h hm)
theorem q0k:∀{es:List Ex} {x:Ex},(bindPs es).Nodup→x∈es→(yC x).Nodup
 | y::es,x,hn,h=>by
  have hn':=jG (show (yC y++bindPs es).Nodup from hn)
  rcases List.mem_cons.1 h with rfl | h
  ·exact hn'.1
  ·exact q0k hn'.2.1 h
theorem q0j:∀{es:List Arm} {a:Arm},(bindPa es).Nodup→a∈es→(a.vars++yC a.body).Nodup
 | b::es,a,hn,h=>by
  rw [jS] at hn
  have hn':=jG hn
  rcases List.mem_cons.1 h with rfl | h
  ·exact hn'.1
  ·exact q0j hn'.2.1 h
theorem z4y (T:Table) (hT0:zK T.datas sNo=none):∀(n:Nat) (e:Ex) (s:Scope),e.sz < n→(yC e).Nodup→Fresh s (yC e)→(zI T e s).1≠sNo→Tyd T s e (zI T e s).1
 | 0,_,_,h,_,_,_=>by omega
 | n+1,e,s,hsz,hn,hf,h=>by
  have hka:∀x∈e.args,z0p T x:=fun x hx=>z1f T hT0 (n+1) x (by have:=Ex.lt_args hx;omega)
  have hkb:∀a∈e.arms,z0p T a.body:=fun a ha=>z1f T hT0 (n+1) a.body (by have:=Ex.lt_arms ha;omega)
  rw [nI] at hn hf
  have hn1:=jG hn
  have hn2:=jG hn1.1
  have fa:Fresh s (bindPs e.args):=hf.sub fun m hm=>List.mem_append.2 (.inl (List.mem_append.2 (.inr hm)))
  have fb:Fresh s (bindPa e.arms):=hf.sub fun m hm=>List.mem_append.2 (.inr hm)
  have harg:∀(ts:List Bs),(vR T e.args s ts).1=true→e.args.length=ts.length∧∀(i:Nat) x t,e.args[i]? = some x→ts[i]? = some t→Tyd T s x t:=fun ts ha=>by
   have h1:=(z0q hka hn2.2.1 fa ha).2
   refine ⟨h1.length,fun i x t hx ht =>?_⟩
   have h2:Ty T x s t:=h1.get hx ht
   have mx:=List.mem_of_getElem? hx
   rw [← h2.1]
   exact z4y T hT0 n x s (by have:=Ex.lt_args mx;omega) (q0k hn2.2.1 mx) (fa.sub fun m hm=>z3v mx hm) (h2.1▸h2.2)
  by_cases h1:e.kind=1
  ·rw [z0h T e s h1] at h ⊢
   simp only [gY] at h ⊢
   split at h
   ·rename_i hb;rw [if_pos hb];exact .num h1 (oO hb) (wA hb)
   ·exact absurd rfl h
  by_cases h2:e.kind=2
  ·rw [z0i T e s h2] at h ⊢
   simp only [pV] at h ⊢
   split at h
   ·rename_i hb
    rw [if_pos hb]
    cases hv:zK s e.name with
    | none=>rw [hv] at h;exact absurd rfl h
    | some x=>exact .var h2 (oO hb) (wA hb) hv
   ·exact absurd rfl h
  by_cases h3:e.kind=3
  ·rw [z0f T e s h3] at h ⊢
   simp only [sA] at h ⊢
   split at h
   ·rename_i hb
    rw [if_pos hb]
    cases hv:zK T.inputs e.name with
    | none=>rw [hv] at h;exact absurd rfl h
    | some x=>exact .inp h3 (oO hb) (wA hb) hv
   ·exact absurd rfl h
  by_cases h4:e.kind=4
  ·rw [z0e T e s h4] at h ⊢
   unfold tP at h ⊢
   cases hm:zK T.cons e.name with
   | none=>rw [hm] at h;exact absurd rfl h
   | some m =>
    simp only [hm] at h ⊢
    by_cases hb:qN e false true (-1) 0=true
    ·rw [if_pos hb] at h ⊢
     by_cases ha:(vR T e.args s m.con.fields).1=true
     ·simp only [ha,if_true]
      obtain ⟨a1,a2⟩:=harg _ ha
      exact .con h4 (wA hb) hm a1 a2
     ·simp [ha] at h
    ·rw [if_neg hb] at h;exact absurd rfl h
  by_cases h5:e.kind=5
  ·rw [sS T e s h5] at h ⊢
   unfold nR at h ⊢
   cases hm:zK T.funs e.name with
   | none=>rw [hm] at h;exact absurd rfl h
   | some m =>
    simp only [hm] at h ⊢
    by_cases hb:qN e false true (-1) 0=true
    ·rw [if_pos hb] at h ⊢
     by_cases ha:(vR T e.args s (m.params.map Param.type)).1=true
     ·simp only [ha,if_true]
      obtain ⟨a1,a2⟩:=harg _ ha
      rw [List.length_map] at a1
      exact .call h5 (wA hb) hm a1 fun i x p hx hp=>a2 i x p.type hx (by rw [List.getElem?_map,hp];rfl)
     ·simp [ha] at h
    ·rw [if_neg hb] at h;exact absurd rfl h
  by_cases h6:e.kind=6
  ·rw [z0g T e s h6] at h ⊢
   unfold z1k at h ⊢
   by_cases hb:qN e false true 2 0=true
   ·rw [if_pos hb] at h ⊢
    obtain ⟨x,y,hxy⟩:=q4c (kZ (n:=2) hb)
    have hx:e.args[0]? = some x:=by rw [hxy];rfl
    have hy:e.args[1]? = some y:=by rw [hxy];rfl
    by_cases h0:(zI T x s).1=sNo
    ·rw [q2q hx h0] at h;exact absurd rfl h
    ·simp only [if_pos h6,hxy,bindPs,List.append_nil] at hn hf
     have hm1:=jG hn
     have hm2:=jG hm1.1
     have hm3:=jG hm2.2.1
     have mx:x∈e.args:=by rw [hxy];simp
     have my:y∈e.args:=by rw [hxy];simp
     have e1:=hka x mx s hm3.1 (hf.sub fun m hm=>by simp [hm]) h0
     rw [y0y hx hy h0] at h ⊢
     simp only [e1] at h ⊢
     refine .let_ h6 (wA hb) hxy (z4y T hT0 n x s (by have:=Ex.lt_args mx;omega) hm3.1 (hf.sub fun m hm=>by simp [hm]) h0)
      (z4y T hT0 n y _ (by have:=Ex.lt_args my;omega) hm3.2.1 (fun m hm =>?_) h)
     rw [jX,if_neg]
     ·exact hf m (by simp [hm])
     ·rintro rfl
      exact hm2.2.2 e.name (by simp) (by simp [hm])
   ·rw [if_neg hb] at h;exact absurd rfl h
  by_cases h7:e.kind=7
  ·rw [sT T e s h7] at h ⊢
   unfold jT at h ⊢
   by_cases hb:qN e false false 1 (-1)=true
   ·rw [if_pos hb] at h ⊢
    obtain ⟨x,hxy⟩:=j7s (kZ (n:=1) hb)
    have hx:e.args[0]? = some x:=by rw [hxy];rfl
    rw [jE hx] at h ⊢
    by_cases h0:(zI T x s).1=sNo
    ·simp only [h0,hT0] at h;exact absurd rfl h
    ·have na:=hn2.2.1
     have fx:=fa
     rw [hxy] at fx na
     simp only [bindPs,List.append_nil] at fx na
     have mx:x∈e.args:=by rw [hxy];simp
     have e1:=hka x mx s na fx h0
     rw [e1] at h ⊢
     cases hd:zK T.datas (zI T x s).1 with
     | none=>rw [hd] at h;exact absurd rfl h
     | some d =>
      simp only [hd] at h ⊢
      by_cases hle:d.cons.length=e.arms.length
      ·rw [if_pos hle] at h ⊢
       obtain ⟨_,g2,_⟩:=z0b h hkb hle hn1.2.1 fb rfl
       refine .case_ h7 hxy (z4y T hT0 n x s (by have:=Ex.lt_args mx;omega) na fx h0) hd hle.symm (fun i a c ha hc =>?_) (fun i a c ha hc =>?_)
       ·have g:=g2.get ha hc;exact ⟨g.1,g.2.1⟩
       ·have g:ArmOk T s _ a c:=g2.get ha hc
        have ma:=List.mem_of_getElem? ha
        have hba:=q0j hn1.2.1 ma
        have hna:=jG hba
        rw [← g.2.2.1]
        refine z4y T hT0 n a.body _ (by have:=Ex.lt_arms ma;omega) hna.2.1 (fun m hm =>?_) (g.2.2.1▸g.2.2.2)
        rw [cD fun hv=>hna.2.2 m hv hm]
        exact fb m (z3u ma (List.mem_append_right _ hm))
      ·rw [if_neg hle] at h;exact absurd rfl h
   ·rw [if_neg hb] at h;exact absurd rfl h
  by_cases h8:e.kind=8
  ·rw [z4z T e s h8] at h ⊢
   unfold mR at h ⊢
   by_cases hb:qN e false true 2 0=true
   ·rw [if_pos hb] at h ⊢
    by_cases ha:(vR T e.args s [qY,qY]).1=true
    ·simp only [ha,if_true]
     obtain ⟨a1,a2⟩:=harg _ ha
     obtain ⟨x,y,hxy⟩:=q4c a1
     rw [hxy] at a2
     exact .op h8 (wA hb) hxy (a2 0 x qY rfl rfl) (a2 1 y qY rfl rfl)
    ·simp [ha] at h
   ·rw [if_neg hb] at h;exact absurd rfl h
  rw [sU T e s h1 h2 h3 h4 h5 h6 h7 h8] at h
  exact absurd rfl h
end Go.Sw

namespace Go.Sw
section
variable {f:Bs} {e:Ex} {pm:Pars}
theorem x3j (h:e.kind=1):xQ f e=[]:=by cases e;simp only [Ex.kind] at h;subst h;simp [xQ]
theorem y5w (h:e.kind=2):xQ f e=[vrN f e.name]:=by cases e;simp only [Ex.kind] at h;subst h;simp [xQ,Ex.name]
theorem y5v (h:e.kind=3):xQ f e=[inN e.name]:=by cases e;simp only [Ex.kind] at h;subst h;simp [xQ,Ex.name]
theorem x3i (h:e.kind=4):xQ f e=[]:=by cases e;simp only [Ex.kind] at h;subst h;simp [xQ]
theorem z4t (h:e.kind=5):xQ f e=[e.name]:=by cases e;simp only [Ex.kind] at h;subst h;simp [xQ,Ex.name]
theorem z2v (h:e.kind=6):xQ f e=srcS f e.args:=by cases e;simp only [Ex.kind] at h;subst h;simp [xQ,Ex.args]
theorem tL (h:e.kind=7):xQ f e=srcH f e.args++srcPa f e.arms:=by cases e;simp only [Ex.kind] at h;subst h;simp [xQ,Ex.args,Ex.arms]
theorem j3h (h:e.kind=8):xQ f e=srcPs f e.args:=by cases e;simp only [Ex.kind] at h;subst h;simp [xQ,Ex.args]
theorem y5x (a:Arm) (l:List Arm):srcPa f (a::l)=xQ f a.body++srcPa f l:=by cases a;simp [srcPa,Arm.body]
theorem mC (e:Ex):kS pm f e=wT pm f e++flowPs pm f e.args++flowPa pm f e.arms:=by cases e;simp [kS,Ex.args,Ex.arms]
theorem z5k (a:Arm) (l:List Arm):flowPa pm f (a::l)=kS pm f a.body++flowPa pm f l:=by cases a;simp [flowPa,Arm.body]
theorem wN (e:Ex):pJ pm e↔(e.kind=5→e.args.length≤((zK pm e.name).getD []).length)∧(e.kind=6→e.args≠[])∧flowOks pm e.args∧flowOka pm e.arms:=by cases e;simp [pJ,Ex.args,Ex.arms,Ex.kind,Ex.name]
theorem q2e (a:Arm) (l:List Arm):flowOka pm (a::l)↔pJ pm a.body∧flowOka pm l:=by cases a;simp [flowOka,Arm.body]
theorem q0g {x:Bs}:∀{l:List Arm},x∈srcPa f l↔∃a∈l,x∈xQ f a.body
 | []=>by simp [srcPa]
 | a::l=>by rw [y5x,List.mem_append,q0g];simp
theorem mem_flowPs {x:Flow}:∀{l:List Ex},x∈flowPs pm f l↔∃e∈l,x∈kS pm f e
 | []=>by simp [flowPs]
 | a::l=>by simp only [flowPs,List.mem_append,mem_flowPs (l:=l)];simp
theorem mem_flowPa {x:Flow}:∀{l:List Arm},x∈flowPa pm f l↔∃a∈l,x∈kS pm f a.body
 | []=>by simp [flowPa]
 | a::l=>by rw [z5k,List.mem_append,mem_flowPa];simp
theorem cR:∀{l:List Ex},flowOks pm l↔∀e∈l,pJ pm e
 | []=>by simp [flowOks]
 | a::l=>by simp only [flowOks,cR (l:=l)];simp
theorem oT:∀{l:List Arm},flowOka pm l↔∀a∈l,pJ pm a.body
 | []=>by simp [flowOka]
 | a::l=>by rw [q2e,oT];simp
theorem mem_toP {node a b:Bs}:(a,b)∈toP f node e↔a∈xQ f e∧b=node:=by
 unfold toP oG
 rw [List.mem_map]
 constructor
 ·rintro ⟨x,hx,h⟩;cases h;exact ⟨(y4n _ _).1 hx,rfl⟩
 ·rintro ⟨h,rfl⟩;exact ⟨a,(y4n _ _).2 h,rfl⟩
theorem mem_conF {s:Bs} {x:Flow}:∀{l:List Ex} {k:Nat},x∈z6g f s k l↔∃i e,l[i]? = some e∧x∈toP f (wM s (k+i)) e
 | [],k=>by simp [z6g]
 | a::l,k=>by
  simp only [z6g,List.mem_append,mem_conF (l:=l)]
  constructor
  ·rintro (h | ⟨i,e,h1,h2⟩)
   ·exact ⟨0,a,rfl,h⟩
   ·exact ⟨i+1,e,h1,by rw [show k+(i+1)=k+1+i by omega];exact h2⟩
  ·rintro ⟨i,e,h1,h2⟩
   cases i with
   | zero=>simp only [List.getElem?_cons_zero,Option.some.injEq] at h1;subst h1;exact .inl h2
   | succ i=>exact .inr ⟨i,e,h1,by rw [show k+1+i=k+(i+1) by omega];exact h2⟩
theorem mem_callF {s:Bs} {x:Flow}:∀{ps:List Param} {l:List Ex},x∈cP f s ps l↔∃(i:Nat) (p:Param) (e:Ex),ps[i]? = some p∧l[i]? = some e∧x∈toP f (vrN s p.name) e
 | [],l=>by simp [cP]
 | p::ps,[]=>by simp [cP]
 | p::ps,a::l=>by
  simp only [cP,List.mem_append,mem_callF (ps:=ps) (l:=l)]
  constructor
  ·rintro (h | ⟨i,q,e,h1,h2,h3⟩)
   ·exact ⟨0,p,a,rfl,rfl,h⟩
   ·exact ⟨i+1,q,e,h1,h2,h3⟩
  ·rintro ⟨i,q,e,h1,h2,h3⟩
   cases i with
   | zero=>simp only [List.getElem?_cons_zero,Option.some.injEq] at h1 h2;subst h1;subst h2;exact .inl h3
   | succ i=>exact .inr ⟨i,q,e,h1,h2,h3⟩
theorem q6g {s:Bs} {x:Flow}:∀{l:List Bs} {k:Nat},x∈z8m f s k l↔∃(i:Nat) (v:Bs),l[i]? = some v∧x=(wM s (k+i),vrN f v)
 | [],k=>by simp [z8m]
 | a::l,k=>by
  simp only [z8m,List.mem_cons,q6g (l:=l)]
  constructor
  ·rintro (h | ⟨i,v,h1,h2⟩)
   ·exact ⟨0,a,rfl,h⟩
   ·exact ⟨i+1,v,h1,by rw [h2,show k+(i+1)=k+1+i by omega]⟩
  ·rintro ⟨i,v,h1,h2⟩
   cases i with
   | zero=>simp only [List.getElem?_cons_zero,Option.some.injEq] at h1;subst h1;exact .inl h2
   | succ i=>exact .inr ⟨i,v,h1,by rw [h2,show k+1+i=k+(i+1) by omega]⟩
theorem mem_armF {l:List Arm} {x:Flow}:x∈z0s f l↔∃a∈l,∃(i:Nat) (v:Bs),a.vars[i]? = some v∧x=(wM a.con i,vrN f v):=by
 simp only [z0s,List.mem_flatMap,q6g,Nat.zero_add]
end
structure Ends (T:Table) (pm:Pars) (f:Bs) (V:List Bs) (N:Bs→Prop):Prop where
 var:∀v∈V,N (vrN f v)
 inp:∀i t,zK T.inputs i=some t→N (inN i)
 fn:∀g h,zK T.funs g=some h→N g∧(∀p∈h.params,N (vrN g p.name))∧zK pm g=some h.params
 con:∀k m,zK T.cons k=some m→∀j,j < m.con.fields.length→N (wM k j)
 arm:∀t d,zK T.datas t=some d→∀c∈d.cons,∀j,j < c.fields.length→N (wM c.name j)
def InV (V:List Bs) (s:Scope):Prop:=∀n x,zK s n=some x→n∈V
theorem InV.put {V:List Bs} {s:Scope} (h:InV V s) {k x:Bs} (hk:k∈V):InV V (qX s k x):=fun n y hy=>by
 rw [jX] at hy
 split at hy
 ·rename_i e;exact e▸hk
 ·exact h n y hy
theorem InV.putAll {V:List Bs}:∀{vs fs:List Bs} {s:Scope},InV V s→(∀v∈vs,v∈V)→InV V (putAll s vs fs)
 | [],fs,_,h,_=>by rw [xU];exact h
 | _::_,[],_,h,_=>h
 | v::vs,f::fs,_,h,hv=>by rw [cY];exact InV.putAll (h.put (hv v List.mem_cons_self)) fun x hx=>hv x (List.mem_cons_of_mem _ hx)
section
variable {T:Table} {pm:Pars} {f:Bs} {V:List Bs} {N:Bs→Prop}
theorem jY {e x:Ex} (hb:∀b∈yC e,b∈V) (hx:x∈e.args):∀b∈yC x,b∈V:=fun b h=>hb b (by
 rw [nI];exact List.mem_append_left _ (List.mem_append_right _ (z3v hx h)))
theorem z8o {e:Ex} {a:Arm} (hb:∀b∈yC e,b∈V) (ha:a∈e.arms):∀b∈a.vars++yC a.body,b∈V:=fun b h=>hb b (by
 rw [nI];exact List.mem_append_right _ (z3u ha h))
theorem z8p {e:Ex} (hb:∀b∈yC e,b∈V) (h:e.kind=6):e.name∈V:=hb _ (by rw [nI,if_pos h];simp)
theorem x3l (hE:Ends T pm f V N) {s:Scope} {e:Ex} {t:Bs} (h:Tyd T s e t):InV V s→(∀b∈yC e,b∈V)→∀x∈xQ f e,N x:=by
 induction h with
 | num hk=>intro _ _ x hx;rw [x3j hk] at hx;cases hx
 | var hk _ _ hv=>intro hs _ x hx;rw [y5w hk,List.mem_singleton] at hx;subst hx;exact hE.var _ (hs _ _ hv)
 | inp hk _ _ hv=>intro _ _ x hx;rw [y5v hk,List.mem_singleton] at hx;subst hx;exact hE.inp _ _ hv
 | con hk=>intro _ _ x hx;rw [x3i hk] at hx;cases hx
 | call hk _ hf=>intro _ _ x hx;rw [z4t hk,List.mem_singleton] at hx;subst hx;exact (hE.fn _ _ hf).1
 | let_ hk _ hxy _ _ _ ih =>
  intro hs hb x hx
  rw [z2v hk,hxy] at hx
  exact ih (hs.put (z8p hb hk)) (jY hb (by rw [hxy];simp)) x hx
 | @case_ s e y dt u d hk hx _ hd hle hc _ ih1 ih2 =>
  intro hs hb x hm
  rw [tL hk,hx,List.mem_append,q0g] at hm
  rcases hm with hm | ⟨a,ha,hm⟩
  ·exact ih1 hs (jY hb (by rw [hx];simp)) x hm
  ·obtain ⟨i,hi⟩:=List.getElem?_of_mem ha
   obtain ⟨c,hci⟩:=yF (l:=d.cons) (i:=i) (by have:=(List.getElem?_eq_some_iff.1 hi).1;omega)
   have hb':=z8o hb ha
   exact ih2 i a c hi hci (hs.putAll fun v hv=>hb' v (List.mem_append_left _ hv)) (fun b hbb=>hb' b (List.mem_append_right _ hbb)) x hm
 | op hk _ hxy _ _ ih1 ih2 =>
  intro hs hb x hx
  rw [j3h hk,hxy] at hx
  simp only [srcPs,List.append_nil,List.mem_append] at hx
  rcases hx with hx | hx
  ·exact ih1 hs (jY hb (by rw [hxy];simp)) x hx
  ·exact ih2 hs (jY hb (by rw [hxy];simp)) x hx
theorem z8v (hE:Ends T pm f V N) {s:Scope} {e:Ex} {t node:Bs} (h:Tyd T s e t) (hs:InV V s) (hb:∀b∈yC e,b∈V) (hn:N node):∀a b,(a,b)∈toP f node e→N a∧N b:=fun a b hab=>by
 obtain ⟨h1,rfl⟩:=mem_toP.1 hab
 exact ⟨x3l hE h hs hb a h1,hn⟩
theorem j4w (hE:Ends T pm f V N) {s:Scope} {e:Ex} {t:Bs} (h:Tyd T s e t):InV V s→(∀b∈yC e,b∈V)→∀a b,(a,b)∈kS pm f e→N a∧N b:=by
 induction h with
 | num hk ha hb=>intro _ _ a b hab;rw [mC,ha,hb] at hab;simp [wT,hk,flowPs,flowPa] at hab
 | var hk ha hb=>intro _ _ a b hab;rw [mC,ha,hb] at hab;simp [wT,hk,flowPs,flowPa] at hab
 | inp hk ha hb=>intro _ _ a b hab;rw [mC,ha,hb] at hab;simp [wT,hk,flowPs,flowPa] at hab
 | @con s e m hk hz hm hl hty ih =>
  intro hs hb a b hab
  rw [mC,hz,List.mem_append,List.mem_append] at hab
  rcases hab with (hab | hab) | hab
  ·simp only [wT,hk,if_true] at hab
   obtain ⟨i,x,hx,h2⟩:=mem_conF.1 hab
   obtain ⟨u,hu⟩:=yF (l:=m.con.fields) (i:=i) (by have:=(List.getElem?_eq_some_iff.1 hx).1;omega)
   rw [Nat.zero_add] at h2
   exact z8v hE (hty i x u hx hu) hs (jY hb (List.mem_of_getElem? hx)) (hE.con _ _ hm i (List.getElem?_eq_some_iff.1 hu).1) a b h2
  ·obtain ⟨x,hx,h2⟩:=mem_flowPs.1 hab
   obtain ⟨i,hi⟩:=List.getElem?_of_mem hx
   obtain ⟨u,hu⟩:=yF (l:=m.con.fields) (i:=i) (by have:=(List.getElem?_eq_some_iff.1 hi).1;omega)
   exact ih i x u hi hu hs (jY hb hx) a b h2
  ·simp [flowPa] at hab
 | @call s e g hk hz hm hl hty ih =>
  intro hs hb a b hab
  obtain ⟨f1,f2,f3⟩:=hE.fn _ _ hm
  rw [mC,hz,List.mem_append,List.mem_append] at hab
  rcases hab with (hab | hab) | hab
  ·simp only [wT,hk,f3] at hab
   obtain ⟨i,p,x,hp,hx,h2⟩:=mem_callF.1 hab
   exact z8v hE (hty i x p hx hp) hs (jY hb (List.mem_of_getElem? hx)) (f2 p (List.mem_of_getElem? hp)) a b h2
  ·obtain ⟨x,hx,h2⟩:=mem_flowPs.1 hab
   obtain ⟨i,hi⟩:=List.getElem?_of_mem hx
   obtain ⟨u,hu⟩:=yF (l:=g.params) (i:=i) (by have:=(List.getElem?_eq_some_iff.1 hi).1;omega)
   exact ih i x u hi hu hs (jY hb hx) a b h2
  ·simp [flowPa] at hab
 | @let_ s e x y t u hk hz hxy hx hy ih1 ih2 =>
  intro hs hb a b hab
  have hV:=z8p hb hk
  rw [mC,hz,List.mem_append,List.mem_append] at hab
  rcases hab with (hab | hab) | hab
  ·simp only [wT,hk,hxy,letF] at hab
   exact z8v hE hx hs (jY hb (by rw [hxy];simp)) (hE.var _ hV) a b hab
  ·rw [hxy] at hab
   simp only [flowPs,List.append_nil,List.mem_append] at hab
   rcases hab with hab | hab
   ·exact ih1 hs (jY hb (by rw [hxy];simp)) a b hab
   ·exact ih2 (hs.put hV) (jY hb (by rw [hxy];simp)) a b hab
  ·simp [flowPa] at hab
 | @case_ s e x dt u d hk hx hty hd hle hc hta ih1 ih2 =>
  intro hs hb a b hab
  rw [mC,hx,List.mem_append,List.mem_append] at hab
  have arm:∀z∈e.arms,∃i c,e.arms[i]? = some z∧d.cons[i]? = some c:=fun z hz=>by
   obtain ⟨i,hi⟩:=List.getElem?_of_mem hz
   obtain ⟨c,hci⟩:=yF (l:=d.cons) (i:=i) (by have:=(List.getElem?_eq_some_iff.1 hi).1;omega)
   exact ⟨i,c,hi,hci⟩
  rcases hab with (hab | hab) | hab
  ·simp only [wT,hk] at hab
   obtain ⟨z,hz,j,v,hv,h2⟩:=mem_armF.1 hab
   obtain ⟨i,c,hi,hci⟩:=arm z hz
   obtain ⟨c1,c2⟩:=hc i z c hi hci
   cases h2
   have hvl:=(List.getElem?_eq_some_iff.1 hv).1
   refine ⟨?_,hE.var _ (z8o hb hz _ (List.mem_append_left _ (List.mem_of_getElem? hv)))⟩
   rw [c1];exact hE.arm _ _ hd c (List.mem_of_getElem? hci) j (by omega)
  ·simp only [flowPs,List.append_nil] at hab
   exact ih1 hs (jY hb (by rw [hx];simp)) a b hab
  ·obtain ⟨z,hz,h2⟩:=mem_flowPa.1 hab
   obtain ⟨i,c,hi,hci⟩:=arm z hz
   have hb':=z8o hb hz
   exact ih2 i z c hi hci (hs.putAll fun v hv=>hb' v (List.mem_append_left _ hv)) (fun q hq=>hb' q (List.mem_append_right _ hq)) a b h2
 | @op s e x y hk hz hxy hx hy ih1 ih2 =>
  intro hs hb a b hab
  rw [mC,hz,hxy] at hab
  simp only [wT,hk,flowPs,flowPa,List.append_nil,List.mem_append] at hab
  simp only [show ¬(8:Int)=4 by decide,show ¬(8:Int)=5 by decide,show ¬(8:Int)=6 by decide,show ¬(8:Int)=7 by decide,if_false,List.not_mem_nil,false_or] at hab
  rcases hab with hab | hab
  ·exact ih1 hs (jY hb (by rw [hxy];simp)) a b hab
  ·exact ih2 hs (jY hb (by rw [hxy];simp)) a b hab
theorem flow_ok (hE:∀g h,zK T.funs g=some h→zK pm g=some h.params) {s:Scope} {e:Ex} {t:Bs} (h:Tyd T s e t):pJ pm e:=by
 induction h with
 | num hk ha hb=>rw [wN,ha,hb];simp [hk,flowOks,flowOka]
 | var hk ha hb=>rw [wN,ha,hb];simp [hk,flowOks,flowOka]
 | inp hk ha hb=>rw [wN,ha,hb];simp [hk,flowOks,flowOka]
 | @con s e m hk hz hm hl hty ih =>
  rw [wN,hz,cR]
  refine ⟨fun h=>(by rw [hk] at h;cases h),fun h=>(by rw [hk] at h;cases h),fun x hx =>?_,trivial⟩
  obtain ⟨i,hi⟩:=List.getElem?_of_mem hx
  obtain ⟨u,hu⟩:=yF (l:=m.con.fields) (i:=i) (by have:=(List.getElem?_eq_some_iff.1 hi).1;omega)
  exact ih i x u hi hu
 | @call s e g hk hz hm hl hty ih =>
  rw [wN,hz,cR]
  refine ⟨fun _=>(by rw [hE _ _ hm];simp [hl]),fun h=>(by rw [hk] at h;cases h),fun x hx =>?_,trivial⟩
  obtain ⟨i,hi⟩:=List.getElem?_of_mem hx
  obtain ⟨u,hu⟩:=yF (l:=g.params) (i:=i) (by have:=(List.getElem?_eq_some_iff.1 hi).1;omega)
  exact ih i x u hi hu
 | let_ hk hz hxy _ _ ih1 ih2 =>
  rw [wN,hz,hxy]
  exact ⟨fun h=>(by rw [hk] at h;cases h),fun _=>(by simp),⟨ih1,ih2,trivial⟩,trivial⟩
 | @case_ s e x dt u d hk hx hty hd hle hc hta ih1 ih2 =>
  rw [wN,hx,oT]
  refine ⟨fun h=>(by rw [hk] at h;cases h),fun h=>(by rw [hk] at h;cases h),⟨ih1,trivial⟩,fun z hz =>?_⟩
  obtain ⟨i,hi⟩:=List.getElem?_of_mem hz
  obtain ⟨c,hci⟩:=yF (l:=d.cons) (i:=i) (by have:=(List.getElem?_eq_some_iff.1 hi).1;omega)
  exact ih2 i z c hi hci
 | op hk hz hxy _ _ ih1 ih2 =>
  rw [wN,hz,hxy]
  exact ⟨fun h=>(by rw [hk] at h;cases h),fun h=>(by rw [hk] at h;cases h),⟨ih1,ih2,trivial⟩,trivial⟩
end
end Go.Sw

namespace Go.Sw
open Go.Proofs.Tryz
open Go.Proofs
set_option maxRecDepth 20000
set_option maxHeartbeats 4000000
mutual
def pB:Ex→Prop
 | .mk k _ s args arms=>(2≤k→k≤6→s.size≤1000)∧args.length≤1000∧tidyEs args∧tidyEa arms
def tidyEs:List Ex→Prop
 | []=>True
 | x::l=>pB x∧tidyEs l
def tidyEa:List Arm→Prop
 | []=>True
 | .mk c vs b::l=>(c.size≤1000∧vs.length≤1000∧(∀v∈vs,v.size≤1000)∧pB b)∧tidyEa l
end
theorem y6b:∀{l:List Ex},tidyEs l↔∀x∈l,pB x
 | []=>by simp [tidyEs]
 | x::l=>by simp only [tidyEs,y6b (l:=l)];simp
theorem y6a:∀{l:List Arm},tidyEa l↔∀a∈l,a.con.size≤1000∧a.vars.length≤1000∧(∀v∈a.vars,v.size≤1000)∧pB a.body
 | []=>by simp [tidyEa]
 | .mk c vs b::l=>by simp only [tidyEa,y6a (l:=l)];simp [Arm.con,Arm.vars,Arm.body]
theorem pC (e:Ex):pB e↔(2≤e.kind→e.kind≤6→e.name.size≤1000)∧e.args.length≤1000∧(∀x∈e.args,pB x)∧∀a∈e.arms,a.con.size≤1000∧a.vars.length≤1000∧(∀v∈a.vars,v.size≤1000)∧pB a.body:=by
 cases e;simp only [pB,y6b,y6a,Ex.kind,Ex.name,Ex.args,Ex.arms]
theorem j7a {f:Bs} {e:Ex} (h2:¬e.kind=2) (h3:¬e.kind=3) (h5:¬e.kind=5) (h6:¬e.kind=6) (h8:¬e.kind=8) (h7:¬e.kind=7):xQ f e=[]:=by
 cases e;simp only [Ex.kind] at *;simp [xQ,h2,h3,h5,h6,h7,h8]
theorem q7j {f:Bs} {l:List Ex} {i:Nat} {x:Ex} (h:l[i]? = some x):srcPs f (l.drop i)=xQ f x++srcPs f (l.drop (i+1)):=by rw [zA h];rfl
theorem j7b {f:Bs} {l:List Ex} {i:Nat} (h:¬i < l.length):srcPs f (l.drop i)=[]:=by rw [zH h];rfl
theorem z2w {f:Bs} {l:List Arm} {i:Nat} {x:Arm} (h:l[i]? = some x):srcPa f (l.drop i)=xQ f x.body++srcPa f (l.drop (i+1)):=by rw [zA h,y5x]
theorem q1c {f:Bs} {l:List Arm} {i:Nat} (h:¬i < l.length):srcPa f (l.drop i)=[]:=by rw [zH h];rfl
theorem j3i {f:Bs} {l:List Ex} {x:Ex} (h:l[1]? = some x):srcS f l=xQ f x:=by
 match l,h with
 | _::y::_,h=>simp only [List.getElem?_cons_succ,List.getElem?_cons_zero,Option.some.injEq] at h;subst h;rfl
theorem x3k {f:Bs} {l:List Ex} (h:l.length < 2):srcS f l=[]:=by
 match l,h with
 | [],_=>rfl
 | [_],_=>rfl
theorem j3g {f:Bs} {l:List Ex} {x:Ex} (h:l[0]? = some x):srcH f l=xQ f x:=by
 match l,h with
 | y::_,h=>simp only [List.getElem?_cons_zero,Option.some.injEq] at h;subst h;rfl
theorem x3h {f:Bs} {l:List Ex} (h:¬0 < l.length):srcH f l=[]:=by
 match l,h with
 | [],_=>rfl
 | _::_,h=>simp at h
theorem q3p {β:Type} {Φ:Fz} {y:Value} {items:List Bs} {KY:List Bs→β→List Res} (hy:Takes prog Φ y (fun s=>[.string s]) items KY) {f:Bs} {q1 q2 q3 q4 q5 q6 q7 q8:Value} (hf:f.size≤1000) {e:Ex} (ih:∀x:Ex,x.sz < e.sz→∀{K0:List Res} {w:World} {d0:List Value} {pre post:List Bs} {z:β},REx Φ d0 x→pB x→items=pre++xQ f x++post→Mem Φ (K0++KY pre z) w→Calls prog 146 (List.toArray [.agg (List.toArray [.string f,q1,q2,q3,q4,q5,q6,q7,q8]),.agg d0.toArray,y]) w (fun ee w'=>∃z':β,ee=.returned (.bool true)∧True∧Mem Φ (K0++KY (pre++xQ f x) z') w')) {K0:List Res} {w:World} {d0:List Value} {pre post:List Bs} {z:β} (re:REx Φ d0 e) (ht:pB e) (hit:items=pre++xQ f e++post) (hm:Mem Φ (K0++KY pre z) w) :
  Calls prog 146 (List.toArray [.agg (List.toArray [.string f,q1,q2,q3,q4,q5,q6,q7,q8]),.agg d0.toArray,y]) w (fun ee w'=>∃z':β,ee=.returned (.bool true)∧True∧Mem Φ (K0++KY (pre++xQ f e) z') w'):=by
 have re0_:=re
 obtain ⟨t1_,t2_,t3_,t4_⟩:=(pC e).1 ht
 obtain ⟨p3,c4,p9,c10,rfl,hi13,h2,h8,hm5,hn6,hm11,hn12⟩:=REx.fm re
 refine zN func146 ntmps146 fun Q hQ a he =>?_
 refine Bx fun b15 w hm a he =>?_
 refine Bx fun b16 w hm a he =>?_
 refine go fun a he =>?_
 by_cases h20:e.kind=2
 refine go1 fun a he =>?_
 refine jZ ?_
 have hn_:=t1_ (by omega) (by omega)
 refine yO he (by intro c h;cases h) (jB he rfl) rfl fun a he =>
   yO he (by intro c h;cases h) (qO he rfl q5f rfl) rfl fun a he =>
   yO he (by intro c h;cases h) (xN 1 (vs:=[.string f]) he hm.toSees rfl rfl isAgg78 sizeOf78 rfl rfl) rfl fun a he =>
   yO he (by intro c h;cases h) (qO he rfl oU rfl) rfl fun a he =>
   yO he (by intro c h;cases h) (yR 0 he hm.toSees rfl rfl rfl isAgg9) rfl fun a he =>?_
 refine y0l he rfl rfl rfl (by intro c h;cases h) (dL he rfl call64 (z5a (by omega) (by omega) hm) fun w hm a he =>?_)
 refine oZ he rfl rfl rfl (by intro c h;cases h) (xS he rfl rfl (hy.go pre (vrN f e.name) _ z (.blk b16 (ob [.int .i64 (e.kind),.int .i64 (e.num),.string e.name,.slice p3 e.args.length c4,.slice p9 e.arms.length c10] 110)::.blk b15 (ob [.string f,q1,q2,q3,q4,q5,q6,q7,q8] 131)::K0) w (by rw [hit,y5w h20];simp only [List.append_assoc,List.cons_append,List.nil_append,List.append_nil];rfl) hm) fun w hJ_ a he =>?_)
 obtain ⟨z22,hm⟩:=hJ_
 replace hm:=hm.nf
 refine yO he (by intro c h;cases h) (vJ he rfl) rfl fun a he =>?_
 refine wV ?_
 refine zF ?_
 replace hm:=hm.dl [1,0]
 have hz_:items=(pre++[vrN f e.name])++post:=by
  rw [hit,y5w h20]
 rw [hit] at hz_
 rw [pY hz_];exact ⟨_,rfl,trivial,hm⟩
 refine go fun a he =>?_
 by_cases h24:e.kind=3
 refine go1 fun a he =>?_
 refine jZ ?_
 have hn_:=t1_ (by omega) (by omega)
 refine yO he (by intro c h;cases h) (jB he rfl) rfl fun a he =>
   yO he (by intro c h;cases h) (qO he rfl oU rfl) rfl fun a he =>
   yO he (by intro c h;cases h) (yR 0 he hm.toSees rfl rfl rfl isAgg9) rfl fun a he =>
   yO he (by intro c h;cases h) (qM (vs:=[(0,.string e.name)]) (cs:=[.string e.name]) he rfl (by kernel_rfl)) rfl fun a he =>?_
 refine y0l he rfl rfl rfl (by intro c h;cases h) (dL he rfl call40 (y0j (by omega) hm) fun w hm a he =>?_)
 refine oZ he rfl rfl rfl (by intro c h;cases h) (xS he rfl rfl (hy.go pre (inN e.name) _ z (.blk b16 (ob [.int .i64 (e.kind),.int .i64 (e.num),.string e.name,.slice p3 e.args.length c4,.slice p9 e.arms.length c10] 110)::.blk b15 (ob [.string f,q1,q2,q3,q4,q5,q6,q7,q8] 131)::K0) w (by rw [hit,y5v h24];simp only [List.append_assoc,List.cons_append,List.nil_append,List.append_nil];rfl) hm) fun w hJ_ a he =>?_)
 obtain ⟨z26,hm⟩:=hJ_
 replace hm:=hm.nf
 refine yO he (by intro c h;cases h) (vJ he rfl) rfl fun a he =>?_
 refine wV ?_
 refine zF ?_
 replace hm:=hm.dl [1,0]
 have hz_:items=(pre++[inN e.name])++post:=by
  rw [hit,y5v h24]
 rw [hit] at hz_
 rw [pY hz_];exact ⟨_,rfl,trivial,hm⟩
 refine go fun a he =>?_
 by_cases h28:e.kind=5
 refine go1 fun a he =>?_
 refine jZ ?_
 refine yO he (by intro c h;cases h) (jB he rfl) rfl fun a he =>
   yO he (by intro c h;cases h) (qO he rfl oU rfl) rfl fun a he =>
   yO he (by intro c h;cases h) (yR 0 he hm.toSees rfl rfl rfl isAgg9) rfl fun a he =>?_
 refine oZ he rfl rfl rfl (by intro c h;cases h) (xS he rfl rfl (hy.go pre e.name _ z (.blk b16 (ob [.int .i64 (e.kind),.int .i64 (e.num),.string e.name,.slice p3 e.args.length c4,.slice p9 e.arms.length c10] 110)::.blk b15 (ob [.string f,q1,q2,q3,q4,q5,q6,q7,q8] 131)::K0) w (by rw [hit,z4t h28];simp only [List.append_assoc,List.cons_append,List.nil_append,List.append_nil];rfl) hm) fun w hJ_ a he =>?_)
 obtain ⟨z30,hm⟩:=hJ_
 replace hm:=hm.nf
 refine yO he (by intro c h;cases h) (vJ he rfl) rfl fun a he =>?_
 refine wV ?_
 refine zF ?_
 replace hm:=hm.dl [1,0]
 have hz_:items=(pre++[e.name])++post:=by
  rw [hit,z4t h28]
 rw [hit] at hz_
 rw [pY hz_];exact ⟨_,rfl,trivial,hm⟩
 by_cases h32:e.kind=6
 refine Reg [1,2,1,1,1,2,1,2,1,2,1,0,1,1] [0,1] fun w hm a he =>?_
 by_cases h34:e.args.length < 2
 refine zF ?_
 replace hm:=hm.dl [1,0]
 have hz_:items=pre++post:=by
  rw [hit,z2v h32,x3k h34]
  simp only [List.append_assoc,List.cons_append,List.nil_append,List.append_nil]
 rw [hit] at hz_
 rw [pY hz_];exact ⟨_,rfl,trivial,hm⟩
 refine go fun a he =>?_
 have hb35:1 < e.args.length:=by omega
 obtain ⟨q36,rfl,x37,hx38,cs39,hl40,ha41,hr42⟩:=h2.el hn6 hb35
 obtain ⟨p45,c46,p51,c52,rfl,hi55,h44,h50,hm47,hn48,hm53,hn54⟩:=REx.fm hr42
 refine qV call146 (fun y56 w hG57 hm a he =>?_) (c:=ih _ (Ex.lt_args (List.mem_of_getElem? hx38)) (K0:=_::_::K0) (post:=_) hr42 (t3_ _ (List.mem_of_getElem? hx38)) (by rw [hit,z2v h32,j3i hx38]) hm)
 refine zF ?_
 replace hm:=hm.dl [1,0]
 have hz_:items=(pre++xQ f x37)++post:=by
  rw [hit,z2v h32,j3i hx38]
 rw [hit] at hz_
 rw [pY hz_];exact ⟨_,rfl,trivial,hm⟩
 by_cases h59:e.kind=8
 refine go fun a he =>?_
 refine xB (fun mm a w=>∃(i:Nat) (pr:List Bs) (zz:β),mm=e.args.length - i∧EnvR 96 [(2,y),(3,.pointer (some ⟨b15,0,none⟩)),(54,.slice p3 e.args.length c4),(55,.int .i64 ((e.args.length:Nat):Int)),(56,.int .i64 ((i:Nat):Int))] [] a∧Mem Φ (.blk b16 (ob [.int .i64 (e.kind),.int .i64 (e.num),.string e.name,.slice p3 e.args.length c4,.slice p9 e.arms.length c10] 110)::.blk b15 (ob [.string f,q1,q2,q3,q4,q5,q6,q7,q8] 131)::K0++KY pr zz) w∧(items=pr++(srcPs f (e.args.drop i)++post))) (e.args.length - 0) ⟨0,pre,z,rfl,he.pk,hm,by rw [hit,j3h h59,List.append_assoc];rfl⟩ ?_
 clear hm he
 rintro mm a w ⟨i,pr,zz,hmu,he,hm,hI62⟩ L61 hL61
 by_cases h64:i < e.args.length
 refine go fun a he =>?_
 obtain ⟨q68,rfl,x69,hx70,cs71,hl72,ha73,hr74⟩:=h2.el hn6 h64
 obtain ⟨p77,c78,p83,c84,rfl,hi87,h76,h82,hm79,hn80,hm85,hn86⟩:=REx.fm hr74
 refine Alc fun b88 w hm a he =>?_
 refine Sto 0 fun w hm a he =>?_
 refine qV call146 (fun y90 w hG91 hm a he =>?_) (c:=ih _ (Ex.lt_args (List.mem_of_getElem? hx70)) (K0:=_::_::_::K0) (post:=_) hr74 (t3_ _ (List.mem_of_getElem? hx70)) (by rw [hI62,q7j hx70];simp only [List.append_assoc];rfl) hm)
 refine go fun a he =>?_
 replace hm:=hm.dl [0]
 refine hL61 _ _ _ (by subst hmu;omega) ⟨(i+1),((pr++xQ f x69)),(y90),rfl,he.pk,hm,?_⟩
 rw [hI62,q7j hx70];simp only [List.append_assoc]
 refine zF ?_
 replace hm:=hm.dl [1,0]
 have hz_:items=pr++post:=by
  have hi_:=hI62
  rw [j7b h64,List.nil_append] at hi_
  exact hi_
 rw [hit] at hz_
 rw [pY hz_];exact ⟨_,rfl,trivial,hm⟩
 by_cases h95:e.kind=7
 refine Reg [1,2,1,1,1,2,1,2,1,2,1,0,1,1] [0,1] fun w hm a he =>?_
 by_cases h98:0 < e.args.length
 refine go fun a he =>?_
 obtain ⟨q99,rfl,x100,hx101,cs102,hl103,ha104,hr105⟩:=h2.el hn6 h98
 obtain ⟨p108,c109,p114,c115,rfl,hi118,h107,h113,hm110,hn111,hm116,hn117⟩:=REx.fm hr105
 refine qV call146 (fun y119 w hG120 hm a he =>?_) (c:=ih _ (Ex.lt_args (List.mem_of_getElem? hx101)) (K0:=_::_::K0) (post:=_) hr105 (t3_ _ (List.mem_of_getElem? hx101)) (by rw [hit,tL h95,j3g hx101];simp only [List.append_assoc];rfl) hm)
 refine go fun a he =>?_
 refine xB (fun mm a w=>∃(i:Nat) (pr:List Bs) (zz:β),mm=e.arms.length - i∧EnvR 96 [(2,y),(3,.pointer (some ⟨b15,0,none⟩)),(83,.slice p9 e.arms.length c10),(84,.int .i64 ((e.arms.length:Nat):Int)),(85,.int .i64 ((i:Nat):Int))] [] a∧Mem Φ (.blk b16 (ob [.int .i64 (e.kind),.int .i64 (e.num),.string e.name,.slice (some q99) e.args.length c4,.slice p9 e.arms.length c10] 110)::.blk b15 (ob [.string f,q1,q2,q3,q4,q5,q6,q7,q8] 131)::K0++KY pr zz) w∧(items=pr++(srcPa f (e.arms.drop i)++post))) (e.arms.length - 0) ⟨0,(pre++xQ f x100),y119,rfl,he.pk,hm,by rw [hit,tL h95,j3g hx101];simp only [List.append_assoc,List.nil_append];rfl⟩ ?_
 clear hm he
 rintro mm a w ⟨i,pr,zz,hmu,he,hm,hI123⟩ L122 hL122
 by_cases h125:i < e.arms.length
 refine go fun a he =>?_
 obtain ⟨q129,rfl,x130,hx131,cs132,hl133,ha134,hr135⟩:=h8.el hn12 h125
 obtain ⟨s136,b142,rfl,h137,h143⟩:=RArm.iff.1 hr135
 obtain ⟨p138,c139,rfl,hm140,hn141⟩:=h137.fm
 obtain ⟨p146,c147,p152,c153,rfl,hi156,h145,h151,hm148,hn149,hm154,hn155⟩:=REx.fm h143
 refine Alc fun b157 w hm a he =>?_
 refine Sto 0 fun w hm a he =>?_
 refine qV call146 (fun y159 w hG160 hm a he =>?_) (c:=ih _ (Ex.lt_arms (List.mem_of_getElem? hx131)) (K0:=_::_::_::K0) (post:=_) h143 ((t4_ _ (List.mem_of_getElem? hx131)).2.2.2) (by rw [hI123,z2w hx131];simp only [List.append_assoc];rfl) hm)
 refine go fun a he =>?_
 replace hm:=hm.dl [0]
 refine hL122 _ _ _ (by subst hmu;omega) ⟨(i+1),((pr++xQ f x130.body)),(y159),rfl,he.pk,hm,?_⟩
 rw [hI123,z2w hx131];simp only [List.append_assoc]
 refine zF ?_
 replace hm:=hm.dl [1,0]
 have hz_:items=pr++post:=by
  have hi_:=hI123
  rw [q1c h125,List.nil_append] at hi_
  exact hi_
 rw [hit] at hz_
 rw [pY hz_];exact ⟨_,rfl,trivial,hm⟩
 refine go fun a he =>?_
 refine xB (fun mm a w=>∃(i:Nat) (pr:List Bs) (zz:β),mm=e.arms.length - i∧EnvR 96 [(2,y),(3,.pointer (some ⟨b15,0,none⟩)),(83,.slice p9 e.arms.length c10),(84,.int .i64 ((e.arms.length:Nat):Int)),(85,.int .i64 ((i:Nat):Int))] [] a∧Mem Φ (.blk b16 (ob [.int .i64 (e.kind),.int .i64 (e.num),.string e.name,.slice p3 e.args.length c4,.slice p9 e.arms.length c10] 110)::.blk b15 (ob [.string f,q1,q2,q3,q4,q5,q6,q7,q8] 131)::K0++KY pr zz) w∧(items=pr++(srcPa f (e.arms.drop i)++post))) (e.arms.length - 0) ⟨0,pre,z,rfl,he.pk,hm,by rw [hit,tL h95,x3h h98];simp only [List.append_assoc,List.nil_append];rfl⟩ ?_
 clear hm he
 rintro mm a w ⟨i,pr,zz,hmu,he,hm,hI165⟩ L164 hL164
 by_cases h167:i < e.arms.length
 refine go fun a he =>?_
 obtain ⟨q171,rfl,x172,hx173,cs174,hl175,ha176,hr177⟩:=h8.el hn12 h167
 obtain ⟨s178,b184,rfl,h179,h185⟩:=RArm.iff.1 hr177
 obtain ⟨p180,c181,rfl,hm182,hn183⟩:=h179.fm
 obtain ⟨p188,c189,p194,c195,rfl,hi198,h187,h193,hm190,hn191,hm196,hn197⟩:=REx.fm h185
 refine Alc fun b199 w hm a he =>?_
 refine Sto 0 fun w hm a he =>?_
 refine qV call146 (fun y201 w hG202 hm a he =>?_) (c:=ih _ (Ex.lt_arms (List.mem_of_getElem? hx173)) (K0:=_::_::_::K0) (post:=_) h185 ((t4_ _ (List.mem_of_getElem? hx173)).2.2.2) (by rw [hI165,z2w hx173];simp only [List.append_assoc];rfl) hm)
 refine go fun a he =>?_
 replace hm:=hm.dl [0]
 refine hL164 _ _ _ (by subst hmu;omega) ⟨(i+1),((pr++xQ f x172.body)),(y201),rfl,he.pk,hm,?_⟩
 rw [hI165,z2w hx173];simp only [List.append_assoc]
 refine zF ?_
 replace hm:=hm.dl [1,0]
 have hz_:items=pr++post:=by
  have hi_:=hI165
  rw [q1c h167,List.nil_append] at hi_
  exact hi_
 rw [hit] at hz_
 rw [pY hz_];exact ⟨_,rfl,trivial,hm⟩
 refine zF ?_
 replace hm:=hm.dl [1,0]
 have hz_:items=pre++post:=by
  rw [hit,j7a (by assumption) (by assumption) (by assumption) (by assumption) (by assumption) (by assumption),List.append_nil]
 rw [hit] at hz_
 rw [pY hz_];exact ⟨_,rfl,trivial,hm⟩
theorem j1c {β:Type} {Φ:Fz} {y:Value} {items:List Bs} {KY:List Bs→β→List Res} (hy:Takes prog Φ y (fun s=>[.string s]) items KY) {f:Bs} {q1 q2 q3 q4 q5 q6 q7 q8:Value} (hf:f.size≤1000) {e:Ex} {K0:List Res} {w:World} {d0:List Value} {pre post:List Bs} {z:β} (re:REx Φ d0 e) (ht:pB e) (hit:items=pre++xQ f e++post) (hm:Mem Φ (K0++KY pre z) w) :
  Calls prog 146 (List.toArray [.agg (List.toArray [.string f,q1,q2,q3,q4,q5,q6,q7,q8]),.agg d0.toArray,y]) w (fun ee w'=>∃z':β,ee=.returned (.bool true)∧True∧Mem Φ (K0++KY (pre++xQ f e) z') w'):=by
 have:∀(n:Nat) (e:Ex),e.sz < n→∀{K0:List Res} {w:World} {d0:List Value} {pre post:List Bs} {z:β},REx Φ d0 e→pB e→items=pre++xQ f e++post→Mem Φ (K0++KY pre z) w →
   Calls prog 146 (List.toArray [.agg (List.toArray [.string f,q1,q2,q3,q4,q5,q6,q7,q8]),.agg d0.toArray,y]) w (fun ee w'=>∃z':β,ee=.returned (.bool true)∧True∧Mem Φ (K0++KY (pre++xQ f e) z') w'):=by
  intro n
  induction n with
  | zero=>intro e h;omega
  | succ n ih=>intro e h K0 w d0 pre post z re ht hit hm;exact q3p hy hf (fun x hx K0 w d0 pre post z r t h1 h2=>ih x (by omega) r t h1 h2) re ht hit hm
 exact this _ e (Nat.lt_succ_self _) re ht hit hm
end Go.Sw

namespace Go.Sw
open Go.Proofs.Tryz
open Go.Proofs
set_option maxRecDepth 20000
set_option maxHeartbeats 4000000
theorem hasN {l:List Bs} {s:Bs}:has l s=true↔s∈l:=by simp [has]
theorem nubL_in {l:List Bs} {x:Bs} (h:has (yT l) x=true):yT (l++[x])=yT l:=by rw [mY,if_pos (hasN.1 h)]
theorem q6k {l:List Bs} {x:Bs} (h:has (yT l) x=false):yT (l++[x])=yT l++[x]:=by
 rw [mY,if_neg (fun hc=>by rw [hasN.2 hc] at h;cases h)]
theorem x2b {α:Type} [DecidableEq α] (l m:List α):∃r,yT (l++m)=yT l++r:=by
 refine wZ (p:=fun m=>∃r,yT (l++m)=yT l++r) ⟨[],by simp⟩ (fun m x ih =>?_) m
 obtain ⟨r,hr⟩:=ih
 rw [← List.append_assoc,mY]
 split
 exact ⟨r,hr⟩
 exact ⟨r++[x],by rw [hr,List.append_assoc]⟩
theorem j6j {l pre post:List Bs} {x:Bs} (hit:l=pre++x::post) (h:has (yT pre) x=false):∃po,yT l=yT pre++x::po:=by
 obtain ⟨r,hr⟩:=x2b (pre++[x]) post
 refine ⟨r,?_⟩
 rw [hit,show pre++x::post=(pre++[x])++post by simp,hr,q6k h];simp
theorem j5a {β:Type} {Φ:Fz} {w:World} {l:List Bs} {y:Value} {KY:List Bs→β→List Res} (hy:Takes prog Φ y (fun s=>[.string s]) (yT l) KY) {pre post:List Bs} {x:Bs} {z:β} {b4 b3 mb:Nat} {K0:List Res} (hit:l=pre++x::post) (hm:Mem Φ (.blk b4 (ob [.map (some mb)] 198)::.mp mb (wU (yT pre))::.blk b3 (ob [y] 141)::(K0++KY (yT pre) z)) w) :
  Calls prog 147 (List.toArray [.string x,.pointer (some ⟨b4,0,none⟩),.pointer (some ⟨b3,0,none⟩)]) w (fun ee w'=>ee=.returned (.bool true)∧∃z':β,Mem Φ (.blk b4 (ob [.map (some mb)] 198)::.mp mb (wU (yT (pre++[x])))::.blk b3 (ob [y] 141)::(K0++KY (yT (pre++[x])) z')) w'):=by
 refine zN func147 ntmps147 fun Q hQ a he =>?_
 refine go fun a he =>?_
 rcases hf4:yD ((wU (yT pre))) x with _ | vf5
 have hf4_:=congrArg (zG false (.bool false)) hf4
 refine Qq (fun a he =>?_) (o:=by exact fun he hs=>Ok.cast (zQ 1 runUnderlying198 runUnderlying9 zeroValue4 he hs rfl rfl rfl) (show zG false (.bool false) (yD ((wU (yT pre))) x)=.bool false from hf4_))
 have hn_:=y5n hf4
 obtain ⟨po_,hpo_⟩:=j6j hit hn_
 refine tZ 1 runUnderlying198 runUnderlying9 fun w hm a he =>?_
 refine go1 fun a he =>?_
 refine jZ ?_
 refine yO he (by intro c h;cases h) (yR 2 he hm.toSees rfl rfl rfl isAgg141) rfl fun a he =>
   yO he (by intro c h;cases h) (jB he rfl) rfl fun a he =>?_
 refine oZ he rfl rfl rfl (by intro c h;cases h) (xS he rfl rfl (hy.go (yT pre) x _ z (.blk b4 (ob [.map (some mb)] 198)::.mp mb (mQ (wU (yT pre)) x (.bool true))::.blk b3 (ob [y] 141)::K0) w (hpo_) hm) fun w hJ_ a he =>?_)
 obtain ⟨z8,hm⟩:=hJ_
 replace hm:=hm.nf
 refine yO he (by intro c h;cases h) (vJ he rfl) rfl fun a he =>?_
 refine wV ?_
 refine zF ?_
 rw [q6k hn_,z0a];exact ⟨rfl,_,hm⟩
 obtain ⟨rfl,hs9⟩:=y5o hf4
 have hf4_:=congrArg (zG false (.bool false)) hf4
 refine Qq (fun a he =>?_) (o:=by exact fun he hs=>Ok.cast (zQ 1 runUnderlying198 runUnderlying9 zeroValue4 he hs rfl rfl rfl) (show zG false (.bool false) (yD ((wU (yT pre))) x)=.bool true from hf4_))
 refine zF ?_
 rw [nubL_in hs9];exact ⟨rfl,_,hm⟩
theorem Mem.mid3 {Φ:Fz} {w:World} {a b c:Res} {K0 K:List Res} (h:Mem Φ (K0++(a::b::c::K)) w):Mem Φ (a::b::c::(K0++K)) w:=Mem.mid (A:=K0) (B:=[a,b,c]) (C:=K) h
theorem Mem.unmid3 {Φ:Fz} {w:World} {a b c:Res} {K0 K:List Res} (h:Mem Φ (a::b::c::(K0++K)) w):Mem Φ (K0++(a::b::c::K)) w:=Mem.mid (A:=[a,b,c]) (B:=K0) (C:=K) h
theorem q5l {β:Type} {Φ:Fz} {w:World} {f:Bs} {q1 q2 q3 q4 q5 q6 q7 q8:Value} {d0:List Value} {e:Ex} {y:Value} {KY:List Bs→β→List Res} {z:β} {b1 b2:Nat} (hf:f.size≤1000) (re:REx Φ d0 e) (ht:pB e) (hy:Takes prog Φ y (fun s=>[.string s]) (oG f e) KY) (hm:Mem Φ (.blk b1 (ob [.string f,q1,q2,q3,q4,q5,q6,q7,q8] 131)::.blk b2 (ob d0 110)::KY [] z) w) :
  Calls prog 145 (List.toArray [y,.pointer (some ⟨b1,0,none⟩),.pointer (some ⟨b2,0,none⟩)]) w (fun ee w'=>∃z':β,ee=.returned (.tuple #[])∧True∧Mem Φ (.blk b1 (ob [.string f,q1,q2,q3,q4,q5,q6,q7,q8] 131)::.blk b2 (ob d0 110)::KY (oG f e) z') w'):=by
 obtain ⟨yf_,ya_,yc_,hyv_⟩:=hy.fn
 subst hyv_
 have re0_:=re
 obtain ⟨p3,c4,p9,c10,rfl,hi13,h2,h8,hm5,hn6,hm11,hn12⟩:=REx.fm re
 refine zN func145 ntmps145 fun Q hQ a he =>?_
 refine Bx fun b15 w hm a he =>?_
 refine MkM fun b17 w hm a he =>?_
 refine Alc fun b18 w hm a he =>?_
 refine Sto 0 fun w hm a he =>?_
 refine go fun a he =>?_
 replace hm:=hm.ar [] [2,2,2,4,4]
 refine qV call146 (fun y19 w hG20 hm a he =>?_) (c:=j1c (KY:=fun pre_ z_=>.blk b18 (ob [.map (some b17)] 198)::.mp b17 (wU (yT pre_))::.blk b15 (ob [.func yf_ ya_ yc_] 141)::KY (yT pre_) z_) (items:=xQ f e) (K0:=[.blk b1 (ob [.string f,q1,q2,q3,q4,q5,q6,q7,q8] 131),.blk b2 (ob [.int .i64 (e.kind),.int .i64 (e.num),.string e.name,.slice p3 e.args.length c4,.slice p9 e.arms.length c10] 110)]) (pre:=[]) (post:=[]) (z:=z) (y:=.func (.func 147) (List.toArray []) (List.toArray [.pointer (some ⟨b18,0,none⟩),.pointer (some ⟨b15,0,none⟩)])) ⟨⟨_,_,_,rfl⟩,fun pre_ x_ post_ z_ K0_ w_ hit_ hm_=>.inl ⟨147,[],_,rfl,call147,(j5a hy hit_ (Mem.mid3 hm_)).mono fun e_ w_ h_=>let ⟨h1_,z1_,h2_⟩:=h_;⟨h1_,z1_,Mem.unmid3 h2_⟩⟩⟩ hf re0_ ht (by simp) hm)
 refine go fun a he =>?_
 replace hm:=hm.dl [4,3,2]
 refine hQ _ _ _ (q0t he results145 ?_)
 exact ⟨_,rfl,trivial,hm⟩
theorem j2l {Φ:Fz} {K:List Res} {w:World} {f:Bs} {q1 q2 q3 q4 q5 q6 q7 q8:Value} {d0:List Value} {e:Ex} (re:REx Φ d0 e) (hm:Mem Φ K w) :
  Calls prog 103 (List.toArray [.agg (List.toArray [.string f,q1,q2,q3,q4,q5,q6,q7,q8]),.agg d0.toArray]) w (fun ee w'=>∃b:Nat×Nat,ee=.returned (.func (.func 145) (List.toArray []) (List.toArray [.pointer (some ⟨b.1,0,none⟩),.pointer (some ⟨b.2,0,none⟩)]))∧True∧Mem Φ (.blk b.1 (ob [.string f,q1,q2,q3,q4,q5,q6,q7,q8] 131)::.blk b.2 (ob d0 110)::K) w'):=by
 obtain ⟨p3,c4,p9,c10,rfl,hi13,h2,h8,hm5,hn6,hm11,hn12⟩:=REx.fm re
 refine zN func103 ntmps103 fun Q hQ a he =>?_
 refine Bx fun b15 w hm a he =>?_
 refine Bx fun b16 w hm a he =>?_
 replace hm:=hm.pl 1
 refine zF ?_
 exact ⟨(b15,b16),rfl,trivial,hm⟩
end Go.Sw

namespace Go.Sw
open Go.Proofs.Tryz
open Go.Proofs
set_option maxRecDepth 20000
set_option maxHeartbeats 4000000
abbrev flV:Flow→List Value:=fun s=>[.agg (List.toArray [.string s.1,.string s.2])]
theorem j7r {α:Type} {a b c:List α} (h:a++c=b++c):a=b:=List.append_cancel_right h
section
variable {pm:Pars} {f s:Bs} {e:Ex}
theorem j5b (h:e.kind=4):wT pm f e=z6g f e.name 0 e.args:=by rw [wT,if_pos h]
theorem q9e (h:e.kind=5):wT pm f e=cP f e.name ((zK pm e.name).getD []) e.args:=by rw [wT,if_neg (by omega),if_pos h]
theorem y9q (h:e.kind=6):wT pm f e=letF f e.name e.args:=by rw [wT,if_neg (by omega),if_neg (by omega),if_pos h]
theorem q9f (h:e.kind=7):wT pm f e=z0s f e.arms:=by rw [wT,if_neg (by omega),if_neg (by omega),if_neg (by omega),if_pos h]
theorem q9g (h4:¬e.kind=4) (h5:¬e.kind=5) (h6:¬e.kind=6) (h7:¬e.kind=7):wT pm f e=[]:=by rw [wT,if_neg h4,if_neg h5,if_neg h6,if_neg h7]
theorem j2f {l:List Ex} {i:Nat} {x:Ex} (h:l[i]? = some x):z6g f s i (l.drop i)=toP f (wM s i) x++z6g f s (i+1) (l.drop (i+1)):=by rw [zA h];rfl
theorem j8c {l:List Ex} {i:Nat} (h:¬i < l.length):z6g f s i (l.drop i)=[]:=by rw [zH h];rfl
theorem q4k {ps:List Param} {l:List Ex} {i:Nat} {x:Ex} {p:Param} (h:l[i]? = some x) (hp:ps[i]? = some p):cP f s (ps.drop i) (l.drop i)=toP f (vrN s p.name) x++cP f s (ps.drop (i+1)) (l.drop (i+1)):=by rw [zA h,zA hp];rfl
theorem j3z {ps:List Param} {l:List Ex} {i:Nat} (h:¬i < l.length):cP f s (ps.drop i) (l.drop i)=[]:=by rw [zH h];cases ps.drop i <;> rfl
theorem j2p {l:List Ex} {x:Ex} (h:l[0]? = some x):letF f s l=toP f (vrN f s) x:=by
 match l,h with
 | y::_,h=>simp only [List.getElem?_cons_zero,Option.some.injEq] at h;subst h;rfl
theorem armF_at {l:List Arm} {i:Nat} {x:Arm} (h:l[i]? = some x):z0s f (l.drop i)=z8m f x.con 0 x.vars++z0s f (l.drop (i+1)):=by rw [zA h];rfl
theorem j7t {l:List Arm} {i:Nat} (h:¬i < l.length):z0s f (l.drop i)=[]:=by rw [zH h];rfl
theorem j3l {l:List Bs} {k:Nat} {v:Bs} (h:l[k]? = some v):z8m f s k (l.drop k)=(wM s k,vrN f v)::z8m f s (k+1) (l.drop (k+1)):=by rw [zA h];rfl
theorem x3u {l:List Bs} {k:Nat} (h:¬k < l.length):z8m f s k (l.drop k)=[]:=by rw [zH h];rfl
theorem y9k {l:List Ex} {i:Nat} {x:Ex} (h:l[i]? = some x):flowPs pm f (l.drop i)=kS pm f x++flowPs pm f (l.drop (i+1)):=by rw [zA h];rfl
theorem q8y {l:List Ex} {i:Nat} (h:¬i < l.length):flowPs pm f (l.drop i)=[]:=by rw [zH h];rfl
theorem y9j {l:List Arm} {i:Nat} {x:Arm} (h:l[i]? = some x):flowPa pm f (l.drop i)=kS pm f x.body++flowPa pm f (l.drop (i+1)):=by rw [zA h,z5k]
theorem q8x {l:List Arm} {i:Nat} (h:¬i < l.length):flowPa pm f (l.drop i)=[]:=by rw [zH h];rfl
end
theorem z9z {β:Type} {Φ:Fz} {w:World} {y:Value} {items:List Flow} {KY:List Flow→β→List Res} (hy:Takes prog Φ y flV items KY) {f:Bs} {q1 q2 q3 q4 q5 q6 q7 q8:Value} (hf:f.size≤1000) {d0:List Value} {e:Ex} {node:Bs} {p0 q0:List Flow} {z0:β} {b5 b7:Nat} {K0:List Res} (re:REx Φ d0 e) (ht:pB e) (hit0:items=p0++toP f node e++q0) (hm:Mem Φ (.blk b5 (ob [.string f,q1,q2,q3,q4,q5,q6,q7,q8] 131)::.blk b7 (ob [y] 143)::(K0++KY p0 z0)) w) :
  Calls prog 148 (List.toArray [.agg d0.toArray,.string node,.pointer (some ⟨b5,0,none⟩),.pointer (some ⟨b7,0,none⟩)]) w (fun ee w'=>∃z':β,ee=.returned (.bool true)∧True∧Mem Φ (.blk b5 (ob [.string f,q1,q2,q3,q4,q5,q6,q7,q8] 131)::.blk b7 (ob [y] 143)::(K0++KY (p0++toP f node e) z')) w'):=by
 have re0_:=re
 obtain ⟨p3,c4,p9,c10,rfl,hi13,h2,h8,hm5,hn6,hm11,hn12⟩:=REx.fm re
 refine z3m func148 rfl ntmps148 rfl (fun Q hQ a he =>?_)
 refine Bx fun b15 w hm a he =>?_
 refine Bx fun b16 w hm a he =>?_
 refine Alc fun b17 w hm a he =>?_
 refine qV call103 (fun y20 w hG21 hm a he =>?_) (c:=j2l re hm)
 refine go fun a he =>?_
 refine z5c (p:=11) (oG f e) (fun x=>.string x) [.blk y20.1 (ob [.string f,q1,q2,q3,q4,q5,q6,q7,q8] 131),.blk y20.2 (ob [.int .i64 (e.kind),.int .i64 (e.num),.string e.name,.slice p3 e.args.length c4,.slice p9 e.arms.length c10] 110)] (fun pre z=>.blk b17 (ob [.bool false] 4)::.blk b16 (ob [.string node] 9)::.blk b15 (ob [.int .i64 (e.kind),.int .i64 (e.num),.string e.name,.slice p3 e.args.length c4,.slice p9 e.arms.length c10] 110)::.blk b5 (ob [.string f,q1,q2,q3,q4,q5,q6,q7,q8] 131)::.blk b7 (ob [y] 143)::K0++KY (p0++pre.map (fun s=>(s,node))) z) z0 he (by simpa using hm.nf) rfl call145 rfl (fun pre x post z l_ o1_ o2_ K1_ a w hit he hm =>?_) (fun y_ KY_ w hy_ hm =>?_) (fun Dk z a w he hm =>?_)
 replace hm:=hm.nf
 replace hm:Mem Φ (.blk l_ o1_::.blk b17 (ob [.bool false] 4)::.blk b16 (ob [.string node] 9)::.blk b15 (ob [.int .i64 (e.kind),.int .i64 (e.num),.string e.name,.slice p3 e.args.length c4,.slice p9 e.arms.length c10] 110)::.blk b5 (ob [.string f,q1,q2,q3,q4,q5,q6,q7,q8] 131)::.blk b7 (ob [y] 143)::(K1_++K0)++KY (p0++pre.map (fun s=>(s,node))) z) w:=Mem.rot (A:=[.blk l_ o1_,.blk b17 (ob [.bool false] 4),.blk b16 (ob [.string node] 9),.blk b15 (ob [.int .i64 (e.kind),.int .i64 (e.num),.string e.name,.slice p3 e.args.length c4,.slice p9 e.arms.length c10] 110),.blk b5 (ob [.string f,q1,q2,q3,q4,q5,q6,q7,q8] 131),.blk b7 (ob [y] 143)]) hm
 refine regI ?_
 refine yO he (by intro c h;cases h) (vJ he rfl) rfl fun a he =>?_
 refine wV ?_
 refine ⟨_,hm,fun w hm =>?_⟩
 replace hm:=hm.nf
 refine blkI ?_
 refine sqI fun L22 hL22 =>?_
 refine regI ?_
 refine yO he (by intro c h;cases h) (yR 5 he hm.toSees rfl rfl rfl isAgg143) rfl fun a he =>
   yO he (by intro c h;cases h) (jB he rfl) rfl fun a he =>
   yO he (by intro c h;cases h) (yR 2 he hm.toSees rfl rfl rfl isAgg9) rfl fun a he =>
   yO he (by intro c h;cases h) (qM (vs:=[(0,.string x),(1,.string node)]) (cs:=[.string x,.string node]) he rfl (by kernel_rfl)) rfl fun a he =>?_
 refine oZ he rfl rfl rfl (by intro c h;cases h) (xS he rfl rfl (hy.go (p0++pre.map (fun s=>(s,node))) (x,node) _ z (.blk l_ o2_::.blk b17 (ob [.bool false] 4)::.blk b16 (ob [.string node] 9)::.blk b15 (ob [.int .i64 (e.kind),.int .i64 (e.num),.string e.name,.slice p3 e.args.length c4,.slice p9 e.arms.length c10] 110)::.blk b5 (ob [.string f,q1,q2,q3,q4,q5,q6,q7,q8] 131)::.blk b7 (ob [y] 143)::(K1_++K0)) w (by rw [hit0,toP,hit];simp only [List.map_append,List.map_cons,List.append_assoc,List.cons_append];rfl) hm) fun w hJ_ a he =>?_)
 obtain ⟨z23,hm⟩:=hJ_
 replace hm:=hm.nf
 refine yO he (by intro c h;cases h) (tY he rfl) rfl fun a he =>?_
 refine wV ?_
 refine hL22 _ _ ?_
 refine if_fI he rfl ?_
 refine skipI ?_
 refine ⟨rfl,z23,?_⟩
 rw [List.map_append,List.map_cons,List.map_nil,← List.append_assoc]
 exact Mem.unrot (A:=[.blk l_ o2_,.blk b17 (ob [.bool false] 4),.blk b16 (ob [.string node] 9),.blk b15 (ob [.int .i64 (e.kind),.int .i64 (e.num),.string e.name,.slice p3 e.args.length c4,.slice p9 e.arms.length c10] 110),.blk b5 (ob [.string f,q1,q2,q3,q4,q5,q6,q7,q8] 131),.blk b7 (ob [y] 143)]) hm
 exact (q5l hf re0_ ht hy_ hm).mono fun e_ w h=>let ⟨z,h1,_,h2⟩:=h;⟨_,z,h1,h2⟩
 replace hm:Mem Φ (.blk y20.1 (ob [.string f,q1,q2,q3,q4,q5,q6,q7,q8] 131)::.blk y20.2 (ob [.int .i64 (e.kind),.int .i64 (e.num),.string e.name,.slice p3 e.args.length c4,.slice p9 e.arms.length c10] 110)::.blk b17 (ob [.bool false] 4)::.blk b16 (ob [.string node] 9)::.blk b15 (ob [.int .i64 (e.kind),.int .i64 (e.num),.string e.name,.slice p3 e.args.length c4,.slice p9 e.arms.length c10] 110)::.blk b5 (ob [.string f,q1,q2,q3,q4,q5,q6,q7,q8] 131)::.blk b7 (ob [y] 143)::xJ (Dk::[])++K0++KY (p0++(oG f e).map (fun s=>(s,node))) z) w:=Mem.mid (A:=[.blk Dk (.deferred (some []))]) (B:=[.blk y20.1 (ob [.string f,q1,q2,q3,q4,q5,q6,q7,q8] 131),.blk y20.2 (ob [.int .i64 (e.kind),.int .i64 (e.num),.string e.name,.slice p3 e.args.length c4,.slice p9 e.arms.length c10] 110),.blk b17 (ob [.bool false] 4),.blk b16 (ob [.string node] 9),.blk b15 (ob [.int .i64 (e.kind),.int .i64 (e.num),.string e.name,.slice p3 e.args.length c4,.slice p9 e.arms.length c10] 110),.blk b5 (ob [.string f,q1,q2,q3,q4,q5,q6,q7,q8] 131),.blk b7 (ob [y] 143)]) (C:=xJ []++K0++KY (p0++(oG f e).map (fun s=>(s,node))) z) hm
 refine Sto 2 fun w hm a he =>?_
 refine go fun a he =>?_
 replace hm:=hm.dl [4,3,1,0]
 replace hm:Mem Φ (xJ (Dk::[])++(.blk b17 (ob [.bool true] 4)::.blk b5 (ob [.string f,q1,q2,q3,q4,q5,q6,q7,q8] 131)::.blk b7 (ob [y] 143)::K0++KY (p0++(oG f e).map (fun s=>(s,node))) z)) w:=Mem.mid (A:=[.blk b17 (ob [.bool true] 4),.blk b5 (ob [.string f,q1,q2,q3,q4,q5,q6,q7,q8] 131),.blk b7 (ob [y] 143)]) (B:=xJ (Dk::[])) (C:=K0++KY (p0++(oG f e).map (fun s=>(s,node))) z) hm
 refine hQ _ _ _ (retXc (ds:=(Dk::[])) (v:=.bool true) he results148 rfl isAgg4 hm fun w hm =>?_)
 exact ⟨_,rfl,trivial,hm⟩
end Go.Sw
