import Derived.Test.YtghdfphedgcpdaaGreatDoorProg
import Derived.Test.YtghdfphedgcpdaaGreatDoorZ02
import Derived.Test.YtghdfphedgcpdaaGreatDoorZ04
import Derived.Test.YtghdfphedgcpdaaGreatDoorZ08
set_option linter.unusedVariables false
set_option linter.unusedSimpArgs false
namespace Go.Sw
open Go.Proofs.Tryz
open Go.Proofs
set_option maxRecDepth 20000
set_option maxHeartbeats 4000000
variable {Φ:Fz} {K:List Res} {w:World}
theorem y7k {g:Nat} {fs cs:List Value} {v0 v1:Value} {l:List Named} {m:List Param} {p:Named→Param→Bool} (rl:SliceOf RNamed Φ 4 v0 l) (rm:SliceOf RParam Φ 2 v1 m)
  (hg:∀args w,(callFunc g args).run prog w=.ok (.enter g args) w)
  (hf:∀x c y d w,x∈l→y∈m→RNamed Φ c x→RParam Φ d y→Mem Φ K w→Calls prog g (fs++[Value.agg c.toArray,Value.agg d.toArray]++cs).toArray w (fun e w'=>e=.returned (.bool (p x y))∧Mem Φ K w'))
  (hm:Mem Φ K w):Calls prog 91 (List.toArray [v0,v1,.func (.func g) fs.toArray cs.toArray]) w (fun ee w'=>ee=.returned (.bool (eqF p l m))∧Mem Φ K w'):=by
 obtain ⟨p0,c0,rfl,hm0,hn0⟩:=rl.fm
 obtain ⟨p1,c1,rfl,hm1,hn1⟩:=rm.fm
 refine zL func91 ntmps91 fun Q hQ a he =>?_
 by_cases h4:l.length=m.length
 refine go fun a he =>?_
 refine yF (he.ks [1,2,15,16]) hm (fun R mm a w=>∃(i:Nat),mm=l.length - i∧R Φ [(17,.int .i64 ((i:Nat):Int))] [] a w∧(eqF p l m=eqF p (l.drop i) (m.drop i))) (l.length - 0) ⟨0,rfl,⟨he.pk,hm⟩,rfl⟩ ?_
 clear hm he
 rintro mm a w ⟨i,hmu,⟨he,hm⟩,hI8⟩ L7 hL7
 by_cases h10:i < l.length
 refine go fun a he =>?_
 obtain ⟨q14,rfl,x15,hx16,cs17,hl18,ha19,hr20⟩:=rl.el hn0 h10
 obtain ⟨b21,rfl,h22⟩:=id hr20
 obtain ⟨p25,c26,rfl,hi29,h24,hm27,hn28⟩:=RVal.fm h22
 refine Alc fun b30 w hm a he =>?_
 refine Sto 0 fun w hm a he =>?_
 refine go fun a he =>?_
 have hb32:i < m.length:=by omega
 obtain ⟨q33,rfl,x34,hx35,cs36,hl37,ha38,hr39⟩:=rm.el hn1 hb32
 obtain rfl:=id hr39
 refine Alc fun b40 w hm a he =>?_
 refine Sto 0 fun w hm a he =>?_
 refine go fun a he =>?_
 replace hm:=hm.dl [1,0]
 refine z8e hg (fun hB42 w hm a he =>?_) (fun hB42 w hm a he =>?_) (c:=by exact hf _ _ _ _ _ (List.mem_of_getElem? hx16) (List.mem_of_getElem? hx35) hr20 hr39 hm)
 refine go fun a he =>?_
 refine hL7 _ _ _ (by subst hmu;omega) ⟨(i+1),rfl,⟨he.pk,hm⟩,?_⟩
 rw [hI8,zA hx16,zA hx35];simp [eqF, *]
 refine zI ?_
 exact zV hm (by rw [hI8,zA hx16,zA hx35];simp [eqF, *])
 refine zI ?_
 exact zV hm (by rw [hI8,zE h10,zE (l:=m) (by omega)];rfl)
 refine zI ?_
 exact zV hm (by rw [q8s (by assumption)])
theorem q1o {left:Int} {d0:List Value} {v:Val} {b1:Nat} {b2:Nat} (rpv:RVal Φ d0 v) (ih:∀x:Val,x.sz < v.sz→∀{Φ:Fz} {K:List Res} {w:World} {d:List Value} {b1 b2:Nat} {left:Int},RVal Φ d x→Mem Φ (.blk b1 (ob [.int .i64 left] 3)::.blk b2 (ob [.func (.func 97) (List.toArray []) (List.toArray [.pointer (some ⟨b1,0,none⟩),.pointer (some ⟨b2,0,none⟩)])] 119)::K) w→Calls prog 97 (List.toArray [.agg d.toArray,.pointer (some ⟨b1,0,none⟩),.pointer (some ⟨b2,0,none⟩)]) w (fun ee w'=>ee=.returned (.bool (xK x left).1)∧Mem Φ (.blk b1 (ob [.int .i64 (xK x left).2] 3)::.blk b2 (ob [.func (.func 97) (List.toArray []) (List.toArray [.pointer (some ⟨b1,0,none⟩),.pointer (some ⟨b2,0,none⟩)])] 119)::K) w')) (hm:Mem Φ (.blk b1 (ob [.int .i64 (left)] 3)::.blk b2 (ob [.func (.func 97) (List.toArray []) (List.toArray [.pointer (some ⟨b1,0,none⟩),.pointer (some ⟨b2,0,none⟩)])] 119)::K) w) :
  Calls prog 97 (List.toArray [.agg d0.toArray,.pointer (some ⟨b1,0,none⟩),.pointer (some ⟨b2,0,none⟩)]) w (fun ee w'=>ee=.returned (.bool ((xK v left).1))∧Mem Φ (.blk b1 (ob [.int .i64 ((xK v left).2)] 3)::.blk b2 (ob [.func (.func 97) (List.toArray []) (List.toArray [.pointer (some ⟨b1,0,none⟩),.pointer (some ⟨b2,0,none⟩)])] 119)::K) w'):=by
 obtain ⟨p3,c4,rfl,hi7,h2,hm5,hn6⟩:=RVal.fm rpv
 refine zL func97 ntmps97 fun Q hQ a he =>?_
 refine Bx fun b9 w hm a he =>?_
 refine Qq (fun a he =>?_) (o:=by exact fun he hs=>pY _ he rfl rfl rfl)
 refine Sto 1 fun w hm a he =>?_
 refine go fun a he =>?_
 by_cases h12:IntKind.i64.wrap (left - 1) < 0
 refine zI ?_
 replace hm:=hm.dl [0]
 have hr_:xK v left=(true,IntKind.i64.wrap (left - 1)):=by
  rw [z4o,if_pos h12]
 show _∧_;rw [hr_];exact ⟨rfl,hm⟩
 replace hm:=hm.ar [] [2,2]
 refine zZ call59 (fun w hm a he =>?_) (c:=gL (Φ:=Φ) (σ:=Int) (step:=fun s x=>xK x s) (Kf:=fun s=>.blk b1 (ob [.int .i64 s] 3)::.blk b2 (ob [.func (.func 97) (List.toArray []) (List.toArray [.pointer (some ⟨b1,0,none⟩),.pointer (some ⟨b2,0,none⟩)])] 119)::.blk b9 (ob [.string v.con,.int .i64 (v.num),.slice p3 v.args.length c4] 58)::K) (s0:=IntKind.i64.wrap (left - 1)) (fs:=[]) (cs:=[.pointer (some ⟨b1,0,none⟩),.pointer (some ⟨b2,0,none⟩)]) h2 call97 (fun s x c w hx hc hm=>ih x (Val.lt_args hx) hc hm) hm)
 replace hm:=hm.nf
 refine zI ?_
 replace hm:=hm.dl [2]
 have hr_:xK v left=(tE (fun s x=>xK x s) (IntKind.i64.wrap (left - 1)) v.args,(yB (fun s x=>xK x s) (IntKind.i64.wrap (left - 1)) v.args 0).2):=by
  rw [z4o,if_neg h12];exact Prod.ext (z0o v.args _ 0).1 (z0o v.args _ 0).2
 show _∧_;rw [hr_];exact ⟨rfl,hm⟩
theorem j2c {d:List Value} {v:Val} {b1 b2:Nat} {left:Int} (rv:RVal Φ d v) (hm:Mem Φ (.blk b1 (ob [.int .i64 left] 3)::.blk b2 (ob [.func (.func 97) (List.toArray []) (List.toArray [.pointer (some ⟨b1,0,none⟩),.pointer (some ⟨b2,0,none⟩)])] 119)::K) w) :
  Calls prog 97 (List.toArray [.agg d.toArray,.pointer (some ⟨b1,0,none⟩),.pointer (some ⟨b2,0,none⟩)]) w (fun ee w'=>ee=.returned (.bool (xK v left).1)∧Mem Φ (.blk b1 (ob [.int .i64 (xK v left).2] 3)::.blk b2 (ob [.func (.func 97) (List.toArray []) (List.toArray [.pointer (some ⟨b1,0,none⟩),.pointer (some ⟨b2,0,none⟩)])] 119)::K) w'):=by
 suffices H:∀n (x:Val),x.sz < n→∀{Φ:Fz} {K:List Res} {w:World} {d:List Value} {b1 b2:Nat} {left:Int},RVal Φ d x→Mem Φ (.blk b1 (ob [.int .i64 left] 3)::.blk b2 (ob [.func (.func 97) (List.toArray []) (List.toArray [.pointer (some ⟨b1,0,none⟩),.pointer (some ⟨b2,0,none⟩)])] 119)::K) w →
   Calls prog 97 (List.toArray [.agg d.toArray,.pointer (some ⟨b1,0,none⟩),.pointer (some ⟨b2,0,none⟩)]) w (fun ee w'=>ee=.returned (.bool (xK x left).1)∧Mem Φ (.blk b1 (ob [.int .i64 (xK x left).2] 3)::.blk b2 (ob [.func (.func 97) (List.toArray []) (List.toArray [.pointer (some ⟨b1,0,none⟩),.pointer (some ⟨b2,0,none⟩)])] 119)::K) w') from H _ v (Nat.lt_succ_self _) rv hm
 intro n
 induction n with
 | zero=>intro e h;omega
 | succ n ih=>intro x h Φ K w d b1 b2 left rv hm;exact q1o rv (fun y hy _ _ _ _ _ _ _ r m=>ih y (by omega) r m) hm
theorem q1p {d0:List Value} {v:Val} (rpv:RVal Φ d0 v) (hm:Mem Φ K w) :
  Calls prog 60 (List.toArray [.agg d0.toArray]) w (fun ee w'=>ee=.returned (.bool (cX v))∧Mem Φ K w'):=by
 obtain ⟨p3,c4,rfl,hi7,h2,hm5,hn6⟩:=RVal.fm rpv
 refine zL func60 ntmps60 fun Q hQ a he =>?_
 refine Bx fun b9 w hm a he =>?_
 refine Alc fun b11 w hm a he =>?_
 refine Sto 0 fun w hm a he =>?_
 refine Alc fun b13 w hm a he =>?_
 refine Sto 0 fun w hm a he =>?_
 replace hm:=hm.pl 1
 refine y6w call97 (fun w hm a he =>?_) (c:=by exact j2c rpv hm)
 refine zI ?_
 replace hm:=hm.dl [2,1,0]
 exact zV hm (by rfl)
theorem j8a {p0:Addr} {T:Table} {name:Bs} {d2:List Value} {v:Val} (rpT:RTable Φ p0 T) (rpv:RVal Φ d2 v) (ih:∀x:Val,x.sz < v.sz→∀{Φ:Fz} {K:List Res} {w:World} {p:Addr} {d:List Value} {name:Bs},RTable Φ p T→RVal Φ d x→Mem Φ K w→Calls prog 93 (List.toArray [.pointer (some p),.string name,.agg d.toArray]) w (fun ee w'=>ee=.returned (.bool (nP T x name))∧Mem Φ K w')) (hm:Mem Φ K w) :
  Calls prog 93 (List.toArray [.pointer (some p0),.string name,.agg d2.toArray]) w (fun ee w'=>ee=.returned (.bool (nP T v name))∧Mem Φ K w'):=by
 obtain ⟨cs17,m1,m2,m3,m4,d5,d6,d7,d8,hat18,hcl19,hcore20,ma9,mr13,ma10,mr14,ma11,mr15,ma12,mr16⟩:=rpT.ex
 obtain ⟨p23,c24,p29,c30,p35,c36,p41,c42,rfl,h22,h28,h34,h40,hm25,hn26,hm31,hn32,hm37,hn38,hm43,hn44⟩:=RCore.fm hcore20
 obtain ⟨p47,c48,rfl,hi51,h46,hm49,hn50⟩:=RVal.fm rpv
 refine zL func93 ntmps93 fun Q hQ a he =>?_
 refine Bx fun b53 w hm a he =>?_
 by_cases h56:v.con=(⟨#[]⟩:ByteArray)
 by_cases h58:name=(⟨#[73,110,116]⟩:ByteArray)
 refine Qq (fun a he =>?_) (o:=by exact fun he hs=>y9c (i:=v.args.length) (j:=0) he rfl rfl)
 refine zI ?_
 replace hm:=hm.dl [0]
 exact zV hm (by rw [dO,if_pos (by simp [sNo,qC, *])];simp [sNo,qC, *])
 refine zI ?_
 replace hm:=hm.dl [0]
 exact zV hm (by rw [dO,if_pos (by simp [sNo,qC, *])];simp [sNo,qC, *])
 by_cases h59:name=(⟨#[73,110,116]⟩:ByteArray)
 refine zI ?_
 replace hm:=hm.dl [0]
 exact zV hm (by rw [dO,if_pos (by simp [sNo,qC, *])];simp [sNo,qC, *])
 refine Reg [1,1,1,2,1,2,2,1,1,1,0,0,1] [0] fun w hm a he =>?_
 refine go fun a he =>?_
 rcases hf62:yA (d6) v.con with _ | vf63
 have hf62_:=congrArg (zF true (.agg (List.toArray [.string ⟨#[]⟩,.string ⟨#[]⟩,.slice none 0 0]))) hf62
 refine Qq (fun a he =>?_) (o:=by exact fun he hs=>Ok.cast (yD runUnderlying114 runUnderlying9 zeroValue201 he hs rfl rfl ma10) (show zF true (.agg (List.toArray [.string ⟨#[]⟩,.string ⟨#[]⟩,.slice none 0 0])) (yA (d6) v.con)=.tuple (List.toArray [.agg (List.toArray [.string ⟨#[]⟩,.string ⟨#[]⟩,.slice none 0 0]),.bool false]) from hf62_))
 refine Alc fun b64 w hm a he =>?_
 refine Sto 0 fun w hm a he =>?_
 refine zI ?_
 replace hm:=hm.dl [1,0]
 exact zV hm (by have e_:=MapRel.none mr14 hf62;rw [dO,if_neg (by simp [sNo,qC, *])];simp [e_])
 obtain ⟨y68,hy69,cs70,rfl,hr71⟩:=mr14.get hf62
 obtain ⟨b72,rfl,h73⟩:=id hr71
 obtain ⟨s74,rfl,h75⟩:=id h73
 obtain ⟨p76,c77,rfl,hm78,hn79⟩:=h75.fm
 have hf62_:=congrArg (zF true (.agg (List.toArray [.string ⟨#[]⟩,.string ⟨#[]⟩,.slice none 0 0]))) hf62
 refine Qq (fun a he =>?_) (o:=by exact fun he hs=>Ok.cast (yD runUnderlying114 runUnderlying9 zeroValue201 he hs rfl rfl ma10) (show zF true (.agg (List.toArray [.string ⟨#[]⟩,.string ⟨#[]⟩,.slice none 0 0])) (yA (d6) v.con)=.tuple (List.toArray [.agg (List.toArray [.string y68.data,.string y68.con.name,.slice p76 y68.con.fields.length c77]),.bool true]) from hf62_))
 refine Alc fun b80 w hm a he =>?_
 refine Sto 0 fun w hm a he =>?_
 by_cases h83:y68.data=name
 by_cases h84:v.num=0
 by_cases h85:y68.con.fields.length=v.args.length
 refine go fun a he =>?_
 have hI_:nP T v name=hasL T v.args y68.con.fields:=by
  rw [dO,if_neg (by simp [sNo,qC, *])]
  simp only [hy69]
  simp [*]
 refine go fun a he =>?_
 refine yF (he.ks [0,7,65,66]) hm (fun R mm a w=>∃(i:Nat),mm=v.args.length - i∧R Φ [(67,.int .i64 ((i:Nat):Int))] [] a w∧(hasL T v.args y68.con.fields=hasL T (v.args.drop i) (y68.con.fields.drop i))) (v.args.length - 0) ⟨0,rfl,⟨he.pk,hm⟩,rfl⟩ ?_
 clear hm he
 rintro mm a w ⟨i,hmu,⟨he,hm⟩,hI89⟩ L88 hL88
 by_cases h91:i < v.args.length
 refine go fun a he =>?_
 obtain ⟨q95,rfl,x96,hx97,cs98,hl99,ha100,hr101⟩:=h46.el hn50 h91
 obtain ⟨p104,c105,rfl,hi108,h103,hm106,hn107⟩:=RVal.fm hr101
 refine Alc fun b109 w hm a he =>?_
 refine Sto 0 fun w hm a he =>?_
 refine Reg [1,1,1,2,1,1,2,2,0,1] [0,1,2] fun w hm a he =>?_
 refine go fun a he =>?_
 have hb111:i < y68.con.fields.length:=by omega
 obtain ⟨q112,rfl,x113,hx114,cs115,hl116,ha117,hr118⟩:=h75.el hn79 hb111
 obtain rfl:cs115=[.string x113]:=hr118
 refine yK call93 (fun hB119 w hm a he =>?_) (fun hB119 w hm a he =>?_) (c:=ih _ (Val.lt_args (List.mem_of_getElem? hx97)) rpT hr101 hm)
 refine go fun a he =>?_
 replace hm:=hm.dl [0]
 refine hL88 _ _ _ (by subst hmu;omega) ⟨(i+1),rfl,⟨he.pk,hm⟩,?_⟩
 rw [hI89,zA hx97,zA hx114,j1l,hB119];rfl
 refine zI ?_
 replace hm:=hm.dl [2,1,0]
 exact zV hm (by rw [hI_,hI89,zA hx97,zA hx114];simp [hasL,hB119])
 refine zI ?_
 replace hm:=hm.dl [1,0]
 exact zV hm (by rw [hI_,hI89,zE h91];rfl)
 refine zI ?_
 replace hm:=hm.dl [1,0]
 exact zV hm (by rw [dO,if_neg (by simp [sNo,qC, *])];simp only [hy69];simp [*])
 refine zI ?_
 replace hm:=hm.dl [1,0]
 exact zV hm (by rw [dO,if_neg (by simp [sNo,qC, *])];simp only [hy69];simp [*])
 refine zI ?_
 replace hm:=hm.dl [1,0]
 exact zV hm (by rw [dO,if_neg (by simp [sNo,qC, *])];simp only [hy69];simp [*])
theorem has_ok {T:Table} {Φ:Fz} {K:List Res} {w:World} {p:Addr} {d:List Value} {name:Bs} {v:Val} (rT:RTable Φ p T) (rv:RVal Φ d v) (hm:Mem Φ K w) :
  Calls prog 93 (List.toArray [.pointer (some p),.string name,.agg d.toArray]) w (fun ee w'=>ee=.returned (.bool (nP T v name))∧Mem Φ K w'):=by
 suffices H:∀n (x:Val),x.sz < n→∀{Φ:Fz} {K:List Res} {w:World} {p:Addr} {d:List Value} {name:Bs},RTable Φ p T→RVal Φ d x→Mem Φ K w →
   Calls prog 93 (List.toArray [.pointer (some p),.string name,.agg d.toArray]) w (fun ee w'=>ee=.returned (.bool (nP T x name))∧Mem Φ K w') from H _ v (Nat.lt_succ_self _) rT rv hm
 intro n
 induction n with
 | zero=>intro e h;omega
 | succ n ih=>intro x h Φ K w p d name rT rv hm;exact j8a rT rv (fun y hy _ _ _ _ _ _ r1 r2 m=>ih y (by omega) r1 r2 m) hm
theorem j1k {pt:Addr} {T:Table} {d0:List Value} {v:Named} {d1:List Value} {p:Param} {b:Nat} (rpv:RNamed Φ d0 v) (rpp:RParam Φ d1 p) (rT:RTable Φ pt T) (hm:Mem Φ (.blk b (ob [.pointer (some pt)] 96)::K) w) :
  Calls prog 92 (List.toArray [.agg d0.toArray,.agg d1.toArray,.pointer (some ⟨b,0,none⟩)]) w (fun ee w'=>ee=.returned (.bool ((decide (v.name=p.name) && !cX v.value&&nP T v.value p.type)))∧Mem Φ (.blk b (ob [.pointer (some pt)] 96)::K) w'):=by
 obtain ⟨b1,rfl,h2⟩:=id rpv
 obtain ⟨p5,c6,rfl,hi9,h4,hm7,hn8⟩:=RVal.fm h2
 obtain rfl:=id rpp
 refine zL func92 ntmps92 fun Q hQ a he =>?_
 refine Bx fun b11 w hm a he =>?_
 refine Bx fun b12 w hm a he =>?_
 by_cases h14:v.name=p.name
 refine yK call60 (fun hB15 w hm a he =>?_) (fun hB15 w hm a he =>?_) (c:=q1p h2 hm)
 refine zI ?_
 replace hm:=hm.dl [1,0]
 exact zV hm (by simp [*])
 refine zZ call93 (fun w hm a he =>?_) (c:=has_ok rT h2 hm)
 refine zI ?_
 replace hm:=hm.dl [1,0]
 exact zV hm (by simp [*])
 refine zI ?_
 replace hm:=hm.dl [1,0]
 exact zV hm (by simp [*])
theorem j7x {p0:Addr} {T:Table} {v1:Value} {l:List Named} (rpT:RTable Φ p0 T) (rpl:SliceOf RNamed Φ 4 v1 l) (hm:Mem Φ K w) :
  Calls prog 54 (List.toArray [.pointer (some p0),v1]) w (fun ee w'=>ee=.returned (.bool (aH T l T.core.inputs))∧Mem Φ K w'):=by
 obtain ⟨cs17,m1,m2,m3,m4,d5,d6,d7,d8,hat18,hcl19,hcore20,ma9,mr13,ma10,mr14,ma11,mr15,ma12,mr16⟩:=rpT.ex
 obtain ⟨p23,c24,p29,c30,p35,c36,p41,c42,rfl,h22,h28,h34,h40,hm25,hn26,hm31,hn32,hm37,hn38,hm43,hn44⟩:=RCore.fm hcore20
 obtain ⟨p1,c1,rfl,hm1,hn1⟩:=rpl.fm
 refine zL func54 ntmps54 fun Q hQ a he =>?_
 refine Bx fun b46 w hm a he =>?_
 refine zZ call91 (fun w hm a he =>?_) (c:=y7k (Φ:=Φ) (K:=.blk b46 (ob [.pointer (some p0)] 96)::K) (p:=fun v p=>decide (v.name=p.name) && !cX v.value&&nP T v.value p.type) (fs:=[]) (cs:=[.pointer (some ⟨b46,0,none⟩)]) rpl h28 call92 (fun x c y d w hx hy hc hd hm=>j1k hc hd rpT hm) hm)
 refine zI ?_
 replace hm:=hm.dl [0]
 exact zV hm (by rw [y4t])
end Go.Sw

namespace Go.Sw
open Go.Proofs.Tryz
open Go.Proofs
set_option maxRecDepth 20000
set_option maxHeartbeats 4000000
theorem z6d {Φ:Fz} {K:List Res} {w:World} {b:Bool}  (hm:Mem Φ K w) :
  Calls prog 174 (List.toArray [.bool b]) w (fun ee w'=>∃yy:Fz×List Value,ee=.returned (.agg yy.2.toArray)∧(Φ.Le yy.1∧RVal yy.1 yy.2 (gA b))∧Mem yy.1 K w'):=by
 refine zL func174 ntmps174 fun Q hQ a he =>?_
 refine Alc fun b2 w hm a he =>?_
 refine go fun a he =>?_
 cases b
 refine yJ fun a he =>?_
 refine Sto 0 fun w hm a he =>?_
 refine go fun a he =>?_
 have hmr:=hm
 replace hm:=hm.dl [0]
 refine jU (hm:=hmr) ?_
 exact ⟨(Φ,_),rfl,⟨Fz.Le.refl _,by
  rw [show gA false=Val.mk (⟨#[70,97,108,115,101]⟩:ByteArray) (0) [] by rfl]
  exact RVal.iff.2 ⟨_,rfl,(show I64 0 by unfold I64;omega),SliceOf.nil 3⟩⟩,hm⟩
 refine yJ fun a he =>?_
 refine Sto 0 fun w hm a he =>?_
 refine go fun a he =>?_
 have hmr:=hm
 replace hm:=hm.dl [0]
 refine jU (hm:=hmr) ?_
 exact ⟨(Φ,_),rfl,⟨Fz.Le.refl _,by
  rw [show gA true=Val.mk (⟨#[84,114,117,101]⟩:ByteArray) (0) [] by rfl]
  exact RVal.iff.2 ⟨_,rfl,(show I64 0 by unfold I64;omega),SliceOf.nil 3⟩⟩,hm⟩
theorem gS {a b:Int} (h:I64 a):I64 (a.tmod b):=by
 unfold I64 at *
 have h1:=Int.natAbs_tmod a b
 have h2:a.natAbs % b.natAbs≤a.natAbs:=Nat.mod_le _ _
 by_cases h0:0≤a
 have:=Int.tmod_nonneg b h0;omega
 have:a.tmod b≤0:=by
  have:=Int.tmod_nonneg b (show 0≤-a by omega)
  rw [Int.neg_tmod] at this;omega
 omega
theorem q5x {Φ:Fz} {K:List Res} {w:World} {op:Bs} {x y:Int} (ha:I64 x) (hb:I64 y) (hm:Mem Φ K w) :
  Calls prog 136 (List.toArray [.string op,.int .i64 x,.int .i64 y]) w (fun ee w'=>∃yy:Fz×List Value,ee=.returned (.agg yy.2.toArray)∧(Φ.Le yy.1∧RVal yy.1 yy.2 (jK op x y))∧Mem yy.1 K w'):=by
 refine zL func136 ntmps136 fun Q hQ a he =>?_
 refine Alc fun b2 w hm a he =>?_
 by_cases h7:op=(⟨#[43]⟩:ByteArray)
 refine Qq (fun a he =>?_) (o:=by exact fun he hs=>y6s _ he rfl rfl rfl)
 refine yJ fun a he =>?_
 refine Sto 0 fun w hm a he =>?_
 refine go fun a he =>?_
 have hmr:=hm
 replace hm:=hm.dl [0]
 refine jU (hm:=hmr) ?_
 exact ⟨(Φ,_),rfl,⟨Fz.Le.refl _,by
  rw [show jK op x y=Val.mk (⟨#[]⟩:ByteArray) (IntKind.i64.wrap (x+y)) [] by simp [jK,z1h,v0,gA,sNo, *]]
  exact RVal.iff.2 ⟨_,rfl,(by first | exact I64.of_wrap _ | exact gS ha | exact (show I64 0 from ⟨by decide,by decide⟩)),SliceOf.nil 3⟩⟩,hm⟩
 by_cases h10:op=(⟨#[45]⟩:ByteArray)
 refine Qq (fun a he =>?_) (o:=by exact fun he hs=>pY _ he rfl rfl rfl)
 refine yJ fun a he =>?_
 refine Sto 0 fun w hm a he =>?_
 refine go fun a he =>?_
 have hmr:=hm
 replace hm:=hm.dl [0]
 refine jU (hm:=hmr) ?_
 exact ⟨(Φ,_),rfl,⟨Fz.Le.refl _,by
  rw [show jK op x y=Val.mk (⟨#[]⟩:ByteArray) (IntKind.i64.wrap (x - y)) [] by simp [jK,z1h,v0,gA,sNo, *]]
  exact RVal.iff.2 ⟨_,rfl,(by first | exact I64.of_wrap _ | exact gS ha | exact (show I64 0 from ⟨by decide,by decide⟩)),SliceOf.nil 3⟩⟩,hm⟩
 by_cases h13:op=(⟨#[42]⟩:ByteArray)
 refine Qq (fun a he =>?_) (o:=by exact fun he hs=>y_mul _ he rfl rfl rfl)
 refine yJ fun a he =>?_
 refine Sto 0 fun w hm a he =>?_
 refine go fun a he =>?_
 have hmr:=hm
 replace hm:=hm.dl [0]
 refine jU (hm:=hmr) ?_
 exact ⟨(Φ,_),rfl,⟨Fz.Le.refl _,by
  rw [show jK op x y=Val.mk (⟨#[]⟩:ByteArray) (IntKind.i64.wrap (x * y)) [] by simp [jK,z1h,v0,gA,sNo, *]]
  exact RVal.iff.2 ⟨_,rfl,(by first | exact I64.of_wrap _ | exact gS ha | exact (show I64 0 from ⟨by decide,by decide⟩)),SliceOf.nil 3⟩⟩,hm⟩
 refine go fun a he =>?_
 by_cases h16:op=(⟨#[60]⟩:ByteArray)
 refine Qq (fun a he =>?_) (o:=by exact fun he hs=>y_lssD he rfl rfl)
 refine st he rfl rfl rfl (kT he rfl rfl call174 (z6d (b:=(decide (x < y))) hm) (fun y18 w hG19 hm a he =>?_))
 obtain ⟨Ψ20,d21⟩:=y18
 obtain ⟨le22,hr23⟩:=hG19
 simp only at le22 hr23 hm he
 replace hm:=hm.nf
 obtain ⟨p26,c27,rfl,hi30,h25,hm28,hn29⟩:=RVal.fm hr23
 refine Sto 0 fun w hm a he =>?_
 refine go fun a he =>?_
 have hmr:=hm
 replace hm:=hm.dl [0]
 refine jU (hm:=hmr) ?_
 exact ⟨(Ψ20,_),rfl,⟨le22,by
  rw [show jK op x y=(gA (decide (x < y))) by simp [jK, *]]
  exact hr23⟩,hm⟩
 by_cases h32:op=(⟨#[61]⟩:ByteArray)
 refine Qq (fun a he =>?_) (o:=by exact fun he hs=>nK he rfl rfl)
 refine st he rfl rfl rfl (kT he rfl rfl call174 (z6d (b:=(decide (x=y))) hm) (fun y34 w hG35 hm a he =>?_))
 obtain ⟨Ψ36,d37⟩:=y34
 obtain ⟨le38,hr39⟩:=hG35
 simp only at le38 hr39 hm he
 replace hm:=hm.nf
 obtain ⟨p42,c43,rfl,hi46,h41,hm44,hn45⟩:=RVal.fm hr39
 refine Sto 0 fun w hm a he =>?_
 refine go fun a he =>?_
 have hmr:=hm
 replace hm:=hm.dl [0]
 refine jU (hm:=hmr) ?_
 exact ⟨(Ψ36,_),rfl,⟨le38,by
  rw [show jK op x y=(gA (decide (x=y))) by simp [jK, *]]
  exact hr39⟩,hm⟩
 by_cases h49:y=0
 refine yJ fun a he =>?_
 refine Sto 0 fun w hm a he =>?_
 refine go fun a he =>?_
 have hmr:=hm
 replace hm:=hm.dl [0]
 refine jU (hm:=hmr) ?_
 exact ⟨(Φ,_),rfl,⟨Fz.Le.refl _,by
  rw [show jK op x y=Val.mk (⟨#[]⟩:ByteArray) (0) [] by simp [jK,z1h,v0,gA,sNo, *]]
  exact RVal.iff.2 ⟨_,rfl,(by first | exact I64.of_wrap _ | exact gS ha | exact (show I64 0 from ⟨by decide,by decide⟩)),SliceOf.nil 3⟩⟩,hm⟩
 by_cases h53:op=(⟨#[47]⟩:ByteArray)
 refine Qq (fun a he =>?_) (o:=by exact fun he hs=>y_quo _ he rfl rfl h49 rfl)
 refine yJ fun a he =>?_
 refine Sto 0 fun w hm a he =>?_
 refine go fun a he =>?_
 have hmr:=hm
 replace hm:=hm.dl [0]
 refine jU (hm:=hmr) ?_
 exact ⟨(Φ,_),rfl,⟨Fz.Le.refl _,by
  rw [show jK op x y=Val.mk (⟨#[]⟩:ByteArray) (IntKind.i64.wrap (x.tdiv y)) [] by simp [jK,z1h,v0,gA,sNo, *]]
  exact RVal.iff.2 ⟨_,rfl,(by first | exact I64.of_wrap _ | exact gS ha | exact (show I64 0 from ⟨by decide,by decide⟩)),SliceOf.nil 3⟩⟩,hm⟩
 refine Qq (fun a he =>?_) (o:=by exact fun he hs=>y_rem _ he rfl rfl h49 rfl)
 refine yJ fun a he =>?_
 refine Sto 0 fun w hm a he =>?_
 refine go fun a he =>?_
 have hmr:=hm
 replace hm:=hm.dl [0]
 refine jU (hm:=hmr) ?_
 exact ⟨(Φ,_),rfl,⟨Fz.Le.refl _,by
  rw [show jK op x y=Val.mk (⟨#[]⟩:ByteArray) (x.tmod y) [] by simp [jK,z1h,v0,gA,sNo, *]]
  exact RVal.iff.2 ⟨_,rfl,(by first | exact I64.of_wrap _ | exact gS ha | exact (show I64 0 from ⟨by decide,by decide⟩)),SliceOf.nil 3⟩⟩,hm⟩
end Go.Sw

namespace Go.Sw
open Go.Proofs.Tryz
open Go.Proofs
set_option maxRecDepth 20000
set_option maxHeartbeats 4000000
variable {Φ:Fz} {K:List Res} {w:World}
theorem y2s {v:Value} {l:List Int} (hlen:l.length≤1000000) (hm:Mem Φ (.gs v 3 1 (uY l)::K) w) :
  Calls prog 57 (List.toArray [v]) w (fun ee w'=>ee=.returned (.int .i64 (aK l))∧Mem Φ (.gs v 3 1 (uY l)::K) w'):=by
 obtain ⟨p0,m0,c0,rfl,hl0,hmx0⟩:=hm.toSees.gsForm (i:=0) rfl
 have hml:l.length=m0:=by simpa [z5w] using hl0
 refine zL func57 ntmps57 fun Q hQ a he =>?_
 refine go fun a he =>?_
 refine yF (he.ks [6,7]) hm (fun R mm a w=>∃(i:Nat) (q:Int),mm=m0 - i∧R Φ [(3,.int .i64 (q)),(8,.int .i64 ((i:Nat):Int))] [] a w∧(aK (l.take i)=q)) (m0 - 0) ⟨0,0,rfl,⟨he.pk,hm⟩,rfl⟩ ?_
 clear hm he
 rintro mm a w ⟨i,q,hmu,⟨he,hm⟩,hI6⟩ L5 hL5
 by_cases h8:i < m0
 refine go fun a he =>?_
 obtain ⟨q12,hq13⟩:=hm.toSees.gsSome (i:=0) rfl h8
 obtain ⟨x15,hx14⟩:=zX (l:=l) (i:=i) (by omega)
 refine Qq (fun a he =>?_) (o:=by exact fun he hs=>vU (p:=q12) i he (by rw [← hq13];rfl) rfl runUnderlying84 sizeOf3 h8)
 refine Qq (fun a he =>?_) (o:=by exact fun he hs=>cH 0 i he hs rfl (by rw [← hq13];rfl) (j8l hx14) isAgg3)
 refine Qq (fun a he =>?_) (o:=by exact fun he hs=>y6s _ he rfl rfl rfl)
 refine go fun a he =>?_
 refine hL5 _ _ _ (by subst hmu;omega) ⟨(i+1),(IntKind.i64.wrap (q+x15)),rfl,⟨he.pk,by exact hm⟩,?_⟩
 rw [z5d hx14,yI,hI6]
 refine zI ?_
 exact q2m hm (by rw [← hI6,q3e (by omega)])
theorem j9l {d:List Value} {v:Val} (ih:∀x:Val,x.sz < v.sz→z5m x→∀{Φ:Fz} {K:List Res} {w:World} {d:List Value},RVal Φ d x→Mem Φ K w →
   Calls prog 61 (List.toArray [.agg d.toArray]) w (fun ee w'=>∃yy:Fz×List Value,ee=.returned (.agg yy.2.toArray)∧(Φ.Le yy.1∧RVal yy.1 yy.2 x)∧Mem yy.1 K w')) (hs:z5m v) (rv:RVal Φ d v) (hm:Mem Φ K w) :
  Calls prog 61 (List.toArray [.agg d.toArray]) w (fun ee w'=>∃yy:Fz×List Value,ee=.returned (.agg yy.2.toArray)∧(Φ.Le yy.1∧RVal yy.1 yy.2 v)∧Mem yy.1 K w'):=by
 obtain ⟨p3,c4,rfl,hi7,h2,hm5,hn6⟩:=RVal.fm rv
 refine zL func61 ntmps61 fun Q hQ a he =>?_
 refine Bx fun b9 w hm a he =>?_
 refine Alc fun b10 w hm a he =>?_
 refine yJ fun a he =>?_
 refine Alc fun b12 w hm a he =>?_
 refine Sto 0 fun w hm a he =>?_
 refine go fun a he =>?_
 replace hm:=hm.nilRow 58 3
 replace hm:=hm.nf
 refine go fun a he =>?_
 refine yF (he.ks [2,3,12,13]) hm (fun R mm a w=>∃(Ψ15:Fz) (i:Nat) (u:Value) (cs:List Value),mm=v.args.length - i∧R Ψ15 [(14,.int .i64 ((i:Nat):Int))] [(0,.gs (u) 58 3 cs),(1,.blk b12 (ob [.string v.con,.int .i64 (v.num),u] 58))] a w∧(Φ.Le Ψ15∧(Chunks (RVal Ψ15) 3 cs (v.args.take i)))) (v.args.length - 0) ⟨Φ,0,.slice none 0 0,[],rfl,⟨he.pk,hm⟩,⟨Fz.Le.refl _,rfl⟩⟩ ?_
 clear hm he
 rintro mm a w ⟨Ψ15,i,u,cs,hmu,⟨he,hm⟩,hI18⟩ L17 hL17
 replace hm:=hm.nf
 obtain ⟨le16,hI18⟩:=hI18
 replace h2:=h2.up le16
 replace rv:=RVal.mono _ _ _ _ le16 rv
 have hch:=hI18
 by_cases h20:i < v.args.length
 refine go fun a he =>?_
 obtain ⟨q24,rfl,x25,hx26,cs27,hl28,ha29,hr30⟩:=h2.el hn6 h20
 obtain ⟨p33,c34,rfl,hi37,h32,hm35,hn36⟩:=RVal.fm hr30
 refine Alc fun b38 w hm a he =>?_
 refine Sto 0 fun w hm a he =>?_
 refine Reg [1,2,2,0,0,0,1,0] [0,2,3,4] fun w hm a he =>?_
 refine jF call61 (fun y39 w hG40 hm a he =>?_) (c:=ih _ (Val.lt_args (List.mem_of_getElem? hx26)) ((y2g hs).2 _ (List.mem_of_getElem? hx26)) hr30 hm)
 obtain ⟨Ψ41,d42⟩:=y39
 obtain ⟨le43,hr44⟩:=hG40
 simp only at le43 hr44 hm he
 replace rv:=RVal.mono _ _ _ _ le43 rv
 replace hch:=hch.mono fun _ _ h=>RVal.mono _ _ _ _ le43 h
 replace ha29:=ha29.mono le43
 replace hr30:=RVal.mono _ _ _ _ le43 hr30
 replace hm:=hm.nf
 obtain ⟨p47,c48,rfl,hi51,h46,hm49,hn50⟩:=RVal.fm hr44
 refine qW fun v52 w hm a he =>?_
 refine qL 2 kQ (fun v53 w hm a he =>?_) (hb:=by have h_:=hch.length;have h2_:=(y2g hs).1;have h3_:(v.args.take i).length≤v.args.length:=(by rw [List.length_take];omega);rw [h_];simp only [List.length_cons,List.length_nil];omega)
 refine Sto 3 fun w hm a he =>?_
 refine go fun a he =>?_
 replace hm:=hm.dl [1,0]
 refine hL17 _ _ _ (by subst hmu;omega) ⟨(Ψ41),(i+1),(v53),((cs++[.string x25.con,.int .i64 (x25.num),.slice p47 x25.args.length c48])),rfl,⟨he.pk,by exact hm⟩,?_⟩
 refine ⟨(le16).trans le43,?_⟩
 rw [z5d hx26];exact hch.snoc rfl hr44
 refine go fun a he =>?_
 rw [q3e h20] at hch
 have hm0_:=hm
 clear hm
 obtain ⟨Ψ56,le57,hm,hrow58⟩:=hm0_.freezeRow (i:=0) rfl
 clear hm0_
 replace rv:=RVal.mono _ _ _ _ le57 rv
 replace hch:=hch.mono fun _ _ h=>RVal.mono _ _ _ _ le57 h
 replace hm:=hm.nf
 have hsl59:SliceOf RVal Ψ56 3 _ (v.args):=⟨_,hrow58,hch⟩
 obtain ⟨p60,c61,hv_,hm62,hn63⟩:=hsl59.form (by decide)
 have hmk_:=hm
 clear hm
 subst hv_
 have hm:=hmk_
 clear hmk_
 refine Sto 1 fun w hm a he =>?_
 refine go fun a he =>?_
 have hmr:=hm
 replace hm:=hm.dl [2,1,0]
 refine jU (hm:=hmr) ?_
 exact ⟨(Ψ56,_),rfl,⟨(le16).trans le57,by obtain ⟨_,_,h_,_⟩:=RVal.iff.1 rv;exact RVal.iff.2 ⟨_,rfl,h_,hsl59⟩⟩,hm⟩
theorem own_ok {d:List Value} {v:Val} (hs:z5m v) (rv:RVal Φ d v) (hm:Mem Φ K w) :
  Calls prog 61 (List.toArray [.agg d.toArray]) w (fun ee w'=>∃yy:Fz×List Value,ee=.returned (.agg yy.2.toArray)∧(Φ.Le yy.1∧RVal yy.1 yy.2 v)∧Mem yy.1 K w'):=by
 suffices H:∀n (x:Val),x.sz < n→z5m x→∀{Φ:Fz} {K:List Res} {w:World} {d:List Value},RVal Φ d x→Mem Φ K w →
   Calls prog 61 (List.toArray [.agg d.toArray]) w (fun ee w'=>∃yy:Fz×List Value,ee=.returned (.agg yy.2.toArray)∧(Φ.Le yy.1∧RVal yy.1 yy.2 x)∧Mem yy.1 K w') from H _ v (Nat.lt_succ_self _) hs rv hm
 intro n
 induction n with
 | zero=>intro e h;omega
 | succ n ih=>intro x h hs Φ K w d rv hm;exact j9l (fun y hy h1 _ _ _ _ r m=>ih y (by omega) h1 r m) hs rv hm
end Go.Sw

namespace Go.Sw
open Go.Proofs.Tryz
open Go.Proofs
set_option maxRecDepth 20000
set_option maxHeartbeats 4000000
theorem z3w {T:Table} {inp:List (Bs×Val)} {g:Nat} (ih:∀g1,g1≤g→cI prog T inp g1):j4j prog T inp g:=by
 intro Φ K w p l env ov s mg bs fuel rpT rG rl rv hsh hll hg hfu hns hm
 obtain ⟨p1,c1,rfl,hm1,hn1⟩:=rl.fm
 refine zL func135 ntmps135 fun Q hQ a he =>?_
 refine Bx fun b2 w hm a he =>?_
 refine go fun a he =>?_
 replace hm:=hm.nilRow 58 3
 replace hm:=hm.nf
 refine go fun a he =>?_
 refine yF (he.ks [2,3,10,11]) hm (fun R mm a w=>∃(Ψ6:Fz) (i:Nat) (u:Value) (cs:List Value) (xs:List Val) (g1:Nat),mm=l.length - i∧R Ψ6 [(7,u),(12,.int .i64 ((i:Nat):Int))] [(0,.gs (u) 58 3 cs),(2,.blk bs (ob [.int .i64 ((fuel - g1:Nat):Int)] 3))] a w∧(Φ.Le Ψ6∧(Chunks (RVal Ψ6) 3 cs xs∧xs.length=i∧g1≤g∧xC (jJ ⟨T.funs,inp⟩) env l g=(xC (jJ ⟨T.funs,inp⟩) env (l.drop i) g1).bind fun vs g2=>.ok (xs++vs) g2))) (l.length - 0) ⟨Φ,0,.slice none 0 0,[],[],g,rfl,⟨he.pk,hm⟩,⟨Fz.Le.refl _,⟨rfl,rfl,Nat.le_refl _,q8r _⟩⟩⟩ ?_
 clear hm he
 rintro mm a w ⟨Ψ6,i,u,cs,xs,g1,hmu,⟨he,hm⟩,hI9⟩ L8 hL8
 replace hm:=hm.nf
 obtain ⟨le7,hI9⟩:=hI9
 replace rpT:=rpT.mono le7
 replace rG:=RGiven.mono le7 rG
 replace rl:=rl.up le7
 replace rv:=REnv.mono le7 rv
 obtain ⟨hch,hxl,hg1,hI_⟩:=hI9
 by_cases h11:i < l.length
 refine go fun a he =>?_
 obtain ⟨q15,rfl,x16,hx17,cs18,hl19,ha20,hr21⟩:=rl.el hn1 h11
 obtain ⟨p24,c25,p30,c31,rfl,hi34,h23,h29,hm26,hn27,hm32,hn33⟩:=REx.fm hr21
 refine Alc fun b35 w hm a he =>?_
 refine Sto 0 fun w hm a he =>?_
 refine go fun a he =>?_
 have hnx36:=hns
 rw [hI_,zA hx17] at hnx36
 replace hnx36:=jT (r:=jJ ⟨T.funs,inp⟩ g1 x16 env) (jT hnx36)
 replace hm:=hm.pl 3
 refine xW call95 (fun q37 y38 w hq39 hG40 hm a he =>?_) (fun q37 w hq39 hm =>?_) (c:=ih g1 (by omega) rpT rG hr21 rv (hsh _ (List.mem_of_getElem? hx17)) (by omega) (by omega) hnx36 hm)
 obtain ⟨z41,g42⟩:=q37
 obtain ⟨Ψ43,d44⟩:=y38
 obtain ⟨le45,hr46⟩:=hG40
 have hv47:=wJ hq39
 simp only at le45 hr46 hm he hv47
 have hlt48:=jB _ _ _ _ _ _ hv47
 replace rG:=RGiven.mono le45 rG
 replace rv:=REnv.mono le45 rv
 replace hch:=hch.mono fun _ _ h=>RVal.mono _ _ _ _ le45 h
 replace ha20:=ha20.mono le45
 replace hr21:=REx.mono _ _ _ _ le45 hr21
 replace hm:=hm.nf
 obtain ⟨p51,c52,rfl,hi55,h50,hm53,hn54⟩:=RVal.fm hr46
 refine qW fun v56 w hm a he =>?_
 refine qL 3 kQ (fun v57 w hm a he =>?_)
 refine go fun a he =>?_
 replace hm:=hm.ar [2,0] [2,2]
 refine hL8 _ _ _ (by subst hmu;omega) ⟨(Ψ43),(i+1),(v57),((cs++[.string z41.con,.int .i64 (z41.num),.slice p51 z41.args.length c52])),(xs++[z41]),(g42),rfl,⟨he.pk,by exact hm⟩,?_⟩
 refine ⟨(le7).trans le45,?_⟩
 refine ⟨hch.snoc rfl hr46,by simp [hxl],by omega,?_⟩
 rw [hI_,zA hx17]
 exact y7f hv47
 have hsp58:=vK hq39 hnx36
 replace hm:=hm.dl [3,2,1]
 exact mD (by rw [hI_,zA hx17];exact y7g hsp58) ⟨rfl,hm.le (le7)⟩
 refine go fun a he =>?_
 have hm0_:=hm
 clear hm
 obtain ⟨Ψ61,le62,hm,hrow63⟩:=hm0_.freezeRow (i:=0) rfl
 clear hm0_
 replace rG:=RGiven.mono le62 rG
 replace rv:=REnv.mono le62 rv
 replace hch:=hch.mono fun _ _ h=>RVal.mono _ _ _ _ le62 h
 replace hm:=hm.nf
 have hsl64:SliceOf RVal Ψ61 3 _ (xs):=⟨_,hrow63,hch⟩
 obtain ⟨p65,c66,hv_,hm67,hn68⟩:=hsl64.form (by decide)
 have hmk_:=hm
 clear hm
 subst hv_
 have hm:=hmk_
 clear hmk_
 refine zI ?_
 replace hm:=hm.dl [0]
 exact gQ (by rw [hI_,zE h11];exact q0j) ⟨(Ψ61,_),rfl,⟨(le7).trans le62,hsl64⟩,hm⟩
theorem z8p {T:Table} {inp:List (Bs×Val)} {g:Nat} (ih:cI prog T inp g):y9g prog T inp g:=by
 intro Φ K w p d f l s mg bs fuel rpT rG rf rs hpl hsb hg hfu hns hm
 obtain ⟨s1,b7,rfl,h2,h8⟩:=id rf
 obtain ⟨p3,c4,rfl,hm5,hn6⟩:=h2.fm
 obtain ⟨p11,c12,p17,c18,rfl,hi21,h10,h16,hm13,hn14,hm19,hn20⟩:=REx.fm h8
 obtain ⟨p2,c2,rfl,hm2,hn2⟩:=rs.fm
 obtain ⟨env1,hb1⟩:=q4a hns
 refine zL func58 ntmps58 fun Q hQ a he =>?_
 refine Bx fun b23 w hm a he =>?_
 refine Bx fun b24 w hm a he =>?_
 refine Alc fun b25 w hm a he =>?_
 refine go fun a he =>?_
 refine yF (he.ks [2,3,4,6,11,12]) hm (fun R mm a w=>∃(Ψ29:Fz) (i:Nat) (en:Env) (nv:Option Addr),mm=f.params.length - i∧R Ψ29 [(7,.pointer nv),(13,.int .i64 ((i:Nat):Int))] [] a w∧(Φ.Le Ψ29∧(REnv Ψ29 en nv∧kL (f.params.map Param.name) l []=kL ((f.params.map Param.name).drop i) (l.drop i) en))) (f.params.length - 0) ⟨Φ,0,[],none,rfl,⟨he.pk,hm⟩,⟨Fz.Le.refl _,⟨rfl,rfl⟩⟩⟩ ?_
 clear hm he
 rintro mm a w ⟨Ψ29,i,en,nv,hmu,⟨he,hm⟩,hI32⟩ L31 hL31
 obtain ⟨le30,hI32⟩:=hI32
 replace rpT:=rpT.mono le30
 replace rG:=RGiven.mono le30 rG
 replace h2:=h2.up le30
 replace h8:=REx.mono _ _ _ _ le30 h8
 replace rf:=RFun.mono _ _ _ _ le30 rf
 replace rs:=rs.up le30
 obtain ⟨rn,hI_⟩:=hI32
 by_cases h34:i < f.params.length
 have hil_:i < l.length:=z3p (env:=en) (env':=env1) (by rw [← hI_];exact hb1) (by simpa using h34)
 refine go fun a he =>?_
 obtain ⟨q38,rfl,x39,hx40,cs41,hl42,ha43,hr44⟩:=h2.el hn6 h34
 obtain rfl:=id hr44
 refine Alc fun b45 w hm a he =>?_
 refine Sto 0 fun w hm a he =>?_
 refine Reg [1,2,1,1,1,2,1,1,0,1] [0,1,2,3,4] fun w hm a he =>?_
 refine go fun a he =>?_
 obtain ⟨q46,rfl,x47,hx48,cs49,hl50,ha51,hr52⟩:=rs.el hn2 hil_
 obtain ⟨p55,c56,rfl,hi59,h54,hm57,hn58⟩:=RVal.fm hr52
 refine kK fun a he =>?_
 refine Bx fun b60 w hm a he =>?_
 have hm0_:=hm
 clear hm
 obtain ⟨Ψ61,le62,hm,hat63⟩:=hm0_.freezeBlk (i:=0) rfl
 clear hm0_
 replace rpT:=rpT.mono le62
 replace rG:=RGiven.mono le62 rG
 replace h8:=REx.mono _ _ _ _ le62 h8
 replace rf:=RFun.mono _ _ _ _ le62 rf
 replace rn:=REnv.mono le62 rn
 replace ha43:=ha43.mono le62
 replace hr44:=RParam.mono _ _ _ _ le62 hr44
 replace ha51:=ha51.mono le62
 replace hr52:=RVal.mono _ _ _ _ le62 hr52
 replace hm:=hm.nf
 have henv64:REnv Ψ61 ((x39.name,x47)::en) (some ⟨b60,0,none⟩):=⟨_,[.string x47.con,.int .i64 (x47.num),.slice p55 x47.args.length c56],_,rfl,hat63,rfl,hr52,rn⟩
 refine go fun a he =>?_
 replace hm:=hm.dl [0]
 refine hL31 _ _ _ (by subst hmu;omega) ⟨(Ψ61),(i+1),((x39.name,x47)::en),((some ⟨b60,0,none⟩)),rfl,⟨he.pk,by exact hm⟩,?_⟩
 refine ⟨(le30).trans le62,?_⟩
 refine ⟨henv64,?_⟩
 rw [hI_,zA (show (f.params.map Param.name)[i]? = some _ by rw [List.getElem?_map,hx40];rfl),zA hx48];rfl
 refine go fun a he =>?_
 have hst_:pI (jJ ⟨T.funs,inp⟩) f l g=jJ ⟨T.funs,inp⟩ g f.body en:=by
  have hi_:¬i < (f.params.map Param.name).length:=by simpa using h34
  unfold pI mJ
  rw [hI_,zE hi_];rfl
 have hns2_:=hns
 rw [hst_] at hns2_
 replace hm:=hm.pl 3
 refine xW call95 (fun q67 y68 w hq69 hG70 hm a he =>?_) (fun q67 w hq69 hm =>?_) (c:=ih rpT rG h8 rn hsb (by omega) (by omega) hns2_ hm)
 obtain ⟨z71,g72⟩:=q67
 obtain ⟨Ψ73,d74⟩:=y68
 obtain ⟨le75,hr76⟩:=hG70
 have hv77:=wJ hq69
 simp only at le75 hr76 hm he hv77
 have hlt78:=jB _ _ _ _ _ _ hv77
 replace rG:=RGiven.mono le75 rG
 replace h8:=REx.mono _ _ _ _ le75 h8
 replace rf:=RFun.mono _ _ _ _ le75 rf
 replace rn:=REnv.mono le75 rn
 replace hm:=hm.nf
 obtain ⟨p81,c82,rfl,hi85,h80,hm83,hn84⟩:=RVal.fm hr76
 refine Sto 1 fun w hm a he =>?_
 refine go fun a he =>?_
 have hmr:=hm
 replace hm:=hm.dl [3,2,1]
 refine jU (hm:=hmr) ?_
 exact gQ (by rw [hst_];exact hv77) ⟨(Ψ73,_),rfl,⟨(le30).trans le75,hr76⟩,hm⟩
 have hsp86:=vK hq69 hns2_
 replace hm:=hm.dl [3,2,1]
 exact mD (by rw [hst_];exact hsp86) ⟨rfl,hm.le (le30)⟩
end Go.Sw

namespace Go.Sw
open Go.Proofs.Tryz
open Go.Proofs
set_option maxRecDepth 20000
set_option maxHeartbeats 4000000
theorem j1a {T:Table} {inp:List (Bs×Val)}:cI prog T inp 0:=by
 intro Φ K w p d e env ov mg bs fuel rpT rG re rv hsh hg hfu hns hm
 obtain ⟨cs17,m1,m2,m3,m4,d5,d6,d7,d8,hat18,hcl19,hcore20,ma9,mr13,ma10,mr14,ma11,mr15,ma12,mr16⟩:=rpT.ex
 obtain ⟨p23,c24,p29,c30,p35,c36,p41,c42,rfl,h22,h28,h34,h40,hm25,hn26,hm31,hn32,hm37,hn38,hm43,hn44⟩:=RCore.fm hcore20
 obtain ⟨p47,c48,p53,c54,rfl,hi57,h46,h52,hm49,hn50,hm55,hn56⟩:=REx.fm re
 refine zL func95 ntmps95 fun Q hQ a he =>?_
 refine Bx fun b59 w hm a he =>?_
 refine Bx fun b60 w hm a he =>?_
 refine Alc fun b61 w hm a he =>?_
 refine Sto 3 fun w hm a he =>?_
 refine Reg [1,2,1,2,1,2,1] [0,1,2,3] fun w hm a he =>?_
 have hk_:fuel < fuel+1:=by omega
 refine yJ fun a he =>?_
 refine Qq (fun a he =>?_) (o:=by exact fun he hs=>qD he rfl runUnderlying160 (by intro ms h;cases h))
 refine st0 he rfl rfl (vD he rfl (vF _) (fun a hd=>hQ _ _ _ (yQ hd ?_)))
 replace hm:=hm.dl [2,1,0]
 exact mD (z0j _ _ _) ⟨rfl,hm⟩
theorem j0z {T:Table} {inp:List (Bs×Val)} {g:Nat} (hF:z3o T) (ih:∀g1,g1≤g→cI prog T inp g1):cI prog T inp (g+1):=by
 intro Φ K w p d e env ov mg bs fuel rpT rG re rv hsh hg hfu hns hm
 rw [yR] at hns
 obtain ⟨cs17,m1,m2,m3,m4,d5,d6,d7,d8,hat18,hcl19,hcore20,ma9,mr13,ma10,mr14,ma11,mr15,ma12,mr16⟩:=rpT.ex
 obtain ⟨p23,c24,p29,c30,p35,c36,p41,c42,rfl,h22,h28,h34,h40,hm25,hn26,hm31,hn32,hm37,hn38,hm43,hn44⟩:=RCore.fm hcore20
 obtain ⟨p47,c48,p53,c54,rfl,hi57,h46,h52,hm49,hn50,hm55,hn56⟩:=REx.fm re
 refine zL func95 ntmps95 fun Q hQ a he =>?_
 refine Bx fun b59 w hm a he =>?_
 refine Bx fun b60 w hm a he =>?_
 refine Alc fun b61 w hm a he =>?_
 refine Sto 3 fun w hm a he =>?_
 rw [show fuel - (g+1)+1=fuel - g by omega] at hm
 refine Reg [1,2,1,2,1,2,1] [0,1,2,3] fun w hm a he =>?_
 have hk_:¬fuel < fuel - g:=by omega
 by_cases h68:e.kind=1
 refine yJ fun a he =>?_
 refine Sto 0 fun w hm a he =>?_
 refine go fun a he =>?_
 have hmr:=hm
 replace hm:=hm.dl [2,1,0]
 refine jU (hm:=hmr) ?_
 exact gQ ((yR _ _ _ _).trans (x1b h68)) ⟨(Φ,_),rfl,⟨Fz.Le.refl _,RVal.iff.2 ⟨_,rfl,(by obtain ⟨_,_,_,h_,_⟩:=REx.iff.1 re;exact h_),SliceOf.nil 3⟩⟩,hm⟩
 by_cases h71:e.kind=2
 refine go fun a he =>?_
 refine yF (he.ks [4,6]) hm (fun R mm a w=>∃(en:Env) (nv:Option Addr),mm=en.length∧R Φ [(2,.pointer nv)] [] a w∧(REnv Φ en nv∧zH env e.name=zH en e.name)) (env.length) ⟨env,ov,rfl,⟨he.pk,hm⟩,⟨rv,rfl⟩⟩ ?_
 clear hm he
 rintro mm a w ⟨en,nv,hmu,⟨he,hm⟩,hI73⟩ L72 hL72
 obtain ⟨rn,hI_⟩:=hI73
 refine go fun a he =>?_
 obtain _ | ⟨⟨n76,x77⟩,en78⟩:=en
 obtain rfl:=rn
 refine Qq (fun a he =>?_) (o:=by exact fun he hs=>q5r rfl he rfl rfl (fun _=>by kernel_rfl))
 refine yJ fun a he =>?_
 refine Sto 0 fun w hm a he =>?_
 refine go fun a he =>?_
 have hmr:=hm
 replace hm:=hm.dl [2,1,0]
 refine jU (hm:=hmr) ?_
 exact gQ (((yR _ _ _ _).trans (q3b h71)).trans (show Ev.ok ((zH env e.name).getD v0) g=.ok v0 g by rw [hI_];rfl)) ⟨(Φ,_),rfl,⟨Fz.Le.refl _,RVal.iff.2 ⟨_,rfl,(show I64 0 from ⟨by decide,by decide⟩),SliceOf.nil 3⟩⟩,hm⟩
 obtain ⟨p79,c80,nx81,rfl,ha82,hl83,hr84,hre85⟩:=rn
 obtain ⟨p89,c90,rfl,hi93,h88,hm91,hn92⟩:=RVal.fm hr84
 refine Qq (fun a he =>?_) (o:=by exact fun he hs=>q5s rfl he rfl rfl (fun _=>by kernel_rfl))
 refine Reg [1,1,1,2,1,2,1] [0,1,2,3] fun w hm a he =>?_
 by_cases h96:n76=e.name
 refine Qq (fun a he =>?_) (o:=by exact fun he hs=>sO 1 (vs:=[.string x77.con,.int .i64 (x77.num),.slice p89 x77.args.length c90]) he hs rfl ha82 isAgg58 sizeOf58 rfl rfl)
 refine Sto 0 fun w hm a he =>?_
 refine go fun a he =>?_
 have hmr:=hm
 replace hm:=hm.dl [2,1,0]
 refine jU (hm:=hmr) ?_
 exact gQ (((yR _ _ _ _).trans (q3b h71)).trans (by rw [hI_];simp only [zH,if_pos h96.symm,Option.getD_some])) ⟨(Φ,_),rfl,⟨Fz.Le.refl _,hr84⟩,hm⟩
 refine go fun a he =>?_
 refine hL72 (en78.length) _ _ (by subst hmu;simp only [List.length_cons];omega) ⟨(en78),(nx81),rfl,⟨he.pk,hm⟩,?_⟩
 refine ⟨hre85,?_⟩
 rw [hI_];simp only [zH,if_neg (Ne.symm h96)]
 by_cases h99:e.kind=3
 refine go fun a he =>?_
 refine st he rfl rfl rfl (j0y rG runUnderlying100 runUnderlying9 zeroValue58 he hm.toSees rfl rfl (fun cs101 hr102 a he =>?_))
 obtain ⟨p105,c106,rfl,hi109,h104,hm107,hn108⟩:=RVal.fm hr102
 refine Sto 0 fun w hm a he =>?_
 refine go fun a he =>?_
 have hmr:=hm
 replace hm:=hm.dl [2,1,0]
 refine jU (hm:=hmr) ?_
 exact gQ ((yR _ _ _ _).trans (x1a h99)) ⟨(Φ,_),rfl,⟨Fz.Le.refl _,hr102⟩,hm⟩
 refine go fun a he =>?_
 by_cases h111:e.kind=4
 refine Reg [1,2,2,1,2,1,0,1,0] [0,1,2] fun w hm a he =>?_
 refine go fun a he =>?_
 have hns113:=hns
 rw [y2j h111] at hns113
 replace hm:=hm.pl 3
 refine xW call135 (fun q114 y115 w hq116 hG117 hm a he =>?_) (fun q114 w hq116 hm =>?_) (c:=z3w (fun g1_ h_=>ih g1_ (by omega)) rpT rG h46 rv (xT hsh).2.1 (xT hsh).1 (by omega) (by omega) (jT hns113) hm)
 obtain ⟨z118,g119⟩:=q114
 obtain ⟨Ψ120,d121⟩:=y115
 obtain ⟨le122,hr123⟩:=hG117
 have hv124:=wJ hq116
 simp only at le122 hr123 hm he hv124
 have hlt125:=y7h hv124
 replace rpT:=rpT.mono le122
 replace rG:=RGiven.mono le122 rG
 replace re:=REx.mono _ _ _ _ le122 re
 replace rv:=REnv.mono le122 rv
 replace hat18:=hat18.mono le122
 replace ma11:=ma11.mono le122
 replace mr15:=mr15.up le122
 replace h46:=h46.up le122
 replace h52:=h52.up le122
 replace hm:=hm.nf
 obtain ⟨p126,c127,rfl,hmx128,hnx129⟩:=hr123.fm
 have hns130:=y1c hns113 hv124
 refine yJ fun a he =>?_
 refine Sto 1 fun w hm a he =>?_
 refine go fun a he =>?_
 have hmr:=hm
 replace hm:=hm.dl [3,2,1]
 refine jU (hm:=hmr) ?_
 exact gQ (((yR _ _ _ _).trans (y2j h111)).trans (mA hv124)) ⟨(Ψ120,_),rfl,⟨le122,RVal.iff.2 ⟨_,rfl,(show I64 0 from ⟨by decide,by decide⟩),hr123⟩⟩,hm⟩
 have hsp131:=vK hq116 (jT hns113)
 replace hm:=hm.dl [3,2,1]
 exact mD (((yR _ _ _ _).trans (y2j h111)).trans (mC hsp131)) ⟨rfl,hm.le (Fz.Le.refl _)⟩
 by_cases h133:e.kind=5
 refine Reg [2,1,2,1,1,2,1,2,2,2,1,2,1,0,0,0] [0,1,2] fun w hm a he =>?_
 refine go fun a he =>?_
 rcases hf135:yA (d7) e.name with _ | vf136
 exact absurd (q7i h133 (MapRel.none mr15 hf135)) hns
 obtain ⟨y137,hy138,cs139,rfl,hr140⟩:=mr15.get hf135
 obtain ⟨s141,b147,rfl,h142,h148⟩:=id hr140
 obtain ⟨p143,c144,rfl,hm145,hn146⟩:=h142.fm
 obtain ⟨p151,c152,p157,c158,rfl,hi161,h150,h156,hm153,hn154,hm159,hn160⟩:=REx.fm h148
 have hf135_:=congrArg (zF false (.agg (List.toArray [.string ⟨#[]⟩,.slice none 0 0,.string ⟨#[]⟩,.int .i64 ((0:Nat):Int),.int .i64 ((0:Nat):Int),.string ⟨#[]⟩,.slice none 0 0,.slice none 0 0]))) hf135
 refine Qq (fun a he =>?_) (o:=by exact fun he hs=>Ok.cast (yD runUnderlying115 runUnderlying9 zeroValue112 he hs rfl rfl ma11) (show zF false (.agg (List.toArray [.string ⟨#[]⟩,.slice none 0 0,.string ⟨#[]⟩,.int .i64 ((0:Nat):Int),.int .i64 ((0:Nat):Int),.string ⟨#[]⟩,.slice none 0 0,.slice none 0 0])) (yA (d7) e.name)=.agg (List.toArray [.string y137.name,.slice p143 y137.params.length c144,.string y137.result,.int .i64 (y137.body.kind),.int .i64 (y137.body.num),.string y137.body.name,.slice p151 y137.body.args.length c152,.slice p157 y137.body.arms.length c158]) from hf135_))
 refine go fun a he =>?_
 have hns162:=hns
 rw [uT h133 hy138] at hns162
 replace hm:=hm.pl 3
 refine xW call135 (fun q163 y164 w hq165 hG166 hm a he =>?_) (fun q163 w hq165 hm =>?_) (c:=z3w (fun g1_ h_=>ih g1_ (by omega)) rpT rG h46 rv (xT hsh).2.1 (xT hsh).1 (by omega) (by omega) (jT hns162) hm)
 obtain ⟨z167,g168⟩:=q163
 obtain ⟨Ψ169,d170⟩:=y164
 obtain ⟨le171,hr172⟩:=hG166
 have hv173:=wJ hq165
 simp only at le171 hr172 hm he hv173
 have hlt174:=y7h hv173
 replace rpT:=rpT.mono le171
 replace rG:=RGiven.mono le171 rG
 replace re:=REx.mono _ _ _ _ le171 re
 replace rv:=REnv.mono le171 rv
 replace hat18:=hat18.mono le171
 replace h46:=h46.up le171
 replace h52:=h52.up le171
 replace hr140:=RFun.mono _ _ _ _ le171 hr140
 replace h148:=REx.mono _ _ _ _ le171 h148
 replace hm:=hm.nf
 obtain ⟨p175,c176,rfl,hmx177,hnx178⟩:=hr172.fm
 have hns179:=y1c hns162 hv173
 refine xW call58 (fun q180 y181 w hq182 hG183 hm a he =>?_) (fun q180 w hq182 hm =>?_) (c:=z8p (ih g168 (by omega)) rpT rG hr140 hr172 (hF _ _ hy138).1 (hF _ _ hy138).2 (by omega) (by omega) hns179 hm)
 obtain ⟨z184,g185⟩:=q180
 obtain ⟨Ψ186,d187⟩:=y181
 obtain ⟨le188,hr189⟩:=hG183
 have hv190:=wJ hq182
 simp only at le188 hr189 hm he hv190
 have hlt191:=z1p hv190
 replace rpT:=rpT.mono le188
 replace rG:=RGiven.mono le188 rG
 replace re:=REx.mono _ _ _ _ le188 re
 replace rv:=REnv.mono le188 rv
 replace hat18:=hat18.mono le188
 replace h46:=h46.up le188
 replace h52:=h52.up le188
 replace hr140:=RFun.mono _ _ _ _ le188 hr140
 replace h148:=REx.mono _ _ _ _ le188 h148
 replace hm:=hm.nf
 obtain ⟨p194,c195,rfl,hi198,h193,hm196,hn197⟩:=RVal.fm hr189
 refine Sto 1 fun w hm a he =>?_
 refine go fun a he =>?_
 have hmr:=hm
 replace hm:=hm.dl [3,2,1]
 refine jU (hm:=hmr) ?_
 exact gQ ((((yR _ _ _ _).trans (uT h133 hy138)).trans (mA hv173)).trans hv190) ⟨(Ψ186,_),rfl,⟨(le171).trans le188,hr189⟩,hm⟩
 have hsp199:=vK hq182 hns179
 replace hm:=hm.dl [3,2,1]
 exact mD ((((yR _ _ _ _).trans (uT h133 hy138)).trans (mA hv173)).trans hsp199) ⟨rfl,hm.le (le171)⟩
 have hsp200:=vK hq165 (jT hns162)
 replace hm:=hm.dl [3,2,1]
 exact mD (((yR _ _ _ _).trans (uT h133 hy138)).trans (mC hsp200)) ⟨rfl,hm.le (Fz.Le.refl _)⟩
 by_cases h202:e.kind=6
 refine go fun a he =>?_
 refine qB [2,1,2,1,2,1,0,0,0] (.q 0 (.q 1 (.q 2 (.q 3 (.q 4 (.q 5 (.e2 6 7 (.e 7 (.e 8 (.done))) (.e 6 (.e 8 (.done)))))))))) [0,1,2] he hm fun w hm =>?_
 have hq2_:=j3t h202 hns
 have hq0_:0 < e.args.length:=by omega
 have hq1_:1 < e.args.length:=by omega
 obtain ⟨bb_,hbb_⟩:=zX hq1_
 refine go fun a he =>?_
 obtain ⟨q204,rfl,x205,hx206,cs207,hl208,ha209,hr210⟩:=h46.el hn50 hq0_
 obtain ⟨p213,c214,p219,c220,rfl,hi223,h212,h218,hm215,hn216,hm221,hn222⟩:=REx.fm hr210
 refine go fun a he =>?_
 refine vQ ?_ ?_
 have hns224:=hns
 rw [aE h202 hx206 hbb_] at hns224
 replace hm:=hm.pl 3
 refine xW call95 (fun q225 y226 w hq227 hG228 hm a he =>?_) (fun q225 w hq227 hm =>?_) (c:=ih g (by omega) rpT rG hr210 rv ((xT hsh).2.1 _ (List.mem_of_getElem? hx206)) (by omega) (by omega) (jT hns224) hm)
 obtain ⟨z229,g230⟩:=q225
 obtain ⟨Ψ231,d232⟩:=y226
 obtain ⟨le233,hr234⟩:=hG228
 have hv235:=wJ hq227
 simp only at le233 hr234 hm he hv235
 have hlt236:=jB _ _ _ _ _ _ hv235
 replace rpT:=rpT.mono le233
 replace rG:=RGiven.mono le233 rG
 replace re:=REx.mono _ _ _ _ le233 re
 replace rv:=REnv.mono le233 rv
 replace hat18:=hat18.mono le233
 replace h46:=h46.up le233
 replace h52:=h52.up le233
 replace ha209:=ha209.mono le233
 replace hr210:=REx.mono _ _ _ _ le233 hr210
 replace hm:=hm.nf
 obtain ⟨p239,c240,rfl,hi243,h238,hm241,hn242⟩:=RVal.fm hr234
 have hns244:=y1c hns224 hv235
 refine Alc fun b245 w hm a he =>?_
 refine Sto 0 fun w hm a he =>?_
 refine Reg [2,1,2,1,2,1,2,2,1,1,0,0,0] [0,2,3,4] fun w hm a he =>?_
 refine go fun a he =>?_
 obtain ⟨x247,hx248⟩:=zX hq1_
 obtain ⟨cs249,hl250,ha251,hr252⟩:=h46.elem hx248
 obtain ⟨p255,c256,p261,c262,rfl,hi265,h254,h260,hm257,hn258,hm263,hn264⟩:=REx.fm hr252
 refine kK fun a he =>?_
 refine Bx fun b266 w hm a he =>?_
 have hm0_:=hm
 clear hm
 obtain ⟨Ψ267,le268,hm,hat269⟩:=hm0_.freezeBlk (i:=0) rfl
 clear hm0_
 replace rpT:=rpT.mono le268
 replace rG:=RGiven.mono le268 rG
 replace re:=REx.mono _ _ _ _ le268 re
 replace rv:=REnv.mono le268 rv
 replace hat18:=hat18.mono le268
 replace h46:=h46.up le268
 replace h52:=h52.up le268
 replace ha209:=ha209.mono le268
 replace hr210:=REx.mono _ _ _ _ le268 hr210
 replace hr234:=RVal.mono _ _ _ _ le268 hr234
 replace ha251:=ha251.mono le268
 replace hr252:=REx.mono _ _ _ _ le268 hr252
 replace hm:=hm.nf
 have henv270:REnv Ψ267 ((e.name,z229)::env) (some ⟨b266,0,none⟩):=⟨_,[.string z229.con,.int .i64 (z229.num),.slice p239 z229.args.length c240],_,rfl,hat269,rfl,hr234,rv⟩
 obtain rfl:bb_=x247:=Option.some.inj (hbb_.symm.trans hx248)
 replace hm:=hm.pl 1
 refine xW call95 (fun q271 y272 w hq273 hG274 hm a he =>?_) (fun q271 w hq273 hm =>?_) (c:=ih g230 (by omega) rpT rG hr252 henv270 ((xT hsh).2.1 _ (List.mem_of_getElem? hx248)) (by omega) (by omega) hns244 hm)
 obtain ⟨z275,g276⟩:=q271
 obtain ⟨Ψ277,d278⟩:=y272
 obtain ⟨le279,hr280⟩:=hG274
 have hv281:=wJ hq273
 simp only at le279 hr280 hm he hv281
 have hlt282:=jB _ _ _ _ _ _ hv281
 replace rpT:=rpT.mono le279
 replace rG:=RGiven.mono le279 rG
 replace re:=REx.mono _ _ _ _ le279 re
 replace rv:=REnv.mono le279 rv
 replace hat18:=hat18.mono le279
 replace h46:=h46.up le279
 replace h52:=h52.up le279
 replace ha209:=ha209.mono le279
 replace hr210:=REx.mono _ _ _ _ le279 hr210
 replace hr234:=RVal.mono _ _ _ _ le279 hr234
 replace ha251:=ha251.mono le279
 replace hr252:=REx.mono _ _ _ _ le279 hr252
 replace henv270:=REnv.mono le279 henv270
 replace hm:=hm.nf
 obtain ⟨p285,c286,rfl,hi289,h284,hm287,hn288⟩:=RVal.fm hr280
 refine Sto 2 fun w hm a he =>?_
 refine go fun a he =>?_
 have hmr:=hm
 replace hm:=hm.dl [4,3,2,1]
 refine jU (hm:=hmr) ?_
 exact gQ ((((yR _ _ _ _).trans (aE h202 hx206 hbb_)).trans (mA hv235)).trans hv281) ⟨(Ψ277,_),rfl,⟨((le233).trans le268).trans le279,hr280⟩,hm⟩
 have hsp290:=vK hq273 hns244
 replace hm:=hm.dl [4,3,2,1]
 exact mD ((((yR _ _ _ _).trans (aE h202 hx206 hbb_)).trans (mA hv235)).trans hsp290) ⟨rfl,hm.le ((le233).trans le268)⟩
 have hsp291:=vK hq227 (jT hns224)
 replace hm:=hm.dl [3,2,1]
 exact mD (((yR _ _ _ _).trans (aE h202 hx206 hbb_)).trans (mC hsp291)) ⟨rfl,hm.le (Fz.Le.refl _)⟩
 refine Alc fun b292 w hm a he =>?_
 have hns293:=hns
 rw [aE h202 hx206 hbb_] at hns293
 replace hm:=hm.pl 4
 refine xW call95 (fun q294 y295 w hq296 hG297 hm a he =>?_) (fun q294 w hq296 hm =>?_) (c:=ih g (by omega) rpT rG hr210 rv ((xT hsh).2.1 _ (List.mem_of_getElem? hx206)) (by omega) (by omega) (jT hns293) hm)
 obtain ⟨z298,g299⟩:=q294
 obtain ⟨Ψ300,d301⟩:=y295
 obtain ⟨le302,hr303⟩:=hG297
 have hv304:=wJ hq296
 simp only at le302 hr303 hm he hv304
 have hlt305:=jB _ _ _ _ _ _ hv304
 replace rpT:=rpT.mono le302
 replace rG:=RGiven.mono le302 rG
 replace re:=REx.mono _ _ _ _ le302 re
 replace rv:=REnv.mono le302 rv
 replace hat18:=hat18.mono le302
 replace h46:=h46.up le302
 replace h52:=h52.up le302
 replace ha209:=ha209.mono le302
 replace hr210:=REx.mono _ _ _ _ le302 hr210
 replace hm:=hm.nf
 obtain ⟨p308,c309,rfl,hi312,h307,hm310,hn311⟩:=RVal.fm hr303
 have hns313:=y1c hns293 hv304
 refine Sto 1 fun w hm a he =>?_
 refine Reg [2,1,2,1,2,1,2,2,1,1,0,0,0] [1,2,3,4] fun w hm a he =>?_
 refine go fun a he =>?_
 obtain ⟨x315,hx316⟩:=zX hq1_
 obtain ⟨cs317,hl318,ha319,hr320⟩:=h46.elem hx316
 obtain ⟨p323,c324,p329,c330,rfl,hi333,h322,h328,hm325,hn326,hm331,hn332⟩:=REx.fm hr320
 refine kK fun a he =>?_
 refine Bx fun b334 w hm a he =>?_
 have hm0_:=hm
 clear hm
 obtain ⟨Ψ335,le336,hm,hat337⟩:=hm0_.freezeBlk (i:=0) rfl
 clear hm0_
 replace rpT:=rpT.mono le336
 replace rG:=RGiven.mono le336 rG
 replace re:=REx.mono _ _ _ _ le336 re
 replace rv:=REnv.mono le336 rv
 replace hat18:=hat18.mono le336
 replace h46:=h46.up le336
 replace h52:=h52.up le336
 replace ha209:=ha209.mono le336
 replace hr210:=REx.mono _ _ _ _ le336 hr210
 replace hr303:=RVal.mono _ _ _ _ le336 hr303
 replace ha319:=ha319.mono le336
 replace hr320:=REx.mono _ _ _ _ le336 hr320
 replace hm:=hm.nf
 have henv338:REnv Ψ335 ((e.name,z298)::env) (some ⟨b334,0,none⟩):=⟨_,[.string z298.con,.int .i64 (z298.num),.slice p308 z298.args.length c309],_,rfl,hat337,rfl,hr303,rv⟩
 obtain rfl:bb_=x315:=Option.some.inj (hbb_.symm.trans hx316)
 refine xW call95 (fun q339 y340 w hq341 hG342 hm a he =>?_) (fun q339 w hq341 hm =>?_) (c:=ih g299 (by omega) rpT rG hr320 henv338 ((xT hsh).2.1 _ (List.mem_of_getElem? hx316)) (by omega) (by omega) hns313 hm)
 obtain ⟨z343,g344⟩:=q339
 obtain ⟨Ψ345,d346⟩:=y340
 obtain ⟨le347,hr348⟩:=hG342
 have hv349:=wJ hq341
 simp only at le347 hr348 hm he hv349
 have hlt350:=jB _ _ _ _ _ _ hv349
 replace rpT:=rpT.mono le347
 replace rG:=RGiven.mono le347 rG
 replace re:=REx.mono _ _ _ _ le347 re
 replace rv:=REnv.mono le347 rv
 replace hat18:=hat18.mono le347
 replace h46:=h46.up le347
 replace h52:=h52.up le347
 replace ha209:=ha209.mono le347
 replace hr210:=REx.mono _ _ _ _ le347 hr210
 replace hr303:=RVal.mono _ _ _ _ le347 hr303
 replace ha319:=ha319.mono le347
 replace hr320:=REx.mono _ _ _ _ le347 hr320
 replace henv338:=REnv.mono le347 henv338
 replace hm:=hm.nf
 obtain ⟨p353,c354,rfl,hi357,h352,hm355,hn356⟩:=RVal.fm hr348
 refine Sto 2 fun w hm a he =>?_
 refine go fun a he =>?_
 have hmr:=hm
 replace hm:=hm.dl [4,3,2,1]
 refine jU (hm:=hmr) ?_
 exact gQ ((((yR _ _ _ _).trans (aE h202 hx206 hbb_)).trans (mA hv304)).trans hv349) ⟨(Ψ345,_),rfl,⟨((le302).trans le336).trans le347,hr348⟩,hm⟩
 have hsp358:=vK hq341 hns313
 replace hm:=hm.dl [4,3,2,1]
 exact mD ((((yR _ _ _ _).trans (aE h202 hx206 hbb_)).trans (mA hv304)).trans hsp358) ⟨rfl,hm.le ((le302).trans le336)⟩
 have hsp359:=vK hq296 (jT hns293)
 replace hm:=hm.dl [4,3,2,1]
 exact mD (((yR _ _ _ _).trans (aE h202 hx206 hbb_)).trans (mC hsp359)) ⟨rfl,hm.le (Fz.Le.refl _)⟩
 by_cases h361:e.kind=7
 refine go fun a he =>?_
 refine qB [2,1,2,1,2,1,0,0,0] (.q 0 (.q 1 (.q 2 (.q 3 (.q 4 (.q 5 (.e2 6 7 (.e 7 (.e 8 (.done))) (.e 6 (.e 8 (.done)))))))))) [0,1,2] he hm fun w hm =>?_
 have hq2_:=q7h h361 hns
 have hq0_:0 < e.args.length:=by omega
 refine go fun a he =>?_
 obtain ⟨q363,rfl,x364,hx365,cs366,hl367,ha368,hr369⟩:=h46.el hn50 hq0_
 obtain ⟨p372,c373,p378,c379,rfl,hi382,h371,h377,hm374,hn375,hm380,hn381⟩:=REx.fm hr369
 refine go fun a he =>?_
 refine vQ ?_ ?_
 have hns383:=hns
 rw [mP h361 hx365] at hns383
 replace hm:=hm.pl 3
 refine xW call95 (fun q384 y385 w hq386 hG387 hm a he =>?_) (fun q384 w hq386 hm =>?_) (c:=ih g (by omega) rpT rG hr369 rv ((xT hsh).2.1 _ (List.mem_of_getElem? hx365)) (by omega) (by omega) (jT hns383) hm)
 obtain ⟨z388,g389⟩:=q384
 obtain ⟨Ψ390,d391⟩:=y385
 obtain ⟨le392,hr393⟩:=hG387
 have hv394:=wJ hq386
 simp only at le392 hr393 hm he hv394
 have hlt395:=jB _ _ _ _ _ _ hv394
 replace rpT:=rpT.mono le392
 replace rG:=RGiven.mono le392 rG
 replace re:=REx.mono _ _ _ _ le392 re
 replace rv:=REnv.mono le392 rv
 replace hat18:=hat18.mono le392
 replace h46:=h46.up le392
 replace h52:=h52.up le392
 replace ha368:=ha368.mono le392
 replace hr369:=REx.mono _ _ _ _ le392 hr369
 replace hm:=hm.nf
 obtain ⟨p398,c399,rfl,hi402,h397,hm400,hn401⟩:=RVal.fm hr393
 have hns403:=y1c hns383 hv394
 refine Alc fun b404 w hm a he =>?_
 refine Sto 0 fun w hm a he =>?_
 refine go fun a he =>?_
 refine yF (he.ks [2,3,6,8,120,121]) hm (fun R mm a w=>∃(i:Nat),mm=e.arms.length - i∧R Ψ390 [(122,.int .i64 ((i:Nat):Int))] [] a w∧(xQ e.arms z388.con=xQ (e.arms.drop i) z388.con)) (e.arms.length - 0) ⟨0,rfl,⟨he.pk,hm⟩,rfl⟩ ?_
 clear hm he
 rintro mm a w ⟨i,hmu,⟨he,hm⟩,hI407⟩ L406 hL406
 by_cases h409:i < e.arms.length
 refine go fun a he =>?_
 obtain ⟨q413,rfl,x414,hx415,cs416,hl417,ha418,hr419⟩:=h52.el hn56 h409
 obtain ⟨s420,b426,rfl,h421,h427⟩:=RArm.iff.1 hr419
 obtain ⟨p422,c423,rfl,hm424,hn425⟩:=h421.fm
 obtain ⟨p430,c431,p436,c437,rfl,hi440,h429,h435,hm432,hn433,hm438,hn439⟩:=REx.fm h427
 refine Alc fun b441 w hm a he =>?_
 refine Sto 0 fun w hm a he =>?_
 by_cases h444:x414.con=z388.con
 refine go fun a he =>?_
 have hfa_:xQ e.arms z388.con=some x414:=by
  rw [hI407,zA hx415];simp [xQ,h444]
 have hns447:=hns403
 rw [nN hfa_] at hns447
 obtain ⟨env1_,hb1_⟩:=z8o hns447
 refine go fun a he =>?_
 refine yF (he.ks [3,6,8,10,132,133]) hm (fun R mm a w=>∃(Ψ448:Fz) (k:Nat) (en:Env) (nv:Option Addr),mm=x414.vars.length - k∧R Ψ448 [(2,.pointer nv),(134,.int .i64 ((k:Nat):Int))] [] a w∧(Ψ390.Le Ψ448∧(REnv Ψ448 en nv∧kL x414.vars z388.args env=kL (x414.vars.drop k) (z388.args.drop k) en))) (x414.vars.length - 0) ⟨Ψ390,0,env,ov,rfl,⟨he.pk,hm⟩,⟨Fz.Le.refl _,⟨rv,rfl⟩⟩⟩ ?_
 clear hm he
 rintro mm a w ⟨Ψ448,k,en,nv,hmu,⟨he,hm⟩,hI451⟩ L450 hL450
 obtain ⟨le449,hI451⟩:=hI451
 replace rpT:=rpT.mono le449
 replace rG:=RGiven.mono le449 rG
 replace re:=REx.mono _ _ _ _ le449 re
 replace rv:=REnv.mono le449 rv
 replace hat18:=hat18.mono le449
 replace h46:=h46.up le449
 replace h52:=h52.up le449
 replace ha368:=ha368.mono le449
 replace hr369:=REx.mono _ _ _ _ le449 hr369
 replace h397:=h397.up le449
 replace hr393:=RVal.mono _ _ _ _ le449 hr393
 replace ha418:=ha418.mono le449
 replace hr419:=RArm.mono _ _ _ _ le449 hr419
 replace h421:=h421.up le449
 replace h427:=REx.mono _ _ _ _ le449 h427
 obtain ⟨rn,hI_⟩:=hI451
 by_cases h453:k < x414.vars.length
 have hil_:k < z388.args.length:=z3p (env:=en) (env':=env1_) (by rw [← hI_];exact hb1_) h453
 refine go fun a he =>?_
 obtain ⟨q457,rfl,x458,hx459,cs460,hl461,ha462,hr463⟩:=h421.el hn425 h453
 obtain rfl:cs460=[.string x458]:=hr463
 refine go fun a he =>?_
 obtain ⟨q464,rfl,x465,hx466,cs467,hl468,ha469,hr470⟩:=h397.el hn401 hil_
 obtain ⟨p473,c474,rfl,hi477,h472,hm475,hn476⟩:=RVal.fm hr470
 refine kK fun a he =>?_
 refine Bx fun b478 w hm a he =>?_
 have hm0_:=hm
 clear hm
 obtain ⟨Ψ479,le480,hm,hat481⟩:=hm0_.freezeBlk (i:=0) rfl
 clear hm0_
 replace rpT:=rpT.mono le480
 replace rG:=RGiven.mono le480 rG
 replace re:=REx.mono _ _ _ _ le480 re
 replace rv:=REnv.mono le480 rv
 replace hat18:=hat18.mono le480
 replace h46:=h46.up le480
 replace h52:=h52.up le480
 replace ha368:=ha368.mono le480
 replace hr369:=REx.mono _ _ _ _ le480 hr369
 replace hr393:=RVal.mono _ _ _ _ le480 hr393
 replace ha418:=ha418.mono le480
 replace hr419:=RArm.mono _ _ _ _ le480 hr419
 replace h427:=REx.mono _ _ _ _ le480 h427
 replace rn:=REnv.mono le480 rn
 replace ha462:=ha462.mono le480
 replace ha469:=ha469.mono le480
 replace hr470:=RVal.mono _ _ _ _ le480 hr470
 replace hm:=hm.nf
 have henv482:REnv Ψ479 ((x458,x465)::en) (some ⟨b478,0,none⟩):=⟨_,[.string x465.con,.int .i64 (x465.num),.slice p473 x465.args.length c474],_,rfl,hat481,rfl,hr470,rn⟩
 refine go fun a he =>?_
 refine hL450 _ _ _ (by subst hmu;omega) ⟨(Ψ479),(k+1),((x458,x465)::en),((some ⟨b478,0,none⟩)),rfl,⟨he.pk,hm⟩,?_⟩
 refine ⟨(le449).trans le480,?_⟩
 refine ⟨henv482,?_⟩
 rw [hI_,zA hx459,zA hx466];rfl
 refine go fun a he =>?_
 have hbv_:kL x414.vars z388.args env=some en:=by
  rw [hI_,zE h453,y3x]
 have hns485:=hns447
 rw [uF hbv_] at hns485
 replace hm:=hm.pl 2
 refine xW call95 (fun q486 y487 w hq488 hG489 hm a he =>?_) (fun q486 w hq488 hm =>?_) (c:=ih g389 (by omega) rpT rG h427 rn ((xT hsh).2.2 _ (List.mem_of_getElem? hx415)).1 (by omega) (by omega) hns485 hm)
 obtain ⟨z490,g491⟩:=q486
 obtain ⟨Ψ492,d493⟩:=y487
 obtain ⟨le494,hr495⟩:=hG489
 have hv496:=wJ hq488
 simp only at le494 hr495 hm he hv496
 have hlt497:=jB _ _ _ _ _ _ hv496
 replace rpT:=rpT.mono le494
 replace rG:=RGiven.mono le494 rG
 replace re:=REx.mono _ _ _ _ le494 re
 replace rv:=REnv.mono le494 rv
 replace hat18:=hat18.mono le494
 replace h46:=h46.up le494
 replace h52:=h52.up le494
 replace ha368:=ha368.mono le494
 replace hr369:=REx.mono _ _ _ _ le494 hr369
 replace hr393:=RVal.mono _ _ _ _ le494 hr393
 replace ha418:=ha418.mono le494
 replace hr419:=RArm.mono _ _ _ _ le494 hr419
 replace h427:=REx.mono _ _ _ _ le494 h427
 replace rn:=REnv.mono le494 rn
 replace hm:=hm.nf
 obtain ⟨p500,c501,rfl,hi504,h499,hm502,hn503⟩:=RVal.fm hr495
 refine Sto 3 fun w hm a he =>?_
 refine go fun a he =>?_
 have hmr:=hm
 replace hm:=hm.dl [5,4,3,2,1]
 refine jU (hm:=hmr) ?_
 exact gQ ((((((yR _ _ _ _).trans (mP h361 hx365)).trans (mA hv394)).trans (nN hfa_)).trans (uF hbv_)).trans hv496) ⟨(Ψ492,_),rfl,⟨((le392).trans le449).trans le494,hr495⟩,hm⟩
 have hsp505:=vK hq488 hns485
 replace hm:=hm.dl [5,4,3,2,1]
 exact mD ((((((yR _ _ _ _).trans (mP h361 hx365)).trans (mA hv394)).trans (nN hfa_)).trans (uF hbv_)).trans hsp505) ⟨rfl,hm.le ((le392).trans le449)⟩
 refine go fun a he =>?_
 replace hm:=hm.dl [0]
 refine hL406 _ _ _ (by subst hmu;omega) ⟨(i+1),rfl,⟨he.pk,hm⟩,?_⟩
 rw [hI407,zA hx415];simp only [xQ,if_neg h444]
 refine yJ fun a he =>?_
 refine Sto 2 fun w hm a he =>?_
 refine go fun a he =>?_
 have hmr:=hm
 replace hm:=hm.dl [4,3,2,0]
 refine jU (hm:=hmr) ?_
 exact absurd (z8g (by rw [hI407,zE h409];rfl)) hns403
 have hsp508:=vK hq386 (jT hns383)
 replace hm:=hm.dl [3,2,1]
 exact mD (((yR _ _ _ _).trans (mP h361 hx365)).trans (mC hsp508)) ⟨rfl,hm.le (Fz.Le.refl _)⟩
 refine Alc fun b509 w hm a he =>?_
 have hns510:=hns
 rw [mP h361 hx365] at hns510
 replace hm:=hm.pl 4
 refine xW call95 (fun q511 y512 w hq513 hG514 hm a he =>?_) (fun q511 w hq513 hm =>?_) (c:=ih g (by omega) rpT rG hr369 rv ((xT hsh).2.1 _ (List.mem_of_getElem? hx365)) (by omega) (by omega) (jT hns510) hm)
 obtain ⟨z515,g516⟩:=q511
 obtain ⟨Ψ517,d518⟩:=y512
 obtain ⟨le519,hr520⟩:=hG514
 have hv521:=wJ hq513
 simp only at le519 hr520 hm he hv521
 have hlt522:=jB _ _ _ _ _ _ hv521
 replace rpT:=rpT.mono le519
 replace rG:=RGiven.mono le519 rG
 replace re:=REx.mono _ _ _ _ le519 re
 replace rv:=REnv.mono le519 rv
 replace hat18:=hat18.mono le519
 replace h46:=h46.up le519
 replace h52:=h52.up le519
 replace ha368:=ha368.mono le519
 replace hr369:=REx.mono _ _ _ _ le519 hr369
 replace hm:=hm.nf
 obtain ⟨p525,c526,rfl,hi529,h524,hm527,hn528⟩:=RVal.fm hr520
 have hns530:=y1c hns510 hv521
 refine Sto 1 fun w hm a he =>?_
 refine go fun a he =>?_
 refine yF (he.ks [2,3,6,8,120,121]) hm (fun R mm a w=>∃(i:Nat),mm=e.arms.length - i∧R Ψ517 [(122,.int .i64 ((i:Nat):Int))] [] a w∧(xQ e.arms z515.con=xQ (e.arms.drop i) z515.con)) (e.arms.length - 0) ⟨0,rfl,⟨he.pk,hm⟩,rfl⟩ ?_
 clear hm he
 rintro mm a w ⟨i,hmu,⟨he,hm⟩,hI533⟩ L532 hL532
 by_cases h535:i < e.arms.length
 refine go fun a he =>?_
 obtain ⟨q539,rfl,x540,hx541,cs542,hl543,ha544,hr545⟩:=h52.el hn56 h535
 obtain ⟨s546,b552,rfl,h547,h553⟩:=RArm.iff.1 hr545
 obtain ⟨p548,c549,rfl,hm550,hn551⟩:=h547.fm
 obtain ⟨p556,c557,p562,c563,rfl,hi566,h555,h561,hm558,hn559,hm564,hn565⟩:=REx.fm h553
 refine Alc fun b567 w hm a he =>?_
 refine Sto 0 fun w hm a he =>?_
 by_cases h570:x540.con=z515.con
 refine go fun a he =>?_
 have hfa_:xQ e.arms z515.con=some x540:=by
  rw [hI533,zA hx541];simp [xQ,h570]
 have hns573:=hns530
 rw [nN hfa_] at hns573
 obtain ⟨env1_,hb1_⟩:=z8o hns573
 refine go fun a he =>?_
 refine yF (he.ks [3,6,8,10,132,133]) hm (fun R mm a w=>∃(Ψ574:Fz) (k:Nat) (en:Env) (nv:Option Addr),mm=x540.vars.length - k∧R Ψ574 [(2,.pointer nv),(134,.int .i64 ((k:Nat):Int))] [] a w∧(Ψ517.Le Ψ574∧(REnv Ψ574 en nv∧kL x540.vars z515.args env=kL (x540.vars.drop k) (z515.args.drop k) en))) (x540.vars.length - 0) ⟨Ψ517,0,env,ov,rfl,⟨he.pk,hm⟩,⟨Fz.Le.refl _,⟨rv,rfl⟩⟩⟩ ?_
 clear hm he
 rintro mm a w ⟨Ψ574,k,en,nv,hmu,⟨he,hm⟩,hI577⟩ L576 hL576
 obtain ⟨le575,hI577⟩:=hI577
 replace rpT:=rpT.mono le575
 replace rG:=RGiven.mono le575 rG
 replace re:=REx.mono _ _ _ _ le575 re
 replace rv:=REnv.mono le575 rv
 replace hat18:=hat18.mono le575
 replace h46:=h46.up le575
 replace ha368:=ha368.mono le575
 replace hr369:=REx.mono _ _ _ _ le575 hr369
 replace h524:=h524.up le575
 replace hr520:=RVal.mono _ _ _ _ le575 hr520
 replace ha544:=ha544.mono le575
 replace hr545:=RArm.mono _ _ _ _ le575 hr545
 replace h547:=h547.up le575
 replace h553:=REx.mono _ _ _ _ le575 h553
 obtain ⟨rn,hI_⟩:=hI577
 by_cases h579:k < x540.vars.length
 have hil_:k < z515.args.length:=z3p (env:=en) (env':=env1_) (by rw [← hI_];exact hb1_) h579
 refine go fun a he =>?_
 obtain ⟨q583,rfl,x584,hx585,cs586,hl587,ha588,hr589⟩:=h547.el hn551 h579
 obtain rfl:cs586=[.string x584]:=hr589
 refine go fun a he =>?_
 obtain ⟨q590,rfl,x591,hx592,cs593,hl594,ha595,hr596⟩:=h524.el hn528 hil_
 obtain ⟨p599,c600,rfl,hi603,h598,hm601,hn602⟩:=RVal.fm hr596
 refine kK fun a he =>?_
 refine Bx fun b604 w hm a he =>?_
 have hm0_:=hm
 clear hm
 obtain ⟨Ψ605,le606,hm,hat607⟩:=hm0_.freezeBlk (i:=0) rfl
 clear hm0_
 replace rpT:=rpT.mono le606
 replace rG:=RGiven.mono le606 rG
 replace re:=REx.mono _ _ _ _ le606 re
 replace rv:=REnv.mono le606 rv
 replace hat18:=hat18.mono le606
 replace h46:=h46.up le606
 replace ha368:=ha368.mono le606
 replace hr369:=REx.mono _ _ _ _ le606 hr369
 replace hr520:=RVal.mono _ _ _ _ le606 hr520
 replace ha544:=ha544.mono le606
 replace hr545:=RArm.mono _ _ _ _ le606 hr545
 replace h553:=REx.mono _ _ _ _ le606 h553
 replace rn:=REnv.mono le606 rn
 replace ha588:=ha588.mono le606
 replace ha595:=ha595.mono le606
 replace hr596:=RVal.mono _ _ _ _ le606 hr596
 replace hm:=hm.nf
 have henv608:REnv Ψ605 ((x584,x591)::en) (some ⟨b604,0,none⟩):=⟨_,[.string x591.con,.int .i64 (x591.num),.slice p599 x591.args.length c600],_,rfl,hat607,rfl,hr596,rn⟩
 refine go fun a he =>?_
 refine hL576 _ _ _ (by subst hmu;omega) ⟨(Ψ605),(k+1),((x584,x591)::en),((some ⟨b604,0,none⟩)),rfl,⟨he.pk,hm⟩,?_⟩
 refine ⟨(le575).trans le606,?_⟩
 refine ⟨henv608,?_⟩
 rw [hI_,zA hx585,zA hx592];rfl
 refine go fun a he =>?_
 have hbv_:kL x540.vars z515.args env=some en:=by
  rw [hI_,zE h579,y3x]
 have hns611:=hns573
 rw [uF hbv_] at hns611
 replace hm:=hm.pl 1
 refine xW call95 (fun q612 y613 w hq614 hG615 hm a he =>?_) (fun q612 w hq614 hm =>?_) (c:=ih g516 (by omega) rpT rG h553 rn ((xT hsh).2.2 _ (List.mem_of_getElem? hx541)).1 (by omega) (by omega) hns611 hm)
 obtain ⟨z616,g617⟩:=q612
 obtain ⟨Ψ618,d619⟩:=y613
 obtain ⟨le620,hr621⟩:=hG615
 have hv622:=wJ hq614
 simp only at le620 hr621 hm he hv622
 have hlt623:=jB _ _ _ _ _ _ hv622
 replace rpT:=rpT.mono le620
 replace rG:=RGiven.mono le620 rG
 replace re:=REx.mono _ _ _ _ le620 re
 replace rv:=REnv.mono le620 rv
 replace hat18:=hat18.mono le620
 replace h46:=h46.up le620
 replace ha368:=ha368.mono le620
 replace hr369:=REx.mono _ _ _ _ le620 hr369
 replace hr520:=RVal.mono _ _ _ _ le620 hr520
 replace ha544:=ha544.mono le620
 replace hr545:=RArm.mono _ _ _ _ le620 hr545
 replace h553:=REx.mono _ _ _ _ le620 h553
 replace rn:=REnv.mono le620 rn
 replace hm:=hm.nf
 obtain ⟨p626,c627,rfl,hi630,h625,hm628,hn629⟩:=RVal.fm hr621
 refine Sto 3 fun w hm a he =>?_
 refine go fun a he =>?_
 have hmr:=hm
 replace hm:=hm.dl [5,4,3,2,1]
 refine jU (hm:=hmr) ?_
 exact gQ ((((((yR _ _ _ _).trans (mP h361 hx365)).trans (mA hv521)).trans (nN hfa_)).trans (uF hbv_)).trans hv622) ⟨(Ψ618,_),rfl,⟨((le519).trans le575).trans le620,hr621⟩,hm⟩
 have hsp631:=vK hq614 hns611
 replace hm:=hm.dl [5,4,3,2,1]
 exact mD ((((((yR _ _ _ _).trans (mP h361 hx365)).trans (mA hv521)).trans (nN hfa_)).trans (uF hbv_)).trans hsp631) ⟨rfl,hm.le ((le519).trans le575)⟩
 refine go fun a he =>?_
 replace hm:=hm.dl [0]
 refine hL532 _ _ _ (by subst hmu;omega) ⟨(i+1),rfl,⟨he.pk,hm⟩,?_⟩
 rw [hI533,zA hx541];simp only [xQ,if_neg h570]
 refine yJ fun a he =>?_
 refine Sto 2 fun w hm a he =>?_
 refine go fun a he =>?_
 have hmr:=hm
 replace hm:=hm.dl [4,3,2,1]
 refine jU (hm:=hmr) ?_
 exact absurd (z8g (by rw [hI533,zE h535];rfl)) hns530
 have hsp634:=vK hq513 (jT hns510)
 replace hm:=hm.dl [4,3,2,1]
 exact mD (((yR _ _ _ _).trans (mP h361 hx365)).trans (mC hsp634)) ⟨rfl,hm.le (Fz.Le.refl _)⟩
 refine go fun a he =>?_
 by_cases h636:e.kind=8
 refine go fun a he =>?_
 have hns638:=hns
 rw [y8z h636] at hns638
 replace hm:=hm.pl 3
 refine xW call135 (fun q639 y640 w hq641 hG642 hm a he =>?_) (fun q639 w hq641 hm =>?_) (c:=z3w (fun g1_ h_=>ih g1_ (by omega)) rpT rG h46 rv (xT hsh).2.1 (xT hsh).1 (by omega) (by omega) (jT hns638) hm)
 obtain ⟨z643,g644⟩:=q639
 obtain ⟨Ψ645,d646⟩:=y640
 obtain ⟨le647,hr648⟩:=hG642
 have hv649:=wJ hq641
 simp only at le647 hr648 hm he hv649
 have hlt650:=y7h hv649
 replace rG:=RGiven.mono le647 rG
 replace re:=REx.mono _ _ _ _ le647 re
 replace rv:=REnv.mono le647 rv
 replace hat18:=hat18.mono le647
 replace hm:=hm.nf
 obtain ⟨p651,c652,rfl,hmx653,hnx654⟩:=hr648.fm
 have hns655:=y1c hns638 hv649
 refine Reg [1,2,1,1,1,2,1,1,1,2,0,0] [1,2,3] fun w hm a he =>?_
 have hq2_:=j9k hns655
 have hq0_:0 < z643.length:=by omega
 have hq1_:1 < z643.length:=by omega
 refine go fun a he =>?_
 obtain ⟨q657,rfl,x658,hx659,cs660,hl661,ha662,hr663⟩:=hr648.el hnx654 hq0_
 obtain ⟨p666,c667,rfl,hi670,h665,hm668,hn669⟩:=RVal.fm hr663
 refine go fun a he =>?_
 obtain ⟨x671,hx672⟩:=zX hq1_
 obtain ⟨cs673,hl674,ha675,hr676⟩:=hr648.elem hx672
 obtain ⟨p679,c680,rfl,hi683,h678,hm681,hn682⟩:=RVal.fm hr676
 refine jF call136 (fun y684 w hG685 hm a he =>?_) (c:=q5x (by obtain ⟨_,_,h_,_⟩:=RVal.iff.1 hr663;exact h_) (by obtain ⟨_,_,h_,_⟩:=RVal.iff.1 hr676;exact h_) hm)
 obtain ⟨Ψ686,d687⟩:=y684
 obtain ⟨le688,hr689⟩:=hG685
 simp only at le688 hr689 hm he
 replace rG:=RGiven.mono le688 rG
 replace re:=REx.mono _ _ _ _ le688 re
 replace rv:=REnv.mono le688 rv
 replace hat18:=hat18.mono le688
 replace ha662:=ha662.mono le688
 replace hr663:=RVal.mono _ _ _ _ le688 hr663
 replace ha675:=ha675.mono le688
 replace hr676:=RVal.mono _ _ _ _ le688 hr676
 replace hm:=hm.nf
 obtain ⟨p692,c693,rfl,hi696,h691,hm694,hn695⟩:=RVal.fm hr689
 refine Sto 1 fun w hm a he =>?_
 refine go fun a he =>?_
 have hmr:=hm
 replace hm:=hm.dl [3,2,1]
 refine jU (hm:=hmr) ?_
 exact gQ ((((yR _ _ _ _).trans (y8z h636)).trans (mA hv649)).trans (opOf_eq hx659 hx672 hns655).2) ⟨(Ψ686,_),rfl,⟨(le647).trans le688,hr689⟩,hm⟩
 have hsp697:=vK hq641 (jT hns638)
 replace hm:=hm.dl [3,2,1]
 exact mD (((yR _ _ _ _).trans (y8z h636)).trans (mC hsp697)) ⟨rfl,hm.le (Fz.Le.refl _)⟩
 refine yJ fun a he =>?_
 refine Sto 0 fun w hm a he =>?_
 refine go fun a he =>?_
 have hmr:=hm
 replace hm:=hm.dl [2,1,0]
 refine jU (hm:=hmr) ?_
 exact absurd (j3u (by have h_:=h68;omega) (by have h_:=h71;omega) (by have h_:=h99;omega) (by have h_:=h111;omega) (by have h_:=h133;omega) (by have h_:=h202;omega) (by have h_:=h361;omega) (by have h_:=h636;omega)) hns
theorem j5l {T:Table} {inp:List (Bs×Val)} (hF:z3o T):∀g,cI prog T inp g:=by
 suffices H:∀n g,g < n→cI prog T inp g from fun g=>H _ g (Nat.lt_succ_self _)
 intro n
 induction n with
 | zero=>intro g h;omega
 | succ n ih =>
  intro g h
  cases g with
  | zero=>exact j1a
  | succ g=>exact j0z hF fun g1 h1=>ih g1 (by omega)
theorem z1o {T:Table} {inp:List (Bs×Val)} (hF:z3o T) (g:Nat):y9g prog T inp g:=z8p (j5l hF g)
end Go.Sw
