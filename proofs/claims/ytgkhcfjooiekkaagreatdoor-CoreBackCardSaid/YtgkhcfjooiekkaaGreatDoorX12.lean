import Derived.Test.YtgkhcfjooiekkaaGreatDoorProg
import Derived.Test.YtgkhcfjooiekkaaGreatDoorX04
import Derived.Test.YtgkhcfjooiekkaaGreatDoorX06
import Derived.Test.YtgkhcfjooiekkaaGreatDoorX07
import Derived.Test.YtgkhcfjooiekkaaGreatDoorX11
set_option linter.unusedVariables false
set_option linter.unusedSimpArgs false
namespace Go.Sw
open Go.Proofs.Tryz
open Go.Proofs
set_option maxRecDepth 20000
set_option maxHeartbeats 4000000
theorem write_step {Φ:Fz} {K:List Res} {w:World} {d:List Value} {e:Ex} {b:Nat} {v:Value} {bp:Option Addr} {t:Bs} (ih:∀x:Ex,x.sz < e.sz→wfE x=true→∀{Φ:Fz} {K:List Res} {w:World} {d:List Value} {b:Nat} {v:Value} {bp:Option Addr} {t:Bs},REx Φ d x→(bp=none∨bp=some ⟨b,0,none⟩)→Tabs Φ→t.size+(z2y x).length≤8796093022208→Mem Φ (.blk b (ob [.pointer bp,v] 130)::.gs v 5 1 (Lib.strCells t)::K) w→Calls Tryz.prog 69 (List.toArray [.pointer (some ⟨b,0,none⟩),.agg d.toArray]) w (fun ee w'=>∃v2,ee=.returned (.tuple #[])∧True∧Mem Φ (.blk b (ob [.pointer (some ⟨b,0,none⟩),v2] 130)::.gs v2 5 1 (Lib.strCells (t++wB x))::K) w')) (hwf:wfE e=true) (re:REx Φ d e) (hp:bp=none∨bp=some ⟨b,0,none⟩) (G:Tabs Φ) (hb:t.size+(z2y e).length≤8796093022208) (hm:Mem Φ (.blk b (ob [.pointer bp,v] 130)::.gs v 5 1 (Lib.strCells t)::K) w) :
  Calls Tryz.prog 69 (List.toArray [.pointer (some ⟨b,0,none⟩),.agg d.toArray]) w (fun ee w'=>∃v2,ee=.returned (.tuple #[])∧True∧Mem Φ (.blk b (ob [.pointer (some ⟨b,0,none⟩),v2] 130)::.gs v2 5 1 (Lib.strCells (t++wB e))::K) w'):=by
 obtain ⟨p3,c4,p9,c10,rfl,hi13,h2,h8,hm5,hn6,hm11,hn12⟩:=REx.fm re
 refine z0m func69 ntmps69 fun Q hQ a he =>?_
 refine Bx he hm fun b15 w hm a he =>?_
 refine Bx he hm fun b16 w hm a he =>?_
 refine go he hm fun a he =>?_
 by_cases h20:e.kind=1
 refine Reg [2,1,2,0,0] [0,1] he hm fun w hm a he =>?_
 have hq_:=congrArg ByteArray.size (wB_num h20)
 have hz_:=z3b e
 refine z0x call122 he hm (fun w hm a he =>?_) (c:=itoa_ok (by obtain ⟨_,_,_,h_,_⟩:=REx.iff.1 re;exact h_) G hm)
 replace hm:=hm.ar [] [3,3]
 refine z2n call68 he hm (fun y21 w hG22 hm a he =>?_) (c:=z0t (t:=t) (s:=(z9o e.num)) hp (by omega) hm)
 replace hm:=hm.nf
 refine go he hm fun a he =>?_
 replace hm:=hm.dl [3,2]
 refine hQ _ _ _ (ret0N he results69 ?_)
 refine ⟨y21,rfl,trivial,?_⟩
 rw [← wB_num h20];exact hm
 refine go he hm fun a he =>?_
 by_cases h24:e.kind=2
 refine go he hm fun a he =>?_
 have hq_:=congrArg ByteArray.size (wB_var h24)
 have hz_:=z3b e
 replace hm:=hm.ar [] [3,3]
 refine z2n call68 he hm (fun y25 w hG26 hm a he =>?_) (c:=z0t (t:=t) (s:=e.name) hp (by omega) hm)
 replace hm:=hm.nf
 refine go he hm fun a he =>?_
 replace hm:=hm.dl [3,2]
 refine hQ _ _ _ (ret0N he results69 ?_)
 refine ⟨y25,rfl,trivial,?_⟩
 rw [← wB_var h24];exact hm
 refine go he hm fun a he =>?_
 by_cases h28:e.kind=3
 refine go he hm fun a he =>?_
 have hq_:=congrArg ByteArray.size (wB_inp h28)
 have hz_:=z3b e
 refine Qq he hm (fun a he =>?_) (o:=by exact fun _ _ _ he hs=>z5h he rfl rfl (by rw [z0e] at hq_;omega))
 replace hm:=hm.ar [] [3,3]
 refine z2n call68 he hm (fun y29 w hG30 hm a he =>?_) (c:=z0t (t:=t) (s:=((⟨#[33]⟩:ByteArray)++e.name)) hp (by omega) hm)
 replace hm:=hm.nf
 refine go he hm fun a he =>?_
 replace hm:=hm.dl [3,2]
 refine hQ _ _ _ (ret0N he results69 ?_)
 refine ⟨y29,rfl,trivial,?_⟩
 rw [← wB_inp h28];exact hm
 refine go he hm fun a he =>?_
 by_cases h32:e.kind=4
 refine go he hm fun a he =>?_
 by_cases h35:e.args.length=0
 refine go he hm fun a he =>?_
 have hq_:=congrArg ByteArray.size (wB_con0 h32 h35)
 have hz_:=z3b e
 replace hm:=hm.ar [] [3,3]
 refine z2n call68 he hm (fun y37 w hG38 hm a he =>?_) (c:=z0t (t:=t) (s:=e.name) hp (by omega) hm)
 replace hm:=hm.nf
 refine go he hm fun a he =>?_
 replace hm:=hm.dl [3,2]
 refine hQ _ _ _ (ret0 he results69 ?_)
 refine ⟨y37,rfl,trivial,?_⟩
 rw [← wB_con0 h32 h35];exact hm
 refine go he hm fun a he =>?_
 have hq_:=congrArg ByteArray.size (wB_con h32 h35)
 have hz_:=z3b e
 refine go he hm fun a he =>?_
 replace hm:=hm.ar [] [3,3,3]
 refine st he rfl rfl rfl (y0m he rfl rfl call121 (write1_ok (t:=t) (op:=e.name) (fun x hx _ _ _ _ _ _ _ _ r1 r2 r3 r4 r5=>ih x (Ex.lt_args hx) ((wfE_sub hwf).2.1 x hx) r1 r2 r3 r4 r5) h2 hp G (by omega) hm) (fun y39 w hG40 hm a he =>?_))
 replace hm:=hm.nf
 refine go he hm fun a he =>?_
 replace hm:=hm.dl [3,0]
 refine hQ _ _ _ (ret0N he results69 ?_)
 refine ⟨y39,rfl,trivial,?_⟩
 rw [← wB_con h32 h35];exact hm
 refine go he hm fun a he =>?_
 by_cases h42:e.kind=6
 refine go he hm fun a he =>?_
 have hq_:=congrArg ByteArray.size (wB_let h42)
 have hz_:=z3b e
 refine Qq he hm (fun a he =>?_) (o:=by exact fun _ _ _ he hs=>z5h he rfl rfl (by rw [formB_size,z0e] at hq_;omega))
 refine go he hm fun a he =>?_
 replace hm:=hm.ar [] [3,3,3]
 refine st he rfl rfl rfl (y0m he rfl rfl call121 (write1_ok (t:=t) (op:=((⟨#[108,101,116,32]⟩:ByteArray)++e.name)) (fun x hx _ _ _ _ _ _ _ _ r1 r2 r3 r4 r5=>ih x (Ex.lt_args hx) ((wfE_sub hwf).2.1 x hx) r1 r2 r3 r4 r5) h2 hp G (by omega) hm) (fun y43 w hG44 hm a he =>?_))
 replace hm:=hm.nf
 refine go he hm fun a he =>?_
 replace hm:=hm.dl [3,0]
 refine hQ _ _ _ (ret0N he results69 ?_)
 refine ⟨y43,rfl,trivial,?_⟩
 rw [← wB_let h42];exact hm
 refine go he hm fun a he =>?_
 by_cases h46:e.kind=7
 refine go he hm fun a he =>?_
 have hq0_:0 < e.args.length:=(wfE_sub hwf).1 h46
 obtain ⟨aa_,haa_⟩:=z2o hq0_
 have hwc_:=wc_start (t:=t) h46 haa_
 replace hm:=hm.ar [] [3,3]
 refine z2n call68 he hm (fun y48 w hG49 hm a he =>?_) (c:=z0t (t:=t) (s:=(⟨#[40,99,97,115,101,32]⟩:ByteArray)) hp (by have h1_:=z5z hwc_;rw [z0e,z0e,z0e t (wB e),z3b e] at h1_;omega) hm)
 replace hm:=hm.nf
 refine Reg [2,1,2,1,2,0] [2,3] he hm fun w hm a he =>?_
 refine go he hm fun a he =>?_
 obtain ⟨q51,rfl,x52,hx53,cs54,hl55,ha56,hr57⟩:=h2.el hn6 hq0_
 obtain ⟨p60,c61,p66,c67,rfl,hi70,h59,h65,hm62,hn63,hm68,hn69⟩:=REx.fm hr57
 refine go he hm fun a he =>?_
 obtain rfl:x52=aa_:=Option.some.inj (hx53.symm.trans haa_)
 replace hm:=hm.ar [] [1,1]
 refine z2n call69 he hm (fun y71 w hG72 hm a he =>?_) (c:=ih _ (Ex.lt_args (List.mem_of_getElem? hx53)) ((wfE_sub hwf).2.1 _ (List.mem_of_getElem? hx53)) (t:=(t++(⟨#[40,99,97,115,101,32]⟩:ByteArray))) hr57 (.inr rfl) G (by have h1_:=z5z hwc_;rw [z0e,z0e,z0e t (wB e),z3b e,z3b] at h1_;rw [z0e];omega) hm)
 replace hm:=hm.nf
 refine go he hm fun a he =>?_
 refine z1l (he.ks [2,72,73]) hm (fun R mm a w=>∃(i:Nat) (bv:Value) (acc:Bs),mm=e.arms.length - i∧R Φ [(74,.int .i64 ((i:Nat):Int))] [(0,.blk b (ob [.pointer (some ⟨b,0,none⟩),bv] 130)),(1,.gs (bv) 5 1 (Lib.strCells acc))] a w∧(acc++ofTx (writePa (e.arms.drop i)++[41])=t++wB e)) (e.arms.length - 0) ⟨0,y71,((t++(⟨#[40,99,97,115,101,32]⟩:ByteArray))++wB x52),rfl,⟨he.pk,hm⟩,hwc_⟩ ?_
 clear hm he
 rintro mm a w ⟨i,bv,acc,hmu,⟨he,hm⟩,hI76⟩ L75 hL75
 replace hm:=hm.nf
 refine go he hm fun a he =>?_
 by_cases h78:i < e.arms.length
 refine go he hm fun a he =>?_
 obtain ⟨q82,rfl,x83,hx84,cs85,hl86,ha87,hr88⟩:=h8.el hn12 h78
 obtain ⟨s89,b95,rfl,h90,h96⟩:=RArm.iff.1 hr88
 obtain ⟨p91,c92,rfl,hm93,hn94⟩:=h90.fm
 obtain ⟨p99,c100,p105,c106,rfl,hi109,h98,h104,hm101,hn102,hm107,hn108⟩:=REx.fm h96
 refine Alc he hm fun b110 w hm a he =>?_
 refine Sto 0 he hm fun w hm a he =>?_
 refine go he hm fun a he =>?_
 refine z2a [2,1,2,0,1,2,0,0,1,1,0] (.q 0 (.q 1 (.q 2 (.q 4 (.q 5 (.e 3 (.e 6 (.e 7 (.q 8 (.q 9 (.e 10 (.done)))))))))))) [0,3,4] he hm fun w hm =>?_
 refine BldS he hm fun v112 w hm a he =>?_
 refine App_ 0 rt_25 he hm (fun v113 w hm a he =>?_) (hr:=(SliceOf.strs.1 h90).rowIn hm.toSees) (h1:=strs_cells _) (hb:=by have h1_:=z5z hI76;rw [List.length_append,z0e t (wB e),z3b e] at h1_;have h2_:=arm_len hx84;rw [z8f] at h2_;have h3_:=joinP_size x83.con x83.vars;have h4_:(⟨#[32]⟩:Bs).size=1:=rfl;rw [h4_] at h3_;simp only [List.length_cons,List.length_nil,z2h] at h3_ ⊢;omega)
 refine z0x call67 he hm (fun w hm a he =>?_) (c:=joinG_ok (l:=x83.con::x83.vars) (sep:=⟨#[32]⟩) (by have h1_:=z5z hI76;rw [List.length_append,z0e t (wB e),z3b e] at h1_;have h2_:=arm_len hx84;rw [z8f] at h2_;have h3_:=joinP_size x83.con x83.vars;omega) hm)
 replace hm:=hm.nf
 refine Qq he hm (fun a he =>?_) (o:=by exact fun _ _ _ he hs=>z5h he rfl rfl (by have h1_:=z5z hI76;rw [List.length_append,z0e t (wB e),z3b e] at h1_;have h2_:=arm_len hx84;rw [z8f] at h2_;have h3_:=joinP_size x83.con x83.vars;have h4_:(⟨#[32,40]⟩:Bs).size=2:=rfl;omega))
 refine Qq he hm (fun a he =>?_) (o:=by exact fun _ _ _ he hs=>z5h he rfl rfl (by have h1_:=z5z hI76;rw [List.length_append,z0e t (wB e),z3b e] at h1_;have h2_:=arm_len hx84;rw [z8f] at h2_;have h3_:=joinP_size x83.con x83.vars;have h4_:(⟨#[32,40]⟩:Bs).size=2:=rfl;have h5_:(⟨#[32,45,62,32]⟩:Bs).size=4:=rfl;rw [z0e];omega))
 replace hm:=hm.ar [] [2,2]
 refine z2n call68 he hm (fun y114 w hG115 hm a he =>?_) (c:=z0t (t:=acc) (s:=(((⟨#[32,40]⟩:ByteArray)++(z7w (⟨#[32]⟩:Bs) (x83.con::x83.vars)))++(⟨#[32,45,62,32]⟩:ByteArray))) (.inr rfl) (by have h1_:=z5z hI76;rw [List.length_append,z0e t (wB e),z3b e] at h1_;have h2_:=arm_len hx84;rw [z8f,z3b] at h2_;have h3_:([41]:List UInt8).length=1:=rfl;have h4_:(⟨#[32,40]⟩:Bs).size=2:=rfl;have h5_:(⟨#[32,45,62,32]⟩:Bs).size=4:=rfl;have h6_:(⟨#[41]⟩:Bs).size=1:=rfl;rw [z0e,z0e];omega) hm)
 replace hm:=hm.nf
 replace hm:=hm.ar [] [1,1]
 refine z2n call69 he hm (fun y117 w hG118 hm a he =>?_) (c:=ih _ (Ex.lt_arms (List.mem_of_getElem? hx84)) ((wfE_sub hwf).2.2 _ (List.mem_of_getElem? hx84)) (t:=(acc++(((⟨#[32,40]⟩:ByteArray)++(z7w (⟨#[32]⟩:Bs) (x83.con::x83.vars)))++(⟨#[32,45,62,32]⟩:ByteArray)))) h96 (.inr rfl) G (by have h1_:=z5z hI76;rw [List.length_append,z0e t (wB e),z3b e] at h1_;have h2_:=arm_len hx84;rw [z8f,z3b] at h2_;have h3_:([41]:List UInt8).length=1:=rfl;have h4_:(⟨#[32,40]⟩:Bs).size=2:=rfl;have h5_:(⟨#[32,45,62,32]⟩:Bs).size=4:=rfl;have h6_:(⟨#[41]⟩:Bs).size=1:=rfl;rw [z0e,z0e,z0e];omega) hm)
 replace hm:=hm.nf
 replace hm:=hm.ar [] [1,1]
 refine z2n call70 he hm (fun y119 w hG120 hm a he =>?_) (c:=z7h (t:=((acc++(((⟨#[32,40]⟩:ByteArray)++(z7w (⟨#[32]⟩:Bs) (x83.con::x83.vars)))++(⟨#[32,45,62,32]⟩:ByteArray)))++wB x83.body)) (c:=41) (.inr rfl) (by have h1_:=z5z hI76;rw [List.length_append,z0e t (wB e),z3b e] at h1_;have h2_:=arm_len hx84;rw [z8f,z3b] at h2_;have h3_:([41]:List UInt8).length=1:=rfl;have h4_:(⟨#[32,40]⟩:Bs).size=2:=rfl;have h5_:(⟨#[32,45,62,32]⟩:Bs).size=4:=rfl;have h6_:(⟨#[41]⟩:Bs).size=1:=rfl;rw [z0e,z0e,z0e,z0e,z3b];omega) hm)
 replace hm:=hm.nf
 refine go he hm fun a he =>?_
 replace hm:=hm.dl [2]
 refine hL75 _ _ _ (by subst hmu;omega) ⟨(i+1),(y119),((((acc++(((⟨#[32,40]⟩:ByteArray)++(z7w (⟨#[32]⟩:Bs) (x83.con::x83.vars)))++(⟨#[32,45,62,32]⟩:ByteArray)))++wB x83.body)++⟨#[41]⟩)),rfl,⟨he.pk,by exact hm⟩,?_⟩
 exact wc_step hx84 hI76
 replace hm:=hm.ar [] [1,1]
 refine z2n call70 he hm (fun y122 w hG123 hm a he =>?_) (c:=z7h (t:=acc) (c:=41) (.inr rfl) (by have h1_:=z5z hI76;rw [List.length_append,z0e t (wB e),z3b e] at h1_;have h3_:([41]:List UInt8).length=1:=rfl;omega) hm)
 replace hm:=hm.nf
 refine go he hm fun a he =>?_
 replace hm:=hm.dl [3,2]
 refine hQ _ _ _ (ret0N he results69 ?_)
 refine ⟨y122,rfl,trivial,?_⟩
 rw [← wc_end h78 hI76];exact hm
 refine go he hm fun a he =>?_
 have hq_:=congrArg ByteArray.size (wB_other h20 h24 h28 h32 h42 h46)
 have hz_:=z3b e
 refine go he hm fun a he =>?_
 replace hm:=hm.ar [] [3,3,3]
 refine st he rfl rfl rfl (y0m he rfl rfl call121 (write1_ok (t:=t) (op:=e.name) (fun x hx _ _ _ _ _ _ _ _ r1 r2 r3 r4 r5=>ih x (Ex.lt_args hx) ((wfE_sub hwf).2.1 x hx) r1 r2 r3 r4 r5) h2 hp G (by omega) hm) (fun y124 w hG125 hm a he =>?_))
 replace hm:=hm.nf
 refine go he hm fun a he =>?_
 replace hm:=hm.dl [3,0]
 refine hQ _ _ _ (ret0N he results69 ?_)
 refine ⟨y124,rfl,trivial,?_⟩
 rw [← wB_other h20 h24 h28 h32 h42 h46];exact hm
theorem write_ok {Φ:Fz} {K:List Res} {w:World} {d:List Value} {e:Ex} {b:Nat} {v:Value} {bp:Option Addr} {t:Bs} (hwf:wfE e=true) (re:REx Φ d e) (hp:bp=none∨bp=some ⟨b,0,none⟩) (G:Tabs Φ) (hb:t.size+(z2y e).length≤8796093022208) (hm:Mem Φ (.blk b (ob [.pointer bp,v] 130)::.gs v 5 1 (Lib.strCells t)::K) w) :
  Calls Tryz.prog 69 (List.toArray [.pointer (some ⟨b,0,none⟩),.agg d.toArray]) w (fun ee w'=>∃v2,ee=.returned (.tuple #[])∧True∧Mem Φ (.blk b (ob [.pointer (some ⟨b,0,none⟩),v2] 130)::.gs v2 5 1 (Lib.strCells (t++wB e))::K) w'):=by
 suffices H:∀n (e:Ex),e.sz < n→wfE e=true→∀{Φ:Fz} {K:List Res} {w:World} {d:List Value} {b:Nat} {v:Value} {bp:Option Addr} {t:Bs},REx Φ d e→(bp=none∨bp=some ⟨b,0,none⟩)→Tabs Φ→t.size+(z2y e).length≤8796093022208→Mem Φ (.blk b (ob [.pointer bp,v] 130)::.gs v 5 1 (Lib.strCells t)::K) w →
   Calls Tryz.prog 69 (List.toArray [.pointer (some ⟨b,0,none⟩),.agg d.toArray]) w (fun ee w'=>∃v2,ee=.returned (.tuple #[])∧True∧Mem Φ (.blk b (ob [.pointer (some ⟨b,0,none⟩),v2] 130)::.gs v2 5 1 (Lib.strCells (t++wB e))::K) w') from H _ e (Nat.lt_succ_self _) hwf re hp G hb hm
 intro n
 induction n with
 | zero=>intro e h;omega
 | succ n ih=>intro e h hwf Φ K w d b v bp t re hp G hb hm;exact write_step (fun x hx hw _ _ _ _ _ _ _ _ r1 r2 r3 r4 r5=>ih x (by omega) hw r1 r2 r3 r4 r5) hwf re hp G hb hm
end Go.Sw

namespace Go.Sw
def catB:List Bs→Bs
 | []=>⟨#[]⟩
 | x::l=>x++catB l
def conT_ (c:Con):Bs:=z7w ⟨#[32]⟩ (c.name::c.fields)
def dataB (d:Data):Bs:=((((⟨#[100,97,116,97,32]⟩:Bs)++d.name)++⟨#[32,61,32]⟩)++z7w ⟨#[32,124,32]⟩ (d.cons.map conT_))++⟨#[10]⟩
def inputB (p:Param):Bs:=((((⟨#[105,110,112,117,116,32]⟩:Bs)++p.name)++⟨#[32,58,32]⟩)++p.type)++⟨#[10]⟩
def y0u (p:Param):Bs:=((((⟨#[32,40]⟩:Bs)++p.name)++⟨#[32,58,32]⟩)++p.type)++⟨#[41]⟩
def funB (f:Fun):Bs:=((((⟨#[102,117,110,32]⟩:Bs)++f.name)++catB (f.params.map y0u))++(((⟨#[32,58,32]⟩:Bs)++f.result)++⟨#[32,61,32]⟩))++(wB f.body++⟨#[10]⟩)
def outB (o:Bs):Bs:=((⟨#[111,117,116,112,117,116,32]⟩:Bs)++o)++⟨#[10]⟩
def z4l (c:Core):Bs:=catB (c.datas.map dataB)++(catB (c.inputs.map inputB)++(catB (c.funs.map funB)++catB (c.outputs.map outB)))
def z6q (c:Core):Bs×Int:=if z2c c≠0 then (sNo,z2c c) else if 60000 < (z4l c).size then (sNo,2) else (z4l c,0)
theorem app_empty (x:Bs):x++(⟨#[]⟩:Bs)=x:=by apply ByteArray.ext;simp [ByteArray.data_append]
theorem app_assoc (a b c:Bs):(a++b)++c=a++(b++c):=ByteArray.append_assoc
theorem cat_drop {α:Type} {f:α→Bs} {l:List α} {i:Nat} {x:α} (h:l[i]? = some x):catB ((l.drop i).map f)=f x++catB ((l.drop (i+1)).map f):=by
 rw [z0a h];rfl
theorem cat_end {α:Type} {f:α→Bs} {l:List α} {i:Nat} (h:¬i < l.length):catB ((l.drop i).map f)=⟨#[]⟩:=by
 rw [z0g h];rfl
theorem cat_step {α:Type} {f:α→Bs} {l:List α} {i:Nat} {x:α} {acc rest F:Bs} (hx:l[i]? = some x) (h:acc++(catB ((l.drop i).map f)++rest)=F):(acc++f x)++(catB ((l.drop (i+1)).map f)++rest)=F:=by
 rw [← h,cat_drop hx];simp only [app_assoc]
theorem cat_done {α:Type} {f:α→Bs} {l:List α} {i:Nat} {acc rest F:Bs} (hi:¬i < l.length) (h:acc++(catB ((l.drop i).map f)++rest)=F):acc++rest=F:=by
 rw [← h,cat_end hi,empty_app]
theorem y0k:∀{l:List Bs} {m:Nat},(∀x∈l,x.size≤m)→(catB l).size≤l.length * m
 | [],_,_=>by simp [catB];rfl
 | x::l,m,h=>by
  have h1:=h x List.mem_cons_self
  have h2:=y0k (l:=l) (m:=m) (fun y hy=>h y (List.mem_cons_of_mem _ hy))
  simp only [catB,z0e,List.length_cons,Nat.add_mul];omega
theorem cat_part {α:Type} {f:α→Bs} {l:List α} {i:Nat} {x:α} {acc rest F:Bs} (hx:l[i]? = some x) (h:acc++(catB ((l.drop i).map f)++rest)=F):acc.size+(f x).size≤F.size:=by
 rw [← h,cat_drop hx];simp only [z0e];omega
theorem map_take_snoc {α β:Type} {f:α→β} {l:List α} {j:Nat} {x:α} (hx:l[j]? = some x):(l.map f).take (j+1)=(l.map f).take j++[f x] :=
 take_snoc (by rw [List.getElem?_map,hx];rfl)
theorem map_take_all {α β:Type} {f:α→β} {l:List α} {j:Nat} (h:¬j < l.length):(l.map f).take j=l.map f:=take_all (by rw [List.length_map];exact h)
theorem fun_start {l:List Fun} {i:Nat} {f:Fun} {acc rest F:Bs} (hx:l[i]? = some f) (h:acc++(catB ((l.drop i).map funB)++rest)=F) :
  (acc++((⟨#[102,117,110,32]⟩:Bs)++f.name))++(catB ((f.params.drop 0).map y0u)++((((⟨#[32,58,32]⟩:Bs)++f.result)++⟨#[32,61,32]⟩)++((wB f.body++⟨#[10]⟩)++(catB ((l.drop (i+1)).map funB)++rest))))=F:=by
 rw [← h,cat_drop hx];simp only [funB,app_assoc,List.drop_zero]
theorem fun_step {acc m w n R F:Bs} (h:acc++(m++((w++n)++R))=F):(((acc++m)++w)++n)++R=F:=by
 rw [← h];simp only [app_assoc]
theorem printP_look {c:Core} (h:¬z2c c=0):z6q c=(⟨#[]⟩,z2c c):=by unfold z6q;rw [if_pos h];rfl
theorem printP_long {c:Core} (h:z2c c=0) (hl:60000 < (z4l c).size):z6q c=(⟨#[]⟩,2):=by unfold z6q;rw [if_neg (not_not_intro h),if_pos hl];rfl
theorem printP_ok {c:Core} (h:z2c c=0) (hl:¬60000 < (z4l c).size):z6q c=(z4l c,0):=by unfold z6q;rw [if_neg (not_not_intro h),if_neg hl]
end Go.Sw

namespace Go.Sw
theorem calledPs_mem:∀{l:List Ex} {x:Ex} {y:Bs},x∈l→y∈z1v x→y∈calledPs l
 | z::l,x,y,h,hy=>by
  simp only [calledPs,List.mem_append]
  rcases List.mem_cons.1 h with rfl | h
  ·exact .inl hy
  ·exact .inr (calledPs_mem h hy)
theorem calledPa_mem:∀{l:List Arm} {a:Arm} {y:Bs},a∈l→y∈z1v a.body→y∈calledPa l
 | z::l,a,y,h,hy=>by
  rw [y1n,List.mem_append]
  rcases List.mem_cons.1 h with rfl | h
  ·exact .inl hy
  ·exact .inr (calledPa_mem h hy)
theorem reach_from {T:Table} {n y x:Bs} (h1:y∈z3d T n) (h:Reach T y x):Reach T n x:=by
 induction h with
 | refl=>exact .step .refl h1
 | step _ hy ih=>exact .step ih hy
theorem given_all {T:Table}:∀{vs:List Val} {ps:List Param},givenA T vs ps=true→HasAll T vs (ps.map Param.type)
 | [],[],_=>trivial
 | v::vs,p::ps,h=>by
  simp only [givenA,Bool.and_eq_true] at h
  exact ⟨h.1.2,given_all h.2⟩
 | [],_::_,h=>by cases h
 | _::_,[],h=>by cases h
theorem body_quiet {T:Table} {n:Bs} {f:Fun} (hf:lget T.funs n=some f) (hn:¬z5t T n):z4a f.body=false∧∀y∈z1v f.body,¬z5t T y:=by
 have hb:=y0o hf
 refine ⟨?_,fun y hy hr=>hn ?_⟩
 ·cases hrd:z4a f.body with
  | false=>rfl
  | true=>exact absurd ⟨_,.refl,by rw [hb];exact hrd⟩ hn
 ·obtain ⟨x,h1,h2⟩:=hr
  exact ⟨x,reach_from (by unfold z3d;rw [hb];exact hy) h1,h2⟩
theorem quiet_closed (T:Table):Closed T ⟨T.funs,[]⟩ (fun e=>z4a e=false∧∀y∈z1v e,¬z5t T y):=by
 refine ⟨fun {e x} hp hx =>?_,fun {e a} hp ha =>?_,fun {e t} hp hk =>?_,fun {e f} hp hk hf =>?_⟩
 ·obtain ⟨h1,h2⟩:=hp
  rw [z8t] at h1
  simp only [Bool.or_eq_false_iff] at h1
  refine ⟨?_,fun y hy=>h2 y ?_⟩
  ·have:=List.any_eq_false.1 h1.1.2 x hx;simpa using this
  ·rw [y0j];simp only [List.mem_append];exact .inl (.inr (calledPs_mem hx hy))
 ·obtain ⟨h1,h2⟩:=hp
  rw [z8t] at h1
  simp only [Bool.or_eq_false_iff] at h1
  refine ⟨?_,fun y hy=>h2 y ?_⟩
  ·have:=List.any_eq_false.1 h1.2 a ha;simpa using this
  ·rw [y0j];simp only [List.mem_append];exact .inr (calledPa_mem ha hy)
 ·have:=hp.1
  rw [z8t] at this;simp [hk] at this
 ·exact body_quiet hf (hp.2 _ (by rw [y0j,if_pos hk];simp))
theorem call_safe {c:Core} (h:z2c c=0) (name:Bs) (args:List Val):CallSafe c name args:=by
 intro f hf hg hr g
 exact (callP_ok (z6c h) (quiet_closed (z0i c)) hf (body_quiet hf hr) (given_all hg) g).1
mutual
def numsE:Ex→Prop
 | .mk _ n _ args arms=>I64 n∧numsEs args∧numsEa arms
def numsEs:List Ex→Prop
 | []=>True
 | e::es=>numsE e∧numsEs es
def numsEa:List Arm→Prop
 | []=>True
 | .mk _ _ b::es=>numsE b∧numsEa es
end
mutual
theorem REx'.nums {Φ:Fz}:∀{x:Ex} {cs:List Value},REx' Φ x cs→numsE x
 | .mk _ _ _ _ _,_,⟨_,_,_,_,_,h2,_,h4,_,h6⟩=>⟨h2,REs'.nums h4,RArms'.nums h6⟩
theorem REs'.nums {Φ:Fz}:∀{xs:List Ex} {cs:List Value},REs' Φ xs cs→numsEs xs
 | [],_,_=>trivial
 | _::_,_,⟨_,_,_,_,h3,h4⟩=>⟨REx'.nums h3,REs'.nums h4⟩
theorem RArm'.nums {Φ:Fz}:∀{x:Arm} {cs:List Value},RArm' Φ x cs→numsE x.body
 | .mk _ _ _,_,⟨_,_,_,_,_,h4⟩=>REx'.nums h4
theorem RArms'.nums {Φ:Fz}:∀{xs:List Arm} {cs:List Value},RArms' Φ xs cs→numsEa xs
 | [],_,_=>trivial
 | .mk _ _ _::_,_,⟨_,_,_,_,h3,h4⟩=>⟨RArm'.nums h3,RArms'.nums h4⟩
end
theorem chunks_mem {α:Type} {R:List Value→α→Prop} {k:Nat}:∀{xs:List α} {cs:List Value},Chunks R k cs xs→∀x∈xs,∃c,R c x
 | y::xs,_,h,x,hx=>by
  obtain ⟨c,rest,_,_,h3,h4⟩:=h
  rcases List.mem_cons.1 hx with rfl | hx
  ·exact ⟨c,h3⟩
  ·exact chunks_mem h4 x hx
theorem core_nums {Φ:Fz} {d:List Value} {c:Core} (h:RCore Φ d c):∀f∈c.funs,numsE f.body:=fun f hf=>by
 obtain ⟨_,_,_,_,_,_,_,h4,_⟩:=h
 obtain ⟨_,_,h4⟩:=h4
 obtain ⟨_,_,_,_,_,hb⟩:=chunks_mem h4 f hf
 exact REx'.nums hb
theorem numsEs_mem:∀{l:List Ex},numsEs l→∀x∈l,numsE x
 | y::l,h,x,hx=>by
  rcases List.mem_cons.1 hx with rfl | hx
  ·exact h.1
  ·exact numsEs_mem h.2 x hx
theorem numsEa_mem:∀{l:List Arm},numsEa l→∀a∈l,numsE a.body
 | .mk _ _ b::l,h,x,hx=>by
  rcases List.mem_cons.1 hx with rfl | hx
  ·exact h.1
  ·exact numsEa_mem h.2 x hx
theorem numsE_eq {e:Ex} (h:numsE e):I64 e.num∧(∀x∈e.args,numsE x)∧∀a∈e.arms,numsE a.body:=by
 cases e;exact ⟨h.1,numsEs_mem h.2.1,numsEa_mem h.2.2⟩
theorem digsR_len:∀(d f n:Nat),n < 10 ^ (d+1)→(digsR f n).length≤d+1
 | _,0,_,_=>by simp [digsR]
 | d,f+1,n,h=>by
  simp only [digsR]
  split
  ·simp
  ·rename_i hn
   cases d with
   | zero=>omega
   | succ d =>
    have:=digsR_len d f (n / 10) (by rw [Nat.pow_succ] at h;omega)
    simp only [List.length_cons];omega
theorem itoaL_len {n:Int} (h:I64 n):(itoaL n).length≤24:=by
 have h1:∀m:Nat,m≤9223372036854775808→(digsL m).length≤19:=fun m hm=>by
  unfold digsL;rw [List.length_reverse];exact digsR_len 18 _ _ (by omega)
 unfold I64 at h
 unfold itoaL
 split
 ·have:=h1 (-n).toNat (by omega);simp only [List.length_cons];omega
 ·have:=h1 n.toNat (by omega);omega
theorem wfEs_of:∀{l:List Ex},(∀x∈l,wfE x=true)→wfEs l=true
 | [],_=>rfl
 | y::l,h=>by
  simp only [wfEs,Bool.and_eq_true]
  exact ⟨h y List.mem_cons_self,wfEs_of fun x hx=>h x (List.mem_cons_of_mem _ hx)⟩
theorem wfEa_of:∀{l:List Arm},(∀a∈l,wfE a.body=true∧a.con.size≤24∧∀v∈a.vars,v.size≤24)→wfEa l=true
 | [],_=>rfl
 | .mk c vs b::l,h=>by
  obtain ⟨h1,h2,h3⟩:=h (.mk c vs b) List.mem_cons_self
  simp only [wfEa,Bool.and_eq_true,decide_eq_true_eq,List.all_eq_true]
  exact ⟨⟨⟨h1,wfEa_of fun x hx=>h x (List.mem_cons_of_mem _ hx)⟩,h2⟩,h3⟩
theorem wfE_of {e:Ex} (h1:e.kind=7→0 < e.args.length) (h2:∀x∈e.args,wfE x=true) (h3:∀a∈e.arms,wfE a.body=true∧a.con.size≤24∧∀v∈a.vars,v.size≤24) (h4:e.name.size≤24) (h5:I64 e.num):wfE e=true:=by
 cases e with
 | mk k n s args arms =>
  simp only [wfE,Bool.and_eq_true,Bool.or_eq_true,decide_eq_true_eq]
  refine ⟨⟨⟨⟨?_,wfEs_of h2⟩,wfEa_of h3⟩,h4⟩,itoaL_len h5⟩
  by_cases hk:k=7
  ·exact .inr (h1 hk)
  ·exact .inl hk
theorem All2.left {α β:Type} {R:α→β→Prop}:∀{xs:List α} {ys:List β},All2 R xs ys→∀x∈xs,∃y∈ys,R x y
 | x::xs,y::ys,h,z,hz=>by
  rcases List.mem_cons.1 hz with rfl | hz
  ·exact ⟨y,List.mem_cons_self,h.1⟩
  ·obtain ⟨u,h1,h2⟩:=All2.left h.2 z hz;exact ⟨u,List.mem_cons_of_mem _ h1,h2⟩
 | [],_,_,z,hz=>by cases hz
 | _::_,[],h,_,_=>h.elim
theorem mem_bindPs {l:List Ex} {x:Ex} (h:x∈l):∃p q,bindPs l=p++z1f x++q:=by
 induction l with
 | nil=>cases h
 | cons b az ih =>
  simp only [bindPs]
  rcases List.mem_cons.1 h with rfl | h
  ·exact ⟨[],bindPs az,by simp⟩
  ·obtain ⟨p,q,e⟩:=ih h
   exact ⟨z1f b++p,q,by rw [e];simp⟩
theorem bare_name {e:Ex} {num:Bool} {a b:Int} (h:z2x e num false a b=true):e.name=sNo:=by
 simp only [z2x,Bool.and_eq_true,Bool.false_or,decide_eq_true_eq] at h;exact h.1.1.2
theorem z8c {e:Ex} {num nm:Bool} {b:Int} (h:z2x e num nm 0 b=true):e.args=[]:=List.eq_nil_of_length_eq_zero (z3q (n:=0) h)
theorem z2t {e:Ex} {num nm:Bool} {a:Int} (h:z2x e num nm a 0=true):e.arms=[]:=by
 simp only [z2x,Bool.and_eq_true,Bool.or_eq_true,decide_eq_true_eq] at h
 rcases h.2 with h | h
 ·omega
 ·exact List.eq_nil_of_length_eq_zero (by omega)
structure Brief (T:Table):Prop where
 cons:∀n m,lget T.cons n=some m→n.size≤24
 funs:∀n f,lget T.funs n=some f→n.size≤24
 inputs:∀n t,lget T.inputs n=some t→n.size≤24
 datas:∀t d x,lget T.datas t=some d→x∈d.cons→x.name.size≤24
 dNo:lget T.datas sNo=none
structure Parts (T:Table) (e:Ex) (s:Scope):Prop where
 args:∀x∈e.args,∃s' u,(z1f x).Nodup∧Fresh s' (z1f x)∧Ty T x s' u∧∀m v,lget s' m=some v→m∈z1f e∨∃v',lget s m=some v'
 arms:∀a∈e.arms,(∃s' u,(z1f a.body).Nodup∧Fresh s' (z1f a.body)∧Ty T a.body s' u∧∀m v,lget s' m=some v→m∈z1f e∨∃v',lget s m=some v')∧∃n d c,lget T.datas n=some d∧c∈d.cons∧a.con=c.name
 name:e.name.size≤1∨e.name∈z1f e∨(∃v,lget s e.name=some v)∨(∃v,lget T.inputs e.name=some v)∨(∃m,lget T.cons e.name=some m)∨(∃f,lget T.funs e.name=some f)
 case1:e.kind=7→0 < e.args.length
 inp:e.kind=3→∃u,lget T.inputs e.name=some u
theorem typed_parts {T:Table} (hT0:lget T.datas sNo=none) {e:Ex} {s:Scope} {t:Bs} (hn0:(z1f e).Nodup) (hf0:Fresh s (z1f e)) (ht:Ty T e s t):Parts T e s:=by
  obtain ⟨ht,hne⟩:=ht
  have hka:∀x∈e.args,Keeps T x:=fun x hx=>keeps_ok T hT0 _ x (Nat.lt_succ_self _)
  have hkb:∀a∈e.arms,Keeps T a.body:=fun a ha=>keeps_ok T hT0 _ a.body (Nat.lt_succ_self _)
  have hbe:=z6x e
  have hn:=hn0
  have hf:=hf0
  rw [hbe] at hn hf
  have hn1:=z1a hn
  have hn2:=z1a hn1.1
  have hfa:Fresh s (bindPs e.args):=hf.sub fun m hm=>List.mem_append.2 (.inl (List.mem_append.2 (.inr hm)))
  have hfb:Fresh s (bindPa e.arms):=hf.sub fun m hm=>List.mem_append.2 (.inr hm)
  have all:∀ts,All2 (fun x t=>Ty T x s t) e.args ts→∀x∈e.args,∃s' u,(z1f x).Nodup∧Fresh s' (z1f x)∧Ty T x s' u∧∀m v,lget s' m=some v→m∈z1f e∨∃v',lget s m=some v':=fun ts ha x hx=>by
   obtain ⟨u,_,hu⟩:=All2.left ha x hx
   obtain ⟨p,q,hpq⟩:=mem_bindPs hx
   have k1:(z1f x).Nodup:=by have:=hn2.2.1;rw [hpq] at this;exact (z1a (z1a this).1).2.1
   exact ⟨s,u,k1,hfa.sub fun m hm=>by rw [hpq];simp [hm],hu,fun m v h=>.inr ⟨v,h⟩⟩
  by_cases h1:e.kind=1
  ·rw [y1b T e s h1] at ht
   simp only [y1v] at ht
   split at ht
   ·rename_i hbr
    exact ⟨by rw [z8c hbr];simp,by rw [z2t hbr];simp,.inl (by rw [bare_name hbr];decide),fun h=>by omega,fun h=>by omega⟩
   ·exact absurd ht.symm hne
  by_cases h2:e.kind=2
  ·rw [y1c T e s h2] at ht
   simp only [z5r] at ht
   split at ht
   ·rename_i hbr
    cases hl:lget s e.name with
    | none=>rw [hl] at ht;exact absurd ht.symm hne
    | some u=>exact ⟨by rw [z8c hbr];simp,by rw [z2t hbr];simp,.inr (.inr (.inl ⟨u,hl⟩)),fun h=>by omega,fun h=>by omega⟩
   ·exact absurd ht.symm hne
  by_cases h3:e.kind=3
  ·rw [y0z T e s h3] at ht
   simp only [inputT] at ht
   split at ht
   ·rename_i hbr
    cases hl:lget T.inputs e.name with
    | none=>rw [hl] at ht;exact absurd ht.symm hne
    | some u=>exact ⟨by rw [z8c hbr];simp,by rw [z2t hbr];simp,.inr (.inr (.inr (.inl ⟨u,hl⟩))),fun h=>by omega,fun _=>⟨u,hl⟩⟩
   ·exact absurd ht.symm hne
  by_cases h4:e.kind=4
  ·rw [y0y T e s h4] at ht
   unfold conT at ht
   split at ht
   ·exact absurd ht.symm hne
   ·rename_i m hm
    split at ht
    ·rename_i hbr
     split at ht
     ·rename_i ha
      exact ⟨all _ (z7q hka hn2.2.1 hfa ha).2,by rw [z2t hbr];simp,.inr (.inr (.inr (.inr (.inl ⟨m,hm⟩)))),fun h=>by omega,fun h=>by omega⟩
     ·exact absurd ht.symm hne
    ·exact absurd ht.symm hne
  by_cases h5:e.kind=5
  ·rw [z9e T e s h5] at ht
   unfold callT at ht
   split at ht
   ·exact absurd ht.symm hne
   ·rename_i f hm
    split at ht
    ·rename_i hbr
     split at ht
     ·rename_i ha
      exact ⟨all _ (z7q hka hn2.2.1 hfa ha).2,by rw [z2t hbr];simp,.inr (.inr (.inr (.inr (.inr ⟨f,hm⟩)))),fun h=>by omega,fun h=>by omega⟩
     ·exact absurd ht.symm hne
    ·exact absurd ht.symm hne
  by_cases h6:e.kind=6
  ·rw [y1a T e s h6] at ht
   unfold letT at ht
   split at ht
   ·rename_i hbr
    have hl:=z3q (n:=2) hbr
    obtain ⟨x,y,hxy⟩:∃x y,e.args=[x,y]:=by
     cases ha:e.args with
     | nil=>rw [ha] at hl;simp at hl
     | cons a l =>
      cases l with
      | nil=>rw [ha] at hl;simp at hl
      | cons b l =>
       rw [ha] at hl
       simp only [List.length_cons] at hl
       have:l=[]:=List.eq_nil_of_length_eq_zero (by omega)
       subst this;exact ⟨a,b,rfl⟩
    have hx:e.args[0]? = some x:=by rw [hxy];rfl
    have hy:e.args[1]? = some y:=by rw [hxy];rfl
    by_cases h0:(z0f T x s).1=sNo
    ·rw [letP_no hx h0] at ht;exact absurd ht.symm hne
    ·rw [letP_yes hx hy h0] at ht
     simp only at ht
     have hmx:x∈e.args:=by rw [hxy];simp
     simp only [if_pos h6,hxy,bindPs,List.append_nil] at hn hf
     have hm1:=z1a hn
     have hm2:=z1a hm1.1
     have hm3:=z1a hm2.2.1
     have hfx:Fresh s (z1f x):=hf.sub fun m hm=>by simp [hm]
     have e1:=hka x hmx s hm3.1 hfx h0
     have hen:e.name∈z1f e:=by rw [hbe,if_pos h6];simp
     have hkey:Fresh (lput s e.name (z0f T x s).1) (z1f y):=fun m hm=>by
      rw [z7b,if_neg]
      ·exact hf m (by simp [hm])
      ·rintro rfl
       exact hm2.2.2 e.name (by simp) (by simp [hm])
     rw [e1] at ht
     refine ⟨fun z hz =>?_,by rw [z2t hbr];simp,.inr (.inl hen),fun h=>by omega,fun h=>by omega⟩
     rw [hxy] at hz
     rcases List.mem_cons.1 hz with rfl | hz
     ·exact ⟨s,_,hm3.1,hfx,⟨rfl,h0⟩,fun m v h=>.inr ⟨v,h⟩⟩
     ·rcases List.mem_cons.1 hz with rfl | hz
      ·refine ⟨_,t,hm3.2.1,hkey,⟨ht,hne⟩,fun m u hm =>?_⟩
       rw [z7b] at hm
       split at hm
       ·rename_i h;rw [h];exact .inl hen
       ·exact .inr ⟨u,hm⟩
      ·cases hz
   ·exact absurd ht.symm hne
  by_cases h7:e.kind=7
  ·rw [z9f T e s h7] at ht
   unfold z3x at ht
   split at ht
   ·rename_i hbr
    have hl:=z3q (n:=1) hbr
    obtain ⟨x,hxy⟩:∃x,e.args=[x]:=by
     cases ha:e.args with
     | nil=>rw [ha] at hl;simp at hl
     | cons a l =>
      rw [ha] at hl
      simp only [List.length_cons] at hl
      have:l=[]:=List.eq_nil_of_length_eq_zero (by omega)
      subst this;exact ⟨a,rfl⟩
    have hx:e.args[0]? = some x:=by rw [hxy];rfl
    have hmx:x∈e.args:=by rw [hxy];simp
    rw [z2r hx] at ht
    split at ht
    ·exact absurd ht.symm hne
    ·rename_i d hd
     split at ht
     ·rename_i hle
      have h0:(z0f T x s).1≠sNo:=fun e0=>by rw [e0,hT0] at hd;cases hd
      rw [hxy] at hn2 hfa
      simp only [bindPs,List.append_nil] at hn2 hfa
      have e1:=hka x hmx s hn2.2.1 hfa h0
      rw [e1] at ht
      have hsp:=splitP_inv hne hkb hle hn1.2.1 hfb ht
      refine ⟨fun z hz =>?_,fun a ha =>?_,.inl (by rw [bare_name hbr];decide),fun _=>by omega,fun h=>by omega⟩
      ·rw [hxy] at hz
       rcases List.mem_cons.1 hz with rfl | hz
       ·exact ⟨s,_,hn2.2.1,hfa,⟨rfl,h0⟩,fun m v h=>.inr ⟨v,h⟩⟩
       ·cases hz
      ·obtain ⟨k,hk,q3,q4,q5⟩:=All2.left hsp.2.1 a ha
       obtain ⟨l,r,hlr⟩:=mem_bindPa ha
       have hnn:(a.vars++z1f a.body).Nodup:=by
        have:=hn1.2.1
        rw [hlr] at this
        exact (z1a (z1a this).1).2.1
       have hff:Fresh s (a.vars++z1f a.body):=hfb.sub fun m hm=>by rw [hlr];simp at hm ⊢;rcases hm with hm | hm <;> simp [hm]
       have hnn':=z1a hnn
       refine ⟨⟨z3e s a.vars k.fields,t,hnn'.2.1,fun m hm=>by
        rw [z3u (fun hp=>hnn'.2.2 m hp hm)];exact hff m (List.mem_append.2 (.inr hm)),q5,fun m u hm =>?_⟩,_,d,k,hd,hk,q3⟩
       by_cases hv:m∈a.vars
       ·exact .inl (by rw [hbe,hlr];simp [hv])
       ·rw [z3u hv] at hm;exact .inr ⟨u,hm⟩
     ·exact absurd ht.symm hne
   ·exact absurd ht.symm hne
  by_cases h8:e.kind=8
  ·rw [typedP_op T e s h8] at ht
   unfold opsT at ht
   split at ht
   ·rename_i hbr
    split at ht
    ·rename_i ha
     refine ⟨all _ (z7q hka hn2.2.1 hfa ha).2,by rw [z2t hbr];simp,.inl ?_,fun h=>by omega,fun h=>by omega⟩
     simp only at ht
     unfold opT at ht
     split at ht
     ·rename_i ho
      rcases ho with h | h | h | h | h <;> rw [h] <;> decide
     ·split at ht
      ·rename_i ho
       rcases ho with h | h <;> rw [h] <;> decide
      ·exact absurd ht.symm hne
    ·exact absurd ht.symm hne
   ·exact absurd ht.symm hne
  rw [z9g T e s h1 h2 h3 h4 h5 h6 h7 h8] at ht
  exact absurd ht.symm hne
theorem wf_typed {T:Table} (hB:Brief T):∀(n:Nat) (e:Ex),e.sz < n→∀(s:Scope) (t:Bs),(z1f e).Nodup→Fresh s (z1f e)→Ty T e s t→(∀m∈z1f e,m.size≤24)→(∀m u,lget s m=some u→m.size≤24)→numsE e→wfE e=true
 | 0,_,h=>by omega
 | n+1,e,hsz=>by
  intro s t hn hf ht hb hs hnum
  obtain ⟨hi64,hna,hnb⟩:=numsE_eq hnum
  have hp:=typed_parts hB.dNo hn hf ht
  have hbx:∀x∈e.args,∀m∈z1f x,m.size≤24:=fun x hx m hm=>hb m (by
   obtain ⟨p,q,hpq⟩:=mem_bindPs hx
   rw [z6x,hpq];simp [hm])
  have hba:∀a∈e.arms,∀m∈a.vars++z1f a.body,m.size≤24:=fun a ha m hm=>hb m (by
   obtain ⟨p,q,hpq⟩:=mem_bindPa ha
   rw [z6x,hpq];simp at hm ⊢;rcases hm with hm | hm <;> simp [hm])
  have hsc:∀s':Scope,(∀m v,lget s' m=some v→m∈z1f e∨∃v',lget s m=some v')→∀m u,lget s' m=some u→m.size≤24:=fun s' h m u hm=>by
   rcases h m u hm with h | ⟨v,h⟩
   ·exact hb m h
   ·exact hs m v h
  refine wfE_of hp.case1 (fun x hx =>?_) (fun a ha =>?_) ?_ hi64
  ·obtain ⟨s',u,a1,a2,a3,a4⟩:=hp.args x hx
   exact wf_typed hB n x (by have:=Ex.lt_args hx;omega) s' u a1 a2 a3 (hbx x hx) (hsc s' a4) (hna x hx)
  ·obtain ⟨⟨s',u,a1,a2,a3,a4⟩,k,d,c,h1,h2,h3⟩:=hp.arms a ha
   exact ⟨wf_typed hB n a.body (by have:=Ex.lt_arms ha;omega) s' u a1 a2 a3 (fun m hm=>hba a ha m (List.mem_append.2 (.inr hm))) (hsc s' a4) (hnb a ha),by rw [h3];exact hB.datas _ _ _ h1 h2,
    fun v hv=>hba a ha v (List.mem_append.2 (.inl hv))⟩
  ·rcases hp.name with h | h | ⟨v,h⟩ | ⟨v,h⟩ | ⟨v,h⟩ | ⟨v,h⟩
   ·omega
   ·exact hb _ h
   ·exact hs _ _ h
   ·exact hB.inputs _ _ h
   ·exact hB.cons _ _ h
   ·exact hB.funs _ _ h
theorem quiet_typed {T:Table} (hT0:lget T.datas sNo=none) (hin:∀n,lget T.inputs n=none):∀(n:Nat) (e:Ex),e.sz < n→∀(s:Scope) (t:Bs),(z1f e).Nodup→Fresh s (z1f e)→Ty T e s t→z4a e=false
 | 0,_,h=>by omega
 | n+1,e,hsz=>by
  intro s t hn hf ht
  have hp:=typed_parts hT0 hn hf ht
  rw [z8t]
  simp only [Bool.or_eq_false_iff,decide_eq_false_iff_not,List.any_eq_false,Bool.not_eq_true]
  refine ⟨⟨fun h =>?_,fun x hx =>?_⟩,fun a ha =>?_⟩
  ·obtain ⟨u,hu⟩:=hp.inp h;rw [hin] at hu;cases hu
  ·obtain ⟨s',u,a1,a2,a3,_⟩:=hp.args x hx
   exact quiet_typed hT0 hin n x (by have:=Ex.lt_args hx;omega) s' u a1 a2 a3
  ·obtain ⟨⟨s',u,a1,a2,a3,_⟩,_⟩:=hp.arms a ha
   exact quiet_typed hT0 hin n a.body (by have:=Ex.lt_arms ha;omega) s' u a1 a2 a3
theorem z8p {s:Bs} (h:z0q s=true):s.size≤24:=by
 simp only [z0q,z6k,decide_eq_true_eq] at h
 split at h
 ·cases h
 ·omega
theorem con_size {s:Bs} (h:z0u s=true):s.size≤24:=by
 simp only [z0u,z6k,decide_eq_true_eq] at h
 split at h
 ·cases h
 ·omega
theorem brief_of {c:Core} (hR:Right c):Brief (z0i c) where
 cons n m h:=by
  rw [hR.cons] at h
  obtain ⟨d,hd,_,h2,rfl⟩:=consE_mem h
  exact con_size ((hR.dN d hd).2.2.2 _ h2)
 funs n f h:=by
  rw [hR.funs] at h
  obtain ⟨x,hx,rfl,_⟩:=z2z h
  exact z8p (hR.fN x hx)
 inputs n t h:=by
  rw [hR.inputs] at h
  obtain ⟨x,hx,rfl,_⟩:=z2z h
  exact z8p (hR.iN x hx)
 datas t d x h hx:=by
  rw [hR.datas] at h
  obtain ⟨y,hy,rfl,rfl⟩:=z2z h
  exact con_size ((hR.dN y hy).2.2.2 _ hx)
 dNo:=(sound_of (inp:=[]) hR).dNo
theorem wf_body {c:Core} (hR:Right c) {f:Fun} (hf:f∈c.funs) (hn:numsE f.body):wfE f.body=true:=by
 have h1:=hR.fOk f hf
 have h3:=h1
 simp only [z7k,Bool.and_eq_true,decide_eq_true_eq] at h1
 obtain ⟨a1,_,a3⟩:=z6a h1.1.2
 have a4:=z1a a1
 refine wf_typed (brief_of hR) _ f.body (Nat.lt_succ_self _) (scopeP f.params) f.result a4.2.1 (fun m hm =>?_) ⟨h1.2,type_ne hR h1.1.1.2⟩ (fun m hm=>z8p (a3 m (List.mem_append.2 (.inr hm)))) (fun m u hm =>?_) hn
 ·rw [z8x,z3u (fun hp=>a4.2.2 m hp hm)];rfl
 ·by_cases hv:m∈f.params.map Param.name
  ·exact z8p (a3 m (List.mem_append.2 (.inl hv)))
  ·rw [z8x,z3u hv] at hm;cases hm
theorem type_size {c:Core} (hR:Right c) {t:Bs} (h:z4k (z0i c) t=true):t.size≤24:=by
 simp only [z4k,Bool.or_eq_true,decide_eq_true_eq] at h
 rcases h with h | h
 ·rw [hR.datas] at h
  cases hg:lget (ents Data.name id (truthsD::c.datas)) t with
  | none=>rw [hg] at h;cases h
  | some d =>
   obtain ⟨x,hx,rfl,_⟩:=z2z hg
   exact con_size (hR.dN x hx).1
 ·rw [h];decide
theorem inDatas_zero (name:Bs):∀(l:List Data) (n:Int) (ok:Bool),(∀d∈l,d.name≠name)→(z7l name l n ok).1=n
 | [],_,_,_=>rfl
 | d::l,n,ok,h=>by
  simp only [z7l,if_neg (h d List.mem_cons_self)]
  exact inDatas_zero name l n ok fun x hx=>h x (List.mem_cons_of_mem _ hx)
theorem inT_size {c:Core} (hR:Right c) {t:Bs} (h:z2i c.datas t=true):t.size≤24:=by
 unfold z2i at h
 split at h
 ·rename_i e;rw [e];decide
 ·simp only [Bool.and_eq_true,decide_eq_true_eq] at h
  by_cases hx:∃d∈c.datas,d.name=t
  ·obtain ⟨d,hd,rfl⟩:=hx
   exact con_size (hR.dN d (List.mem_cons_of_mem _ hd)).1
  ·have:=inDatas_zero t c.datas 0 true (fun d hd e=>hx ⟨d,hd,e⟩)
   rw [this] at h;omega
theorem lens_le {m:Nat}:∀{l:List Bs},(∀x∈l,x.size≤m)→lens l≤l.length * m
 | [],_=>by simp [lens]
 | x::l,h=>by
  have h1:=h x List.mem_cons_self
  have h2:=lens_le (l:=l) fun y hy=>h y (List.mem_cons_of_mem _ hy)
  rw [z7a,List.length_cons,Nat.add_mul];omega
theorem joinP_le (sep:Bs) (l:List Bs):(z7w sep l).size≤lens l+sep.size * l.length:=by
 cases l with
 | nil=>show 0≤_;omega
 | cons x l =>
  have:∀(l:List Bs) (a:Bs),(l.foldl (fun a s=>a++sep++s) a).size=a.size+lens l+sep.size * l.length:=by
   intro l
   induction l with
   | nil=>intro a;simp [lens]
   | cons y l ih =>
    intro a
    rw [List.foldl_cons,ih,z0e,z0e,z7a,List.length_cons,Nat.mul_add];omega
  have h:=this l x
  simp only [z7w]
  rw [h,z7a,List.length_cons,Nat.mul_add];omega
theorem con_lens {c:Core} (hR:Right c) (hl:z5x c=false) {d:Data} (hd:d∈c.datas) {x:Con} (hx:x∈d.cons):lens (x.name::x.fields)+(⟨#[32]⟩:Bs).size * (x.name::x.fields).length≤425:=by
 have h1:=con_size ((hR.dN d (List.mem_cons_of_mem _ hd)).2.2.2 x hx)
 have h2:=hR.fields d hd
 simp only [z7u,List.all_eq_true] at h2
 have h3:lens x.fields≤x.fields.length * 24:=lens_le fun y hy=>type_size hR (h2 x hx y hy)
 have h4:x.fields.length≤16:=by
  simp only [z5x,Bool.or_eq_false_iff,List.any_eq_false] at hl
  have:=hl.1.2 d hd
  simp only [longD,Bool.or_eq_true,decide_eq_true_eq,List.any_eq_true,not_or,not_exists,not_and] at this
  have:=this.2 x hx
  omega
 have h5:(⟨#[32]⟩:Bs).size=1:=rfl
 rw [h5,z7a,List.length_cons];omega
theorem data_lens {c:Core} (hR:Right c) (hl:z5x c=false) {d:Data} (hd:d∈c.datas):lens (d.cons.map conT_)+(⟨#[32,124,32]⟩:Bs).size * (d.cons.map conT_).length≤6848:=by
 have h4:d.cons.length≤16:=by
  simp only [z5x,Bool.or_eq_false_iff,List.any_eq_false] at hl
  have:=hl.1.2 d hd
  simp only [longD,Bool.or_eq_true,decide_eq_true_eq,not_or] at this
  omega
 have h3:lens (d.cons.map conT_)≤(d.cons.map conT_).length * 425:=lens_le fun y hy=>by
  obtain ⟨x,hx,rfl⟩:=List.mem_map.1 hy
  exact Nat.le_trans (joinP_le _ _) (con_lens hR hl hd hx)
 have h5:(⟨#[32,124,32]⟩:Bs).size=3:=rfl
 rw [h5];rw [List.length_map] at h3 ⊢;omega
theorem print_size {c:Core} (h:z2c c=0) (hn:∀f∈c.funs,numsE f.body):(z4l c).size≤8796093022208:=by
 have hR:=z6c h
 obtain ⟨hl,_⟩:=z5a h
 have hl2:=hl
 simp only [z5x,Bool.or_eq_false_iff,decide_eq_false_iff_not] at hl2
 obtain ⟨⟨⟨⟨⟨l1,l2⟩,l3⟩,l4⟩,_⟩,_⟩:=hl2
 have k1:(catB (c.datas.map dataB)).size≤(c.datas.map dataB).length * 7000:=y0k fun y hy=>by
  obtain ⟨d,hd,rfl⟩:=List.mem_map.1 hy
  have q1:=con_size (hR.dN d (List.mem_cons_of_mem _ hd)).1
  have q2:=Nat.le_trans (joinP_le _ _) (data_lens hR hl hd)
  simp only [dataB,z0e]
  have e1:(⟨#[100,97,116,97,32]⟩:Bs).size=5:=rfl
  have e2:(⟨#[32,61,32]⟩:Bs).size=3:=rfl
  have e3:(⟨#[10]⟩:Bs).size=1:=rfl
  omega
 have k2:(catB (c.inputs.map inputB)).size≤(c.inputs.map inputB).length * 100:=y0k fun y hy=>by
  obtain ⟨p,hp,rfl⟩:=List.mem_map.1 hy
  have q1:=z8p (hR.iN p hp)
  have q2:=inT_size hR (hR.inT p hp)
  simp only [inputB,z0e]
  have e1:(⟨#[105,110,112,117,116,32]⟩:Bs).size=6:=rfl
  have e2:(⟨#[32,58,32]⟩:Bs).size=3:=rfl
  have e3:(⟨#[10]⟩:Bs).size=1:=rfl
  omega
 have k3:(catB (c.funs.map funB)).size≤(c.funs.map funB).length * 4000000:=y0k fun y hy=>by
  obtain ⟨f,hf,rfl⟩:=List.mem_map.1 hy
  have q1:=z8p (hR.fN f hf)
  have h1:=hR.fOk f hf
  simp only [z7k,Bool.and_eq_true,decide_eq_true_eq,List.all_eq_true] at h1
  have q2:=type_size hR h1.1.1.2
  have q3:=long_fun hl hf
  obtain ⟨m,hm1,hm2⟩:=y0r hl hf
  have q4:=write_short f.body m (wf_body hR hf (hn f hf)) hm2
  have q5:=(z8o f.body m hm2).1
  have q6:=z3b f.body
  have q7:(catB (f.params.map y0u)).size≤(f.params.map y0u).length * 100:=y0k fun z hz=>by
   obtain ⟨p,hp,rfl⟩:=List.mem_map.1 hz
   have r1:=z8p ((z6a h1.1.2).2.2 p.name (List.mem_append.2 (.inl (List.mem_map_of_mem hp))))
   have r2:=type_size hR (h1.1.1.1 p hp)
   simp only [y0u,z0e]
   have e1:(⟨#[32,40]⟩:Bs).size=2:=rfl
   have e2:(⟨#[32,58,32]⟩:Bs).size=3:=rfl
   have e3:(⟨#[41]⟩:Bs).size=1:=rfl
   omega
  rw [List.length_map] at q7
  simp only [funB,z0e]
  have e1:(⟨#[102,117,110,32]⟩:Bs).size=4:=rfl
  have e2:(⟨#[32,58,32]⟩:Bs).size=3:=rfl
  have e3:(⟨#[32,61,32]⟩:Bs).size=3:=rfl
  have e4:(⟨#[10]⟩:Bs).size=1:=rfl
  omega
 have k4:(catB (c.outputs.map outB)).size≤(c.outputs.map outB).length * 100:=y0k fun y hy=>by
  obtain ⟨o,ho,rfl⟩:=List.mem_map.1 hy
  obtain ⟨f,hf,_⟩:=outsOk_get hR.oOk o ho
  have q1:=(brief_of hR).funs _ _ hf
  simp only [outB,z0e]
  have e1:(⟨#[111,117,116,112,117,116,32]⟩:Bs).size=7:=rfl
  have e3:(⟨#[10]⟩:Bs).size=1:=rfl
  omega
 rw [List.length_map] at k1 k2 k3 k4
 simp only [z4l,z0e]
 omega
end Go.Sw

namespace Go.Sw
def flushT (cur:Tx):List Tx:=if cur=[] then [] else [cur]
def z5g:Tx→Tx→List Tx
 | cur,[]=>flushT cur
 | cur,b::l=>if b=32∨b=10 then flushT cur++z5g [] l
  else if b=40∨b=41 then flushT cur++[b]::z5g [] l
  else z5g (cur++[b]) l
theorem tx_drop {t:Bs} {i:Nat} (h:i < t.size):(tx t).drop i=t[i]::(tx t).drop (i+1):=by
 have h1:(tx t).length=t.size:=z7n t
 rw [List.drop_eq_getElem_cons (by omega)]
 congr 1
theorem tx_end {t:Bs} {i:Nat} (h:¬i < t.size):(tx t).drop i=[]:=List.drop_of_length_le (by rw [z7n];omega)
theorem ofTx_extract {t:Bs} {i n:Nat}:t.extract i (i+n)=ofTx (((tx t).drop i).take n):=by
 apply ByteArray.ext
 rw [ByteArray.data_extract]
 apply Array.ext'
 simp only [ofTx,tx,Array.toList_extract,List.extract_eq_take_drop,Nat.add_sub_cancel_left]
theorem z8h {b:UInt8} {k:Nat} (hk:k < 256):b.toNat=k↔b=k.toUInt8:=by
 constructor
 ·intro h;apply UInt8.toNat_inj.1;rw [h,Nat.toUInt8,UInt8.toNat_ofNat'];omega
 ·intro h;rw [h,Nat.toUInt8,UInt8.toNat_ofNat'];omega
theorem wordsT_run {t:Bs} {i:Nat} (cur:Tx):∀n,n≤z1e t i→z5g cur ((tx t).drop i)=z5g (cur++((tx t).drop i).take n) ((tx t).drop (i+n))
 | 0,_=>by simp
 | n+1,h=>by
  rw [wordsT_run cur n (by omega)]
  have h1:=y1z (fun c => !sepB c) t t.size i n (by unfold z1e at h;omega)
  have h2:=tx_drop h1.1
  have h3:(((tx t).drop i).take (n+1))=((tx t).drop i).take n++[t[i+n]'h1.1]:=by
   have h6:((tx t).drop i)[n]? = some (t[i+n]'h1.1):=by
    rw [List.getElem?_drop]
    have:=congrArg (fun l=>l[0]?) h2
    simpa [List.getElem?_drop] using this
   rw [List.take_add_one,h6];rfl
  rw [h3,h2,show i+(n+1)=i+n+1 by omega,← List.append_assoc]
  have h4:=h1.2
  rw [z8g h1.1] at h4
  simp only [sepB,Bool.not_eq_true',Bool.or_eq_false_iff,decide_eq_false_iff_not] at h4
  have e (k:Nat) (hk:k < 256) (hn:¬(t[i+n]'h1.1).toNat=k):¬(t[i+n]'h1.1)=k.toUInt8:=fun h=>hn ((z8h hk).2 h)
  have e1:=e 32 (by decide) h4.1.1.1
  have e2:=e 10 (by decide) h4.1.1.2
  have e3:=e 40 (by decide) h4.1.2
  have e4:=e 41 (by decide) h4.2
  rw [z5g,if_neg (by rintro (h | h);exact e1 h;exact e2 h),if_neg (by rintro (h | h);exact e3 h;exact e4 h)]
theorem wordsT_flush {cur l:Tx} (h:l=[]∨∃b r,l=b::r∧(b=32∨b=10∨b=40∨b=41)):z5g cur l=flushT cur++z5g [] l:=by
 rcases h with rfl | ⟨b,r,rfl,h⟩
 ·simp [z5g,flushT]
 ·simp only [z5g]
  split
  ·simp [flushT]
  ·rename_i h1
   split
   ·simp [flushT]
   ·rename_i h2
    rcases h with h | h | h | h
    ·exact absurd (.inl h) h1
    ·exact absurd (.inr h) h1
    ·exact absurd (.inl h) h2
    ·exact absurd (.inr h) h2
theorem wordsT_eq (t:Bs):∀f i,t.size≤i+f→z5f t f i=(z5g [] ((tx t).drop i)).map ofTx
 | f,i,hf=>by
  by_cases h:i < t.size
  ·have hd:=tx_drop h
   have hb:=z8g h
   obtain ⟨f,rfl⟩:∃k,f=k+1:=⟨f - 1,by omega⟩
   by_cases h1:z0k t i=32∨z0k t i=10
   ·rw [words_sp h hf h1,hd,z5g,if_pos (by rw [hb] at h1;exact h1.imp (z8h (by decide)).1 (z8h (by decide)).1),wordsT_eq t _ (i+1) (by omega)];rfl
   ·have h1':¬(t[i]=32∨t[i]=10):=fun h=>h1 (by rw [hb];exact h.imp (z8h (by decide)).2 (z8h (by decide)).2)
    by_cases h2:z0k t i=40∨z0k t i=41
    ·rw [words_par h hf h1 h2,hd,z5g,if_neg h1',if_pos (by rw [hb] at h2;exact h2.imp (z8h (by decide)).1 (z8h (by decide)).1),wordsT_eq t _ (i+1) (by omega),ofTx_extract,hd];rfl
    ·rw [words_word h hf h1 h2]
     have hp:=wordLen_pos h h1 h2
     have hle:=wordLen_le (Nat.le_of_lt h)
     rw [wordsT_run [] (z1e t i) (Nat.le_refl _),List.nil_append,wordsT_eq t _ (i+z1e t i) (by omega),wordsT_flush (cur:=((tx t).drop i).take (z1e t i)) ?_]
     ·have hne:((tx t).drop i).take (z1e t i)≠[]:=by
       rw [hd];intro e
       obtain ⟨k,hk⟩:∃k,z1e t i=k+1:=⟨z1e t i - 1,by omega⟩
       rw [hk] at e;cases e
      rw [flushT,if_neg hne,ofTx_extract];rfl
     ·by_cases he:i+z1e t i < t.size
      ·have h5:=runB_end (fun c => !sepB c) t t.size i (by omega) he
       refine .inr ⟨_,_,tx_drop he,?_⟩
       rw [show i+runB (fun c => !sepB c) t t.size i=i+z1e t i from rfl,z8g he] at h5
       simp only [sepB,Bool.not_eq_false',Bool.or_eq_true,decide_eq_true_eq] at h5
       rcases h5 with ((h5 | h5) | h5) | h5
       ·exact .inl ((z8h (by decide)).1 h5)
       ·exact .inr (.inl ((z8h (by decide)).1 h5))
       ·exact .inr (.inr (.inl ((z8h (by decide)).1 h5)))
       ·exact .inr (.inr (.inr ((z8h (by decide)).1 h5)))
      ·exact .inl (tx_end he)
  ·rw [words_end h,tx_end h];rfl
termination_by f=>f
theorem wordsF_eq (t:Bs):wordsF t=(z5g [] (tx t)).map ofTx:=wordsT_eq t t.size 0 (by omega)
def IsSep (b:UInt8):Prop:=b=32∨b=10∨b=40∨b=41
def z5e (l:Tx):Prop:=l=[]∨∃b r,l=b::r∧IsSep b
def Word (w:Bs):Prop:=w≠⟨#[]⟩∧∀b∈tx w,¬IsSep b
def wds (l:Tx):List Bs:=(z5g [] l).map ofTx
theorem wordsT_word {w:Tx} (h:∀b∈w,¬IsSep b):∀cur l,z5g cur (w++l)=z5g (cur++w) l:=by
 induction w with
 | nil=>intro cur l;simp
 | cons b w ih =>
  intro cur l
  have hb:=h b List.mem_cons_self
  rw [List.cons_append,z5g,if_neg (fun h=>hb (h.imp id .inl)),if_neg (fun h=>hb (.inr (.inr h))),ih (fun x hx=>h x (List.mem_cons_of_mem _ hx)),List.append_assoc];rfl
theorem tx_nil {w:Bs} (h:tx w=[]):w=⟨#[]⟩:=by
 have:=ofTx_tx w
 rw [h] at this;exact this.symm
theorem z1h {w:Bs} {l:Tx} (h:Word w) (hl:z5e l):wds (tx w++l)=w::wds l:=by
 have hne:tx w≠[]:=fun e=>h.1 (tx_nil e)
 unfold wds
 rw [wordsT_word h.2,List.nil_append,wordsT_flush hl,flushT,if_neg hne]
 simp only [List.singleton_append,List.map_cons,ofTx_tx]
theorem wds_nil:wds []=[]:=rfl
theorem z4i (l:Tx):wds (32::l)=wds l:=by unfold wds;rw [z5g,if_pos (.inl rfl)];rfl
theorem wds_nl (l:Tx):wds (10::l)=wds l:=by unfold wds;rw [z5g,if_pos (.inr rfl)];rfl
theorem wds_opn (l:Tx):wds (40::l)=sOpn::wds l:=by unfold wds;rw [z5g,if_neg (by decide),if_pos (.inl rfl)];rfl
theorem wds_cls (l:Tx):wds (41::l)=sCls::wds l:=by unfold wds;rw [z5g,if_neg (by decide),if_pos (.inr rfl)];rfl
theorem z1i (l:Tx):z5e (32::l):=.inr ⟨_,_,rfl,.inl rfl⟩
theorem parted_nl (l:Tx):z5e (10::l):=.inr ⟨_,_,rfl,.inr (.inl rfl)⟩
theorem z3j (l:Tx):z5e (41::l):=.inr ⟨_,_,rfl,.inr (.inr (.inr rfl))⟩
end Go.Sw

namespace Go.Sw
theorem name_bytes {t:Bs} {pos:Nat}:∀j,j < z2d t pos→z2k (z0k t (pos+j))=true∨z0k t (pos+j)=39:=by
 intro j hj
 unfold z2d at hj
 split at hj
 ·rename_i h39
  split at hj
  ·by_cases h1:j < runB z2k t t.size pos
   ·exact .inl (y1z _ _ _ _ _ h1).2
   ·by_cases h2:j=runB z2k t t.size pos
    ·exact .inr (by rw [h2];exact h39)
    ·have h3:=(y1z z1y t t.size (pos+(runB z2k t t.size pos+1)) (j - (runB z2k t t.size pos+1)) (by omega)).2
     rw [show pos+(runB z2k t t.size pos+1)+(j - (runB z2k t t.size pos+1))=pos+j by omega] at h3
     exact .inl (by simp [z2k,h3])
  ·exact .inl (y1z _ _ _ _ _ hj).2
 ·exact .inl (y1z _ _ _ _ _ hj).2
theorem nameF_inv {t:Bs} {pos:Nat} {kd:Int} {k:Tok} (h:z7c t pos kd=.ok k):(k.kind=5∨k.kind=kd)∧k.text=t.extract pos (pos+z2d t pos):=by
 unfold z7c at h
 split at h
 ·cases h
 ·simp only [Except.ok.injEq] at h
  subst h
  refine ⟨?_,rfl⟩
  simp only
  split
  ·exact .inl rfl
  ·exact .inr rfl
theorem token_ident {t:Bs} {pos:Nat} {k:Tok} (h:z0r t pos=.ok k) (hk:k.kind=2∨k.kind=3):((k.kind=2∧z8y (z0k t pos)=true)∨(k.kind=3∧z9t (z0k t pos)=true))∧k.text=t.extract pos (pos+z2d t pos):=by
 unfold z0r at h
 split at h
 ·unfold numF at h
  split at h
  ·cases h
  ·split at h
   ·cases h
   ·simp only [Except.ok.injEq] at h;subst h;simp only at hk;omega
 split at h
 ·rename_i hs
  obtain ⟨h1,h2⟩:=nameF_inv h
  exact ⟨.inl ⟨by omega,hs⟩,h2⟩
 split at h
 ·rename_i hs
  obtain ⟨h1,h2⟩:=nameF_inv h
  exact ⟨.inr ⟨by omega,hs⟩,h2⟩
 split at h
 ·obtain ⟨_,rfl⟩:=madeF_ok h;simp only at hk;omega
 split at h
 ·obtain ⟨_,rfl⟩:=madeF_ok h;simp only at hk;omega
 split at h
 ·obtain ⟨_,rfl⟩:=madeF_ok h;simp only at hk;omega
 ·cases h
theorem ident_of' {s:Bs} {κ:Int} (hk:z6k s=κ) (h:κ=2∨κ=3):0 < s.size∧((κ=2∧z8y (z0k s 0)=true)∨(κ=3∧z9t (z0k s 0)=true))∧∀j,j < s.size→z2k (z0k s j)=true∨z0k s j=39:=by
 unfold z6k at hk
 split at hk
 ·omega
 split at hk
 ·rename_i k ht
  split at hk
  ·rename_i hks
   unfold y2b at ht
   rw [toksP] at ht
   split at ht
   ·cases ht
   rename_i q hq
   split at ht
   ·rename_i hlt
    split at ht
    ·cases ht
    rename_i k' hk'
    split at ht
    ·cases ht
    simp only [Except.ok.injEq,List.cons.injEq] at ht
    obtain ⟨rfl,_⟩:=ht
    obtain ⟨h1,h2⟩:=token_ident hk' (by omega)
    have h3:(s.extract q (q+z2d s q)).size=s.size:=by rw [← h2,hks]
    rw [ByteArray.size_extract] at h3
    have h4:q=0:=by omega
    subst h4
    refine ⟨hlt,?_,fun j hj =>?_⟩
    ·rcases h1 with ⟨a,b⟩ | ⟨a,b⟩
     ·exact .inl ⟨by omega,b⟩
     ·exact .inr ⟨by omega,b⟩
    ·have:=name_bytes (t:=s) (pos:=0) j (by omega)
     rwa [Nat.zero_add] at this
   ·cases ht
  ·omega
 ·omega
theorem ident_of {s:Bs} (h:z6k s=2∨z6k s=3):0 < s.size∧((z6k s=2∧z8y (z0k s 0)=true)∨(z6k s=3∧z9t (z0k s 0)=true))∧∀j,j < s.size→z2k (z0k s j)=true∨z0k s j=39:=ident_of' rfl h
theorem tx_mem {s:Bs} {b:UInt8} (h:b∈tx s):∃j,j < s.size∧z0k s j=b.toNat:=by
 obtain ⟨j,hj,rfl⟩:=List.getElem_of_mem h
 have h1:=z7n s
 refine ⟨j,by omega,?_⟩
 rw [z8g (by omega)]
 simp only [tx,Array.getElem_toList];rfl
theorem sep_nat {b:UInt8} (h:IsSep b):b.toNat=32∨b.toNat=10∨b.toNat=40∨b.toNat=41:=by
 rcases h with rfl | rfl | rfl | rfl <;> decide
theorem ident_word {s:Bs} (h:z6k s=2∨z6k s=3):Word s:=by
 obtain ⟨h1,_,h3⟩:=ident_of h
 refine ⟨fun e=>by rw [e] at h1;exact absurd h1 (by decide),fun b hb hs =>?_⟩
 obtain ⟨j,hj,e⟩:=tx_mem hb
 have h4:=h3 j hj
 have h5:=sep_nat hs
 rw [e] at h4
 simp only [z2k,z8y,z9t,z1y,Bool.or_eq_true,Bool.and_eq_true,decide_eq_true_eq] at h4
 omega
theorem name_kind {s:Bs} (h:z0q s=true):z6k s=2:=by simpa [z0q] using h
theorem con_kind {s:Bs} (h:z0u s=true):z6k s=3:=by simpa [z0u] using h
theorem itoa_head (n:Int):∃b r,itoaL n=b::r∧(b=45∨(48≤b.toNat∧b.toNat≤57)):=by
 unfold itoaL
 split
 ·exact ⟨_,_,rfl,.inl rfl⟩
 ·have h:∀u,digsL u=Lib.decDigits u:=fun u=>digsR_dec (u+1) u (Nat.lt_succ_self _)
  rw [h]
  have:∀f u,u < f→∃b r,Lib.decDigits u=b::r∧(48≤b.toNat∧b.toNat≤57):=by
   intro f
   induction f with
   | zero=>intro u hu;omega
   | succ f ih =>
    intro u hu
    rw [Lib.decDigits]
    by_cases hn:u < 10
    ·rw [dif_pos hn]
     refine ⟨_,_,rfl,?_⟩
     simp [Nat.toUInt8,UInt8.toNat_ofNat'];omega
    ·rw [dif_neg hn]
     obtain ⟨b,r,e,hb⟩:=ih (u / 10) (by omega)
     exact ⟨b,r++_,by rw [e];rfl,hb⟩
  obtain ⟨b,r,e,hb⟩:=this (n.toNat+1) n.toNat (Nat.lt_succ_self _)
  exact ⟨b,r,e,.inr hb⟩
theorem digs_bytes:∀(f n:Nat),∀b∈digsR f n,48≤b.toNat∧b.toNat≤57
 | 0,_,_,h=>by cases h
 | f+1,n,b,h=>by
  simp only [digsR] at h
  split at h
  ·simp only [List.mem_singleton] at h;subst h;simp [Nat.toUInt8,UInt8.toNat_ofNat'];omega
  ·rcases List.mem_cons.1 h with rfl | h
   ·simp [Nat.toUInt8,UInt8.toNat_ofNat'];omega
   ·exact digs_bytes f _ b h
theorem itoa_bytes {n:Int}:∀b∈itoaL n,b=45∨(48≤b.toNat∧b.toNat≤57):=by
 intro b hb
 unfold itoaL at hb
 split at hb
 ·rcases List.mem_cons.1 hb with rfl | hb
  ·exact .inl rfl
  ·exact .inr (digs_bytes _ _ b (List.mem_reverse.1 hb))
 ·exact .inr (digs_bytes _ _ b (List.mem_reverse.1 hb))
theorem tx_ofTx (l:Tx):tx (ofTx l)=l:=by simp [tx,ofTx]
theorem num_word (n:Int):Word (z9o n):=by
 obtain ⟨b,r,e,_⟩:=itoa_head n
 rw [itoaP_eq]
 refine ⟨fun h =>?_,fun b hb hs =>?_⟩
 ·have:=congrArg tx h
  rw [tx_ofTx,e] at this;cases this
 ·rw [tx_ofTx] at hb
  have h1:=itoa_bytes b hb
  have h2:=sep_nat hs
  rcases h1 with rfl | h1
  ·exact absurd h2 (by decide)
  ·omega
theorem byteAt_tx {s:Bs} {b:UInt8} {r:Tx} (h:tx s=b::r):z0k s 0=b.toNat:=by
 have h1:=z7n s
 rw [h,List.length_cons] at h1
 have h2:=tx_drop (t:=s) (i:=0) (by omega)
 rw [List.drop_zero,h] at h2
 rw [z8g (by omega)]
 injection h2 with h2 _;rw [h2]
theorem ident_int {s:Bs} (h:z6k s=2∨z6k s=3):intP s=none:=by
 obtain ⟨_,h2,_⟩:=ident_of h
 cases hi:intP s with
 | none=>rfl
 | some n =>
  unfold intP at hi
  split at hi
  ·split at hi
   ·rename_i v _ e
    obtain ⟨b,r,e1,e2⟩:=itoa_head v
    rw [itoaP_eq] at e
    have h3:z0k s 0=b.toNat:=byteAt_tx (r:=r) (by rw [← e,tx_ofTx,e1])
    rw [h3] at h2
    simp only [z8y,z9t,Bool.and_eq_true,decide_eq_true_eq] at h2
    rcases e2 with rfl | e2
    ·rcases h2 with h2 | h2 <;> exact absurd h2.2 (by decide)
    ·omega
   ·cases hi
  ·cases hi
end Go.Sw

namespace Go.Sw
theorem parse_digs:∀(f u:Nat),u < f→u≤9223372036854775808→∀r,Lib.parseUint10 0 (Lib.decDigits u++r)=Lib.parseUint10 u r
 | 0,_,h,_,_=>by omega
 | f+1,u,h,hu,r=>by
  rw [Lib.decDigits]
  by_cases hn:u < 10
  ·rw [dif_pos hn,List.singleton_append,Lib.parseUint10]
   have e:(UInt8.ofNat (48+u)).toNat=48+u:=by rw [UInt8.toNat_ofNat'];omega
   rw [e,if_pos (by omega),if_neg (by omega),if_neg (by omega)]
   congr 1;omega
  ·rw [dif_neg hn,List.append_assoc,parse_digs f (u / 10) (by omega) (by omega),List.singleton_append,Lib.parseUint10]
   have e:(UInt8.ofNat (48+u % 10)).toNat=48+u % 10:=by rw [UInt8.toNat_ofNat'];omega
   rw [e,if_pos (by omega),if_neg (by omega),if_neg (by omega)]
   congr 1;omega
theorem digs_ne (u:Nat):Lib.decDigits u≠[]:=by
 rw [Lib.decDigits];split <;> simp
theorem parse_mag {u:Nat} (h:u≤9223372036854775808):Lib.parseMag (Lib.decDigits u)=.ok u:=by
 unfold Lib.parseMag
 rw [if_neg (digs_ne u)]
 have:=parse_digs (u+1) u (Nat.lt_succ_self _) h []
 rw [List.append_nil] at this
 rw [this];rfl
theorem digs_head (u:Nat):∃b r,Lib.decDigits u=b::r∧48≤b.toNat∧b.toNat≤57:=by
 obtain ⟨b,r,e,h⟩:=itoa_head (u:Int)
 have e2:itoaL (u:Int)=Lib.decDigits u:=by rw [← itoa_eq];unfold Lib.itoa;rw [if_neg (by omega)];rfl
 rw [e2] at e
 rcases h with rfl | h
 ·exfalso
  have h1:(45:UInt8)∈Lib.decDigits u:=by rw [e];exact List.mem_cons_self
  rw [← digsR_dec (u+1) u (Nat.lt_succ_self _)] at h1
  have:=digs_bytes _ _ _ (List.mem_reverse.1 h1)
  exact absurd this (by decide)
 ·exact ⟨b,r,e,h⟩
theorem atoi_itoa {n:Int} (h:I64 n):Lib.atoiAll (Lib.itoa n)=.ok n:=by
 unfold I64 at h
 unfold Lib.itoa
 split
 ·rename_i hn
  have h1:=parse_mag (u:=n.natAbs) (by omega)
  simp only [Lib.atoiAll]
  rw [if_pos (.inr rfl),h1]
  simp only
  rw [if_neg (by intro h;exact h.1 rfl),if_neg (by intro h;omega)]
  simp only [show ((45:UInt8).toNat=45)=True from by simp,if_true]
  congr 1;omega
 ·rename_i hn
  have h1:=parse_mag (u:=n.toNat) (by omega)
  obtain ⟨b,r,e,hb⟩:=digs_head n.toNat
  rw [e] at h1 ⊢
  simp only [Lib.atoiAll]
  rw [if_neg (by omega),h1]
  simp only
  rw [if_neg (by intro h;omega),if_neg (by intro h;omega),if_neg (by omega)]
  congr 1;omega
theorem int_itoa {n:Int} (h:I64 n):intP (z9o n)=some n:=by
 unfold intP
 have h1:atoiC (z9o n)=.ok n:=by
  unfold atoiC
  rw [show (z9o n).data.toList=Lib.itoa n from by simp [z9o],atoi_itoa h]
 rw [h1]
 exact if_pos rfl
mutual
def okE:Ex→Prop
 | .mk k n s args arms=>(k=1∧s=sNo∧args=[]∧arms=[]∧I64 n)∨(k=2∧n=0∧z0q s=true∧args=[]∧arms=[])∨(k=3∧n=0∧z0q s=true∧args=[]∧arms=[]) ∨
  (k=4∧n=0∧z0u s=true∧arms=[]∧okEs args)∨(k=5∧n=0∧z0q s=true∧arms=[]∧okEs args)∨(k=6∧n=0∧z0q s=true∧arms=[]∧args.length=2∧okEs args) ∨
  (k=7∧n=0∧s=sNo∧args.length=1∧arms≠[]∧okEs args∧okEa arms)∨(k=8∧n=0∧z8k s=true∧arms=[]∧args.length=2∧okEs args)
def okEs:List Ex→Prop
 | []=>True
 | e::es=>okE e∧okEs es
def okEa:List Arm→Prop
 | []=>True
 | .mk c vs b::es=>z0u c=true∧(∀v∈vs,z0q v=true)∧okE b∧okEa es
end
mutual
def exW:Ex→List Bs
 | .mk k n s args arms =>
  if k=1 then [z9o n] else if k=2 then [s] else if k=3 then [⟨#[33]⟩++s]
  else if k=4 then (match args with | []=>[s] | _=>sOpn::s::(exWs args++[sCls]))
  else if k=6 then sOpn::sLet::s::(exWs args++[sCls])
  else if k=7 then sOpn::sCase::(exWs args++(arW arms++[sCls]))
  else sOpn::s::(exWs args++[sCls])
def exWs:List Ex→List Bs
 | []=>[]
 | e::es=>exW e++exWs es
def arW:List Arm→List Bs
 | []=>[]
 | .mk c vs b::es=>sOpn::c::(vs++(y0a::(exW b++(sCls::arW es))))
end
theorem op_word {s:Bs} (h:z8k s=true):Word s:=by
 simp only [z8k,Bool.or_eq_true,decide_eq_true_eq] at h
 have w:∀b:UInt8,¬IsSep b→Word ⟨#[b]⟩:=fun b hb=>⟨fun e=>by have:=congrArg ByteArray.size e;exact absurd this (by simp [ByteArray.size]),fun x hx=>by
  have:tx ⟨#[b]⟩=[b]:=rfl
  rw [this,List.mem_singleton] at hx;rw [hx];exact hb⟩
 rcases h with (((((h | h) | h) | h) | h) | h) | h <;> rw [h] <;> refine w _ ?_ <;> unfold IsSep <;> decide
theorem inp_word {s:Bs} (h:Word s):Word (⟨#[33]⟩++s):=by
 have e:tx (⟨#[33]⟩++s)=33::tx s:=by simp [tx,ByteArray.data_append]
 refine ⟨fun h0 =>?_,fun b hb =>?_⟩
 ·have:=congrArg tx h0
  rw [e] at this;cases this
 ·rw [e] at hb
  rcases List.mem_cons.1 hb with rfl | hb
  ·unfold IsSep;decide
  ·exact h.2 b hb
theorem word_let:Word sLet:=by refine ⟨by decide,?_⟩;unfold IsSep;decide
theorem word_case:Word sCase:=by refine ⟨by decide,?_⟩;unfold IsSep;decide
theorem word_arrow:Word y0a:=by refine ⟨by decide,?_⟩;unfold IsSep;decide
theorem nameW {s:Bs} (h:z0q s=true):Word s:=ident_word (.inl (name_kind h))
theorem conW {s:Bs} (h:z0u s=true):Word s:=ident_word (.inr (con_kind h))
theorem wds_vars:∀{vs:List Bs} (_:∀v∈vs,z0q v=true) (l:Tx),z5e l→wds ((vs.map fun v=>32::tx v).flatten++l)=vs++wds l
 | [],_,l,_=>rfl
 | v::vs,h,l,hl=>by
  rw [List.map_cons,List.flatten_cons,List.append_assoc,List.cons_append,z4i,z1h (nameW (h v List.mem_cons_self)) ?_,wds_vars (fun x hx=>h x (List.mem_cons_of_mem _ hx)) l hl];rfl
  cases vs with
  | nil=>exact hl
  | cons y vs=>exact z1i _
theorem vars_parted {vs:List Bs} {l:Tx} (hl:z5e l):z5e ((vs.map fun v=>32::tx v).flatten++l):=by
 cases vs with
 | nil=>exact hl
 | cons y vs=>exact z1i _
theorem z5s {es:List Ex} {l:Tx} (hl:z5e l):z5e (writePs es++l):=by
 cases es with
 | nil=>exact hl
 | cons y vs=>exact z1i _
theorem writePa_parted {es:List Arm} {l:Tx} (hl:z5e l):z5e (writePa es++l):=by
 cases es with
 | nil=>exact hl
 | cons y vs=>cases y;exact z1i _
mutual
theorem y2g:∀{e:Ex},okE e→∀l,z5e l→wds (z2y e++l)=exW e++wds l
 | .mk k n s args arms,h,l,hl=>by
  rcases h with ⟨rfl,rfl,rfl,rfl,h⟩ | ⟨rfl,rfl,h,rfl,rfl⟩ | ⟨rfl,rfl,h,rfl,rfl⟩ | ⟨rfl,rfl,h,rfl,h2⟩ | ⟨rfl,rfl,h,rfl,h2⟩ | ⟨rfl,rfl,h,rfl,h3,h2⟩ | ⟨rfl,rfl,rfl,h,h4,h2,h3⟩ | ⟨rfl,rfl,h,rfl,h3,h2⟩
  ·have e:itoaL n=tx (z9o n):=by rw [itoaP_eq,tx_ofTx]
   show wds (itoaL n++l)=[z9o n]++wds l
   rw [e,z1h (num_word n) hl];rfl
  ·show wds (tx s++l)=[s]++wds l
   rw [z1h (nameW h) hl];rfl
  ·show wds (33::tx s++l)=[⟨#[33]⟩++s]++wds l
   have e:33::tx s=tx (⟨#[33]⟩++s):=by simp [tx,ByteArray.data_append]
   rw [e,z1h (inp_word (nameW h)) hl];rfl
  ·cases args with
   | nil =>
    show wds (tx s++l)=[s]++wds l
    rw [z1h (conW h) hl];rfl
   | cons a az =>
    show wds (40::tx s++writePs (a::az)++[41]++l)=(sOpn::s::(exWs (a::az)++[sCls]))++wds l
    simp only [List.cons_append,List.append_assoc,List.nil_append]
    rw [wds_opn,z1h (conW h) (z5s (z3j _)),writes_words h2 _ (z3j _),wds_cls]
  ·show wds (40::tx s++writePs args++[41]++l)=(sOpn::s::(exWs args++[sCls]))++wds l
   simp only [List.cons_append,List.append_assoc,List.nil_append]
   rw [wds_opn,z1h (nameW h) (z5s (z3j _)),writes_words h2 _ (z3j _),wds_cls]
  ·show wds (40::(tx sLet++[32])++tx s++writePs args++[41]++l)=(sOpn::sLet::s::(exWs args++[sCls]))++wds l
   simp only [List.cons_append,List.append_assoc,List.nil_append]
   rw [wds_opn,z1h word_let (z1i _),z4i,z1h (nameW h) (z5s (z3j _)),writes_words h2 _ (z3j _),wds_cls]
  ·show wds (40::(tx sCase++[32])++writeH args++writePa arms++[41]++l)=(sOpn::sCase::(exWs args++(arW arms++[sCls])))++wds l
   match args,h,h2 with
   | [a],_,h2 =>
    simp only [writeH,exWs,List.cons_append,List.append_assoc,List.nil_append]
    rw [wds_opn,z1h word_case (z1i _),z4i,y2g h2.1 _ (writePa_parted (z3j _)),arms_words h3 _ (z3j _),wds_cls]
  ·show wds (40::tx s++writePs args++[41]++l)=(sOpn::s::(exWs args++[sCls]))++wds l
   simp only [List.cons_append,List.append_assoc,List.nil_append]
   rw [wds_opn,z1h (op_word h) (z5s (z3j _)),writes_words h2 _ (z3j _),wds_cls]
theorem writes_words:∀{es:List Ex},okEs es→∀l,z5e l→wds (writePs es++l)=exWs es++wds l
 | [],_,_,_=>rfl
 | e::es,h,l,hl=>by
  show wds (32::z2y e++writePs es++l)=(exW e++exWs es)++wds l
  simp only [List.cons_append,List.append_assoc]
  rw [z4i,y2g h.1 _ (z5s hl),writes_words h.2 l hl]
theorem arms_words:∀{es:List Arm},okEa es→∀l,z5e l→wds (writePa es++l)=arW es++wds l
 | [],_,_,_=>rfl
 | .mk c vs b::es,h,l,hl=>by
  show wds ([32,40]++(tx c++(vs.map fun v=>32::tx v).flatten)++(32::(tx y0a++[32]))++z2y b++[41]++writePa es++l)=(sOpn::c::(vs++(y0a::(exW b++(sCls::arW es)))))++wds l
  simp only [List.cons_append,List.append_assoc,List.nil_append]
  rw [z4i,wds_opn,z1h (conW h.1) (vars_parted (z1i _)),wds_vars h.2.1 _ (z1i _),z4i,z1h word_arrow (z1i _),z4i,y2g h.2.2.1 _ (z3j _),wds_cls,arms_words h.2.2.2 l hl]
end
end Go.Sw

namespace Go.Sw
section
variable {ws:List Bs} {i:Nat}
theorem z1p {x:Bs} {l:List Bs} (h:ws.drop i=x::l):z0c ws i=x:=by
 apply z2s
 have:=congrArg (fun l=>l[0]?) h
 simpa [List.getElem?_drop] using this
theorem peek_head {l:List Bs} (h:ws.drop i=l):z0c ws i=l.headD sNo:=by
 cases l with
 | nil=>exact peek_end (fun hlt=>by have:=congrArg List.length h;simp only [List.length_drop,List.length_nil] at this;omega)
 | cons x l=>exact z1p h
theorem z0n {x:Bs} {l:List Bs} (h:ws.drop i=x::l):ws.drop (i+1)=l:=by
 rw [← List.drop_drop,h];rfl
theorem z3h {p l:List Bs} (h:ws.drop i=p++l):ws.drop (i+p.length)=l:=by
 rw [← List.drop_drop,h];simp
theorem z9r {p l:List Bs} (h:ws.drop i=p++l):p.length≤ws.length:=by
 have:=congrArg List.length h
 simp only [List.length_drop,List.length_append] at this;omega
theorem take_reads {p:Bs→Bool} {x:Bs} {l:List Bs} (h:ws.drop i=x::l) (hx:x≠sNo) (hp:p x=true):z9p ws p i=.ok (x,i+1):=by
 have e:=z1p h
 rw [takeP_ok (by rw [e];exact hx) (by rw [e];exact hp),e]
theorem z5b {x:Bs} {l:List Bs} (h:ws.drop i=x::l) (hx:x≠sNo):z6u ws x i=.ok ((),i+1):=nextP_ok (take_reads h hx (by simp))
theorem name_ne {s:Bs} (h:z0q s=true):s≠sNo:=fun e=>by rw [e] at h;exact absurd h (by decide)
theorem con_ne {s:Bs} (h:z0u s=true):s≠sNo:=fun e=>by rw [e] at h;exact absurd h (by decide)
theorem z6t {s:Bs} {l:List Bs} (h:ws.drop i=s::l) (hs:z0q s=true):y0w ws i=.ok (s,i+1):=take_reads h (name_ne hs) hs
theorem z8i {s:Bs} {l:List Bs} (h:ws.drop i=s::l) (hs:z0u s=true):rcon ws i=.ok (s,i+1):=take_reads h (con_ne hs) hs
end
theorem name_opn {s:Bs} (h:z0q s=true):s≠sOpn:=fun e=>by rw [e] at h;exact absurd h (by decide)
theorem name_cls {s:Bs} (h:z0q s=true):s≠sCls:=fun e=>by rw [e] at h;exact absurd h (by decide)
theorem name_arrow {s:Bs} (h:z0q s=true):s≠y0a:=fun e=>by rw [e] at h;exact absurd h (by decide)
theorem name_let {s:Bs} (h:z0q s=true):s≠sLet:=fun e=>by rw [e] at h;exact absurd h (by decide)
theorem name_case {s:Bs} (h:z0q s=true):s≠sCase:=fun e=>by rw [e] at h;exact absurd h (by decide)
theorem con_opn {s:Bs} (h:z0u s=true):s≠sOpn:=fun e=>by rw [e] at h;exact absurd h (by decide)
theorem con_cls {s:Bs} (h:z0u s=true):s≠sCls:=fun e=>by rw [e] at h;exact absurd h (by decide)
theorem con_let {s:Bs} (h:z0u s=true):s≠sLet:=fun e=>by rw [e] at h;exact absurd h (by decide)
theorem con_case {s:Bs} (h:z0u s=true):s≠sCase:=fun e=>by rw [e] at h;exact absurd h (by decide)
theorem name_con {s:Bs} (h:z0q s=true):z0u s=false:=by
 have:=name_kind h
 simp [z0u,this]
theorem ops_are {s:Bs} (h:z8k s=true):s=⟨#[43]⟩∨s=⟨#[45]⟩∨s=⟨#[42]⟩∨s=⟨#[47]⟩∨s=⟨#[37]⟩∨s=⟨#[60]⟩∨s=⟨#[61]⟩:=by
 simpa [z8k,or_assoc] using h
theorem name_op {s:Bs} (h:z0q s=true):z8k s=false:=by
 cases ho:z8k s with
 | false=>rfl
 | true=>rcases ops_are ho with e | e | e | e | e | e | e <;> rw [e] at h <;> exact absurd h (by decide)
theorem con_op {s:Bs} (h:z0u s=true):z8k s=false:=by
 cases ho:z8k s with
 | false=>rfl
 | true=>rcases ops_are ho with e | e | e | e | e | e | e <;> rw [e] at h <;> exact absurd h (by decide)
theorem name_byte {s:Bs} (h:z0q s=true):z0k s 0≠33:=fun e=>by
 have h1:=(ident_of (.inl (name_kind h))).2.1
 rw [e] at h1
 rcases h1 with h1 | h1 <;> exact absurd h1.2 (by decide)
theorem inp_tx (s:Bs):tx (⟨#[33]⟩++s)=33::tx s:=by simp [tx,ByteArray.data_append]
theorem inp_byte (s:Bs):z0k (⟨#[33]⟩++s) 0=33:=byteAt_tx (inp_tx s)
theorem inp_con (s:Bs):z0u (⟨#[33]⟩++s)=false:=by
 cases h:z0u (⟨#[33]⟩++s) with
 | false=>rfl
 | true =>
  have h1:=(ident_of (.inr (con_kind h))).2.1
  rw [inp_byte] at h1
  rcases h1 with h1 | h1 <;> exact absurd h1.2 (by decide)
theorem inp_int (s:Bs):intP (⟨#[33]⟩++s)=none:=by
 cases hi:intP (⟨#[33]⟩++s) with
 | none=>rfl
 | some n =>
  unfold intP at hi
  split at hi
  ·split at hi
   ·rename_i v _ e
    obtain ⟨b,r,e1,e2⟩:=itoa_head v
    rw [itoaP_eq] at e
    have h3:=congrArg tx e
    rw [tx_ofTx,inp_tx,e1] at h3
    injection h3 with h3 _
    subst h3
    rcases e2 with e2 | e2
    ·exact absurd e2 (by decide)
    ·exact absurd e2 (by decide)
   ·cases hi
  ·cases hi
theorem inp_rest (s:Bs):(⟨#[33]⟩++s).extract 1 (⟨#[33]⟩++s:Bs).size=s:=by
 have h1:(⟨#[33]⟩++s:Bs).size=1+s.size:=by rw [z0e];rfl
 rw [h1,ofTx_extract,inp_tx,List.drop_succ_cons,List.drop_zero,List.take_of_length_le (by rw [z7n];omega),ofTx_tx]
theorem opn_int:intP sOpn=none:=by decide
theorem exW_head:∀{e:Ex},okE e→∃x r,exW e=x::r∧x≠sCls∧x≠sNo
 | .mk k n s args arms,h=>by
  have form:∀r,∃x r',sOpn::r=x::r'∧x≠sCls∧x≠sNo:=fun r=>⟨_,_,rfl,by decide,by decide⟩
  rcases h with ⟨rfl,rfl,rfl,rfl,h⟩ | ⟨rfl,rfl,h,rfl,rfl⟩ | ⟨rfl,rfl,h,rfl,rfl⟩ | ⟨rfl,rfl,h,rfl,h2⟩ | ⟨rfl,rfl,h,rfl,h2⟩ | ⟨rfl,rfl,h,rfl,h3,h2⟩ | ⟨rfl,rfl,rfl,h,h4,h2,h3⟩ | ⟨rfl,rfl,h,rfl,h3,h2⟩
  ·refine ⟨z9o n,[],rfl,fun e =>?_,(num_word n).1⟩
   have h1:=(num_word n).2 41
   rw [e] at h1
   exact h1 (by decide) (.inr (.inr (.inr rfl)))
  ·exact ⟨s,[],rfl,name_cls h,name_ne h⟩
  ·refine ⟨⟨#[33]⟩++s,[],rfl,fun e =>?_,(inp_word (nameW h)).1⟩
   have:=inp_byte s
   rw [e] at this;exact absurd this (by decide)
  ·cases args with
   | nil=>exact ⟨s,[],rfl,con_cls h,con_ne h⟩
   | cons a az=>exact form _
  ·exact form _
  ·exact form _
  ·exact form _
  ·exact form _
section
variable {ws:List Bs} {d:Nat}
def Reads (ws:List Bs) (d:Nat) (e:Ex):Prop:=∀i l,ws.drop i=exW e++l→z0o ws d i=.ok (e,i+(exW e).length)
theorem list_reads:∀{es:List Ex} {f least i:Nat} {l:List Bs},(∀e∈es,okE e∧Reads ws d e)→es.length < f→least≤es.length→ws.drop i=exWs es++sCls::l →
  z6d ws (z0o ws d) f least i=.ok (es,i+(exWs es).length)
 | [],f,least,i,l,_,hf,hl,h=>by
  obtain ⟨f,rfl⟩:∃k,f=k+1:=⟨f - 1,by omega⟩
  rw [z6d,if_neg];rfl
  rintro (h1 | h1)
  ·simp only [List.length_nil] at hl;omega
  ·exact h1 (z1p h)
 | e::es,f,least,i,l,hr,hf,hl,h=>by
  obtain ⟨f,rfl⟩:∃k,f=k+1:=⟨f - 1,by omega⟩
  obtain ⟨h1,h2⟩:=hr e List.mem_cons_self
  obtain ⟨x,r,ex,hx1,_⟩:=exW_head h1
  have h3:ws.drop i=exW e++(exWs es++sCls::l):=by rw [h];simp [exWs]
  simp only [List.length_cons] at hf hl
  rw [z6d,if_pos (.inr (by rw [z1p (x:=x) (l:=r++(exWs es++sCls::l)) (by rw [h3,ex];rfl)];exact hx1)),z0b (h2 i _ h3)]
  simp only
  rw [z0b (list_reads (es:=es) (fun y hy=>hr y (List.mem_cons_of_mem _ hy)) (by omega) (by omega) (z3h h3))]
  simp only [exWs,List.length_append,Nat.add_assoc]
theorem exWs_len:∀{es:List Ex},(∀e∈es,okE e)→es.length≤(exWs es).length
 | [],_=>Nat.le_refl _
 | e::es,h=>by
  obtain ⟨x,r,ex,_⟩:=exW_head (h e List.mem_cons_self)
  have:=exWs_len (es:=es) fun y hy=>h y (List.mem_cons_of_mem _ hy)
  simp only [exWs,ex,List.length_append,List.length_cons];omega
theorem okEs_mem:∀{es:List Ex},okEs es→∀e∈es,okE e
 | y::es,h,e,he=>by
  rcases List.mem_cons.1 he with rfl | he
  ·exact h.1
  ·exact okEs_mem h.2 e he
theorem two_reads {a b:Ex} {i:Nat} {l:List Bs} (ha:Reads ws d a) (hb:Reads ws d b) (h:ws.drop i=exWs [a,b]++l):twoP (z0o ws d) i=.ok ([a,b],i+(exWs [a,b]).length):=by
 simp only [exWs,List.append_nil,List.append_assoc] at h
 unfold twoP
 rw [z0b (ha i _ h)]
 simp only
 rw [z0b (hb _ _ (z3h h))]
 simp only [exWs,List.append_nil,List.length_append,Nat.add_assoc]
theorem vars_reads:∀{vs:List Bs} {f i:Nat} {l:List Bs},(∀v∈vs,z0q v=true)→vs.length < f→ws.drop i=vs++y0a::l→y2c ws f i=.ok (vs,i+vs.length)
 | [],f,i,l,_,hf,h=>by
  obtain ⟨f,rfl⟩:∃k,f=k+1:=⟨f - 1,by omega⟩
  rw [y2c,if_neg (fun h1=>h1 (z1p h))];rfl
 | v::vs,f,i,l,hv,hf,h=>by
  obtain ⟨f,rfl⟩:∃k,f=k+1:=⟨f - 1,by omega⟩
  simp only [List.length_cons] at hf
  have h1:=hv v List.mem_cons_self
  rw [y2c,if_pos (by rw [z1p h];exact name_arrow h1),z0b (z6t h h1)]
  simp only
  rw [z0b (vars_reads (fun x hx=>hv x (List.mem_cons_of_mem _ hx)) (by omega) (z0n h))]
  simp only [List.length_cons,Except.ok.injEq,Prod.mk.injEq,true_and];omega
theorem arm_reads {c:Bs} {vs:List Bs} {b:Ex} {i:Nat} {l:List Bs} (hc:z0u c=true) (hv:∀v∈vs,z0q v=true) (hb:Reads ws d b) (h:ws.drop i=sOpn::c::(vs++(y0a::(exW b++(sCls::l))))) :
  armP ws (z0o ws d) i=.ok (.mk c vs b,i+(2+vs.length+1+(exW b).length+1)):=by
 have h1:=z0n h
 have h2:=z0n h1
 have h3:=z3h h2
 have h4:=z0n h3
 have h5:=z3h h4
 have hvl:vs.length < ws.length+1:=by have:=z9r h2;omega
 unfold armP
 rw [z0b (z5b h (by decide))]
 simp only
 rw [z0b (z8i h1 hc)]
 simp only
 rw [z0b (vars_reads hv hvl h2)]
 simp only
 rw [z0b (z5b h3 (by decide))]
 simp only
 rw [z0b (hb _ _ h4)]
 simp only
 rw [z0b (z5b h5 (by decide))]
 simp only [Except.ok.injEq,Prod.mk.injEq,true_and];omega
theorem arms_reads:∀{es:List Arm} {f i:Nat} {first:Bool} {l:List Bs},okEa es→(∀a∈es,Reads ws d a.body)→es.length < f→(first=true→es≠[])→ws.drop i=arW es++sCls::l →
  armsP ws (z0o ws d) f first i=.ok (es,i+(arW es).length)
 | [],f,i,first,l,_,_,hf,h0,h=>by
  obtain ⟨f,rfl⟩:∃k,f=k+1:=⟨f - 1,by omega⟩
  rw [armsP,if_neg];rfl
  rintro (h1 | h1)
  ·exact h0 h1 rfl
  ·rw [z1p h] at h1;exact absurd h1 (by decide)
 | .mk c vs b::es,f,i,first,l,hk,hr,hf,_,h=>by
  obtain ⟨f,rfl⟩:∃k,f=k+1:=⟨f - 1,by omega⟩
  simp only [List.length_cons] at hf
  have h1:ws.drop i=sOpn::c::(vs++(y0a::(exW b++(sCls::(arW es++sCls::l))))):=by rw [h];simp [arW]
  have h2:ws.drop (i+(2+vs.length+1+(exW b).length+1))=arW es++sCls::l:=by
   have:=z3h (p:=sOpn::c::(vs++(y0a::(exW b++[sCls])))) (l:=arW es++sCls::l) (by rw [h1];simp)
   rw [← this];congr 1;simp only [List.length_cons,List.length_append,List.length_nil];omega
  rw [armsP,if_pos (.inr (z1p h1)),z0b (arm_reads hk.1 hk.2.1 (show Reads ws d b from hr (.mk c vs b) List.mem_cons_self) h1)]
  simp only
  rw [z0b (arms_reads hk.2.2.2 (fun a ha=>hr a (List.mem_cons_of_mem _ ha)) (by omega) (by simp) h2)]
  simp only [arW,List.length_cons,List.length_append,Except.ok.injEq,Prod.mk.injEq,true_and];omega
theorem arW_len:∀{es:List Arm},es.length≤(arW es).length
 | []=>Nat.le_refl _
 | .mk c vs b::es=>by
  have:=arW_len (es:=es)
  simp only [arW,List.length_cons,List.length_append];omega
theorem y0p {e:Ex} {i:Nat} {r l:List Bs} (h:ws.drop i=sOpn::(r++sCls::l)) (hf:z1r ws (z0o ws d) (i+1)=.ok (e,i+1+r.length)):z0o ws (d+1) i=.ok (e,i+(sOpn::(r++[sCls])).length):=by
 have hp:=z1p h
 rw [z0o,hp,if_neg (by decide),opn_int]
 simp only [if_true]
 rw [z0b hf]
 simp only
 rw [z0b (z5b (z3h (z0n h)) (by decide))]
 simp only [List.length_cons,List.length_append,List.length_nil,Except.ok.injEq,Prod.mk.injEq,true_and];omega
theorem okEa_mem:∀{es:List Arm},okEa es→∀a∈es,okE a.body
 | .mk _ _ _::es,h,a,ha=>by
  rcases List.mem_cons.1 ha with rfl | ha
  ·exact h.2.2.1
  ·exact okEa_mem h.2.2.2 a ha
end
theorem expr_reads (ws:List Bs):∀(d:Nat) (e:Ex),okE e→z7j d e=false→Reads ws d e
 | 0,e,_,h=>by rw [deepP_zero] at h;cases h
 | d+1,.mk k n s args arms,hk,hd=>by
  intro i l h
  rw [deepP_succ] at hd
  simp only [Bool.or_eq_false_iff,List.any_eq_false,Ex.args,Ex.arms] at hd
  have rd:okEs args→∀e∈args,okE e∧Reads ws d e:=fun ho e he=>⟨okEs_mem ho e he,expr_reads ws d e (okEs_mem ho e he) (by simpa using hd.1 e he)⟩
  have ra:okEa arms→∀a∈arms,Reads ws d a.body:=fun ho a ha=>expr_reads ws d a.body (okEa_mem ho a ha) (by simpa using hd.2 a ha)
  rcases hk with ⟨rfl,rfl,rfl,rfl,hn⟩ | ⟨rfl,rfl,hn,rfl,rfl⟩ | ⟨rfl,rfl,hn,rfl,rfl⟩ | ⟨rfl,rfl,hn,rfl,h2⟩ | ⟨rfl,rfl,hn,rfl,h2⟩ | ⟨rfl,rfl,hn,rfl,h3,h2⟩ | ⟨rfl,rfl,rfl,h3,h4,h2,h5⟩ | ⟨rfl,rfl,hn,rfl,h3,h2⟩
  ·have hp:=z1p (show ws.drop i=z9o n::l from h)
   rw [z0o,hp,if_neg (show ¬z9o n=sNo from (num_word n).1),int_itoa hn];rfl
  ·have hp:=z1p (show ws.drop i=s::l from h)
   rw [z0o,hp,if_neg (name_ne hn),ident_int (.inl (name_kind hn))]
   simp only
   rw [if_neg (name_opn hn),name_con hn,if_neg (by simp),if_neg (fun h=>name_byte hn h.1),z0b (z6t (show ws.drop i=s::l from h) hn)];rfl
  ·have hp:=z1p (show ws.drop i=(⟨#[33]⟩++s)::l from h)
   rw [z0o,hp,if_neg (show ¬(⟨#[33]⟩++s:Bs)=sNo from (inp_word (nameW hn)).1),inp_int]
   simp only
   rw [if_neg,inp_con,if_neg (by simp),if_pos ⟨inp_byte s,by rw [inp_rest];exact hn⟩,inp_rest];rfl
   intro e
   have:=inp_byte s
   rw [e] at this;exact absurd this (by decide)
  ·cases args with
   | nil =>
    have hp:=z1p (show ws.drop i=s::l from h)
    rw [z0o,hp,if_neg (con_ne hn),ident_int (.inr (con_kind hn))]
    simp only
    rw [if_neg (con_opn hn),if_pos hn];rfl
   | cons a az =>
    have h':ws.drop i=sOpn::((s::exWs (a::az))++sCls::l):=by rw [h];show (sOpn::s::(exWs (a::az)++[sCls]))++l=_;simp
    have e:exW (.mk 4 0 s (a::az) [])=sOpn::((s::exWs (a::az))++[sCls]):=rfl
    rw [e]
    refine y0p h' ?_
    have h1:=z0n h'
    have hp:=z1p h1
    have hl:(a::az).length < ws.length+1:=by have:=z9r (show ws.drop (i+1+1)=exWs (a::az)++sCls::l from z0n h1);have:=exWs_len (fun e he=>okEs_mem h2 e he);omega
    unfold z1r
    rw [hp,con_op hn,if_neg (by simp),if_neg (con_let hn),if_neg (con_case hn),if_pos hn,z0b (list_reads (rd h2) hl (by simp) (z0n h1))]
    simp only [List.length_cons,Except.ok.injEq,Prod.mk.injEq,true_and];omega
  ·have h':ws.drop i=sOpn::((s::exWs args)++sCls::l):=by rw [h];show (sOpn::s::(exWs args++[sCls]))++l=_;simp
   have e:exW (.mk 5 0 s args [])=sOpn::((s::exWs args)++[sCls]):=rfl
   rw [e]
   refine y0p h' ?_
   have h1:=z0n h'
   have hp:=z1p h1
   have hl:args.length < ws.length+1:=by have:=z9r (show ws.drop (i+1+1)=exWs args++sCls::l from z0n h1);have:=exWs_len (fun e he=>okEs_mem h2 e he);omega
   unfold z1r
   rw [hp,name_op hn,if_neg (by simp),if_neg (name_let hn),if_neg (name_case hn),name_con hn,if_neg (by simp),z0b (z6t h1 hn)]
   simp only
   rw [z0b (list_reads (rd h2) hl (Nat.zero_le _) (z0n h1))]
   simp only [List.length_cons,Except.ok.injEq,Prod.mk.injEq,true_and];omega
  ·have h':ws.drop i=sOpn::((sLet::s::exWs args)++sCls::l):=by rw [h];show (sOpn::sLet::s::(exWs args++[sCls]))++l=_;simp
   have e:exW (.mk 6 0 s args [])=sOpn::((sLet::s::exWs args)++[sCls]):=rfl
   rw [e]
   refine y0p h' ?_
   have h1:=z0n h'
   have hp:=z1p h1
   have hh:=z0n h1
   match args,h3,rd h2,hh with
   | [a,b],_,hr,hh =>
    unfold z1r
    rw [hp,if_neg (by decide),if_pos rfl,z0b (z6t hh hn)]
    simp only
    rw [z0b (two_reads (hr a (by simp)).2 (hr b (by simp)).2 (z0n hh))]
    simp only [List.length_cons,Except.ok.injEq,Prod.mk.injEq,true_and];omega
  ·have h':ws.drop i=sOpn::((sCase::(exWs args++arW arms))++sCls::l):=by rw [h];show (sOpn::sCase::(exWs args++(arW arms++[sCls])))++l=_;simp
   have e:exW (.mk 7 0 sNo args arms)=sOpn::((sCase::(exWs args++arW arms))++[sCls]):=by show sOpn::sCase::(exWs args++(arW arms++[sCls]))=_;simp
   rw [e]
   refine y0p h' ?_
   have h1:=z0n h'
   have hp:=z1p h1
   have hh:=z0n h1
   match args,h3,rd h2,hh with
   | [a],_,hr,hh =>
    have hh1:ws.drop (i+1+1)=exW a++(arW arms++sCls::l):=by rw [hh];simp [exWs]
    have hh2:=z3h hh1
    have hl:arms.length < ws.length+1:=by have:=z9r hh2;have:=arW_len (es:=arms);omega
    unfold z1r
    rw [hp,if_neg (by decide),if_neg (by decide),if_pos rfl,z0b ((hr a (by simp)).2 _ _ hh1)]
    simp only
    rw [z0b (arms_reads h5 (ra h5) hl (fun _=>h4) hh2)]
    simp only [exWs,List.append_nil,List.length_cons,List.length_append,Except.ok.injEq,Prod.mk.injEq,true_and];omega
  ·have h':ws.drop i=sOpn::((s::exWs args)++sCls::l):=by rw [h];show (sOpn::s::(exWs args++[sCls]))++l=_;simp
   have e:exW (.mk 8 0 s args [])=sOpn::((s::exWs args)++[sCls]):=rfl
   rw [e]
   refine y0p h' ?_
   have h1:=z0n h'
   have hp:=z1p h1
   have hh:=z0n h1
   match args,h3,rd h2,hh with
   | [a,b],_,hr,hh =>
    unfold z1r
    rw [hp,if_pos hn,z0b (two_reads (hr a (by simp)).2 (hr b (by simp)).2 hh)]
    simp only [List.length_cons,Except.ok.injEq,Prod.mk.injEq,true_and];omega
end Go.Sw

namespace Go.Sw
theorem y1l {e:Ex} {nm:Bool} {a b:Int} (h:z2x e false nm a b=true):e.num=0:=by
 simp only [z2x,Bool.and_eq_true,Bool.false_or,decide_eq_true_eq] at h;exact h.1.1.1
theorem bare_args {e:Ex} {num nm:Bool} {n:Nat} {b:Int} (h:z2x e num nm n b=true):e.args.length=n:=z3q h
theorem typed_kind {T:Table} (hT0:lget T.datas sNo=none) {e:Ex} {s:Scope} {t:Bs} (ht:Ty T e s t) :
  (e.kind=1∧e.name=sNo∧e.args=[]∧e.arms=[])∨(e.kind=2∧e.num=0∧e.args=[]∧e.arms=[]∧∃v,lget s e.name=some v) ∨
  (e.kind=3∧e.num=0∧e.args=[]∧e.arms=[]∧∃v,lget T.inputs e.name=some v)∨(e.kind=4∧e.num=0∧e.arms=[]∧∃m,lget T.cons e.name=some m) ∨
  (e.kind=5∧e.num=0∧e.arms=[]∧∃m,lget T.funs e.name=some m)∨(e.kind=6∧e.num=0∧e.arms=[]∧e.args.length=2) ∨
  (e.kind=7∧e.num=0∧e.name=sNo∧e.args.length=1∧∃n d,lget T.datas n=some d∧d.cons.length=e.arms.length)∨(e.kind=8∧e.num=0∧e.arms=[]∧e.args.length=2∧z8k e.name=true):=by
 obtain ⟨ht,hne⟩:=ht
 by_cases h1:e.kind=1
 ·rw [y1b T e s h1] at ht
  simp only [y1v] at ht
  split at ht
  ·rename_i hb;exact .inl ⟨h1,bare_name hb,z8c hb,z2t hb⟩
  ·exact absurd ht.symm hne
 by_cases h2:e.kind=2
 ·rw [y1c T e s h2] at ht
  simp only [z5r] at ht
  split at ht
  ·rename_i hb
   cases hl:lget s e.name with
   | none=>rw [hl] at ht;exact absurd ht.symm hne
   | some u=>exact .inr (.inl ⟨h2,y1l hb,z8c hb,z2t hb,u,rfl⟩)
  ·exact absurd ht.symm hne
 by_cases h3:e.kind=3
 ·rw [y0z T e s h3] at ht
  simp only [inputT] at ht
  split at ht
  ·rename_i hb
   cases hl:lget T.inputs e.name with
   | none=>rw [hl] at ht;exact absurd ht.symm hne
   | some u=>exact .inr (.inr (.inl ⟨h3,y1l hb,z8c hb,z2t hb,u,rfl⟩))
  ·exact absurd ht.symm hne
 by_cases h4:e.kind=4
 ·rw [y0y T e s h4] at ht
  unfold conT at ht
  split at ht
  ·exact absurd ht.symm hne
  ·rename_i m hm
   split at ht
   ·rename_i hb;exact .inr (.inr (.inr (.inl ⟨h4,y1l hb,z2t hb,m,hm⟩)))
   ·exact absurd ht.symm hne
 by_cases h5:e.kind=5
 ·rw [z9e T e s h5] at ht
  unfold callT at ht
  split at ht
  ·exact absurd ht.symm hne
  ·rename_i m hm
   split at ht
   ·rename_i hb;exact .inr (.inr (.inr (.inr (.inl ⟨h5,y1l hb,z2t hb,m,hm⟩))))
   ·exact absurd ht.symm hne
 by_cases h6:e.kind=6
 ·rw [y1a T e s h6] at ht
  unfold letT at ht
  split at ht
  ·rename_i hb;exact .inr (.inr (.inr (.inr (.inr (.inl ⟨h6,y1l hb,z2t hb,bare_args (n:=2) hb⟩)))))
  ·exact absurd ht.symm hne
 by_cases h7:e.kind=7
 ·rw [z9f T e s h7] at ht
  unfold z3x at ht
  split at ht
  ·rename_i hb
   split at ht
   ·exact absurd ht.symm hne
   ·rename_i d hd
    split at ht
    ·rename_i hle
     exact .inr (.inr (.inr (.inr (.inr (.inr (.inl ⟨h7,y1l hb,bare_name hb,bare_args (n:=1) hb,_,d,hd,hle⟩))))))
    ·exact absurd ht.symm hne
  ·exact absurd ht.symm hne
 by_cases h8:e.kind=8
 ·rw [typedP_op T e s h8] at ht
  unfold opsT at ht
  split at ht
  ·rename_i hb
   split at ht
   ·refine .inr (.inr (.inr (.inr (.inr (.inr (.inr ⟨h8,y1l hb,z2t hb,bare_args (n:=2) hb,?_⟩))))))
    simp only at ht
    unfold opT at ht
    split at ht
    ·rename_i ho
     rcases ho with h | h | h | h | h <;> rw [h] <;> decide
    ·split at ht
     ·rename_i ho
      rcases ho with h | h <;> rw [h] <;> decide
     ·exact absurd ht.symm hne
   ·exact absurd ht.symm hne
  ·exact absurd ht.symm hne
 rw [z9g T e s h1 h2 h3 h4 h5 h6 h7 h8] at ht
 exact absurd ht.symm hne
structure Named2 (T:Table):Prop where
 cons:∀n m,lget T.cons n=some m→z0u n=true
 funs:∀n f,lget T.funs n=some f→z0q n=true
 inputs:∀n t,lget T.inputs n=some t→z0q n=true
 datas:∀t d,lget T.datas t=some d→0 < d.cons.length∧∀x∈d.cons,z0u x.name=true
 dNo:lget T.datas sNo=none
theorem okEs_of:∀{es:List Ex},(∀e∈es,okE e)→okEs es
 | [],_=>trivial
 | e::es,h=>⟨h e List.mem_cons_self,okEs_of fun x hx=>h x (List.mem_cons_of_mem _ hx)⟩
theorem okEa_of:∀{es:List Arm},(∀a∈es,z0u a.con=true∧(∀v∈a.vars,z0q v=true)∧okE a.body)→okEa es
 | [],_=>trivial
 | .mk c vs b::es,h=>⟨(h (.mk c vs b) List.mem_cons_self).1,(h (.mk c vs b) List.mem_cons_self).2.1,(h (.mk c vs b) List.mem_cons_self).2.2,okEa_of fun x hx=>h x (List.mem_cons_of_mem _ hx)⟩
theorem ok_typed {T:Table} (hB:Named2 T):∀(n:Nat) (e:Ex),e.sz < n→∀(s:Scope) (t:Bs),(z1f e).Nodup→Fresh s (z1f e)→Ty T e s t→(∀m∈z1f e,z0q m=true)→(∀m u,lget s m=some u→z0q m=true)→numsE e→okE e
 | 0,_,h=>by omega
 | n+1,e,hsz=>by
  intro s t hn hf ht hb hs hnum
  obtain ⟨hi64,hna,hnb⟩:=numsE_eq hnum
  have hp:=typed_parts hB.dNo hn hf ht
  have hbx:∀x∈e.args,∀m∈z1f x,z0q m=true:=fun x hx m hm=>hb m (by
   obtain ⟨p,q,hpq⟩:=mem_bindPs hx
   rw [z6x,hpq];simp [hm])
  have hba:∀a∈e.arms,∀m∈a.vars++z1f a.body,z0q m=true:=fun a ha m hm=>hb m (by
   obtain ⟨p,q,hpq⟩:=mem_bindPa ha
   rw [z6x,hpq];simp at hm ⊢;rcases hm with hm | hm <;> simp [hm])
  have hsc:∀s':Scope,(∀m v,lget s' m=some v→m∈z1f e∨∃v',lget s m=some v')→∀m u,lget s' m=some u→z0q m=true:=fun s' h m u hm=>by
   rcases h m u hm with h | ⟨v,h⟩
   ·exact hb m h
   ·exact hs m v h
  have ka:okEs e.args:=okEs_of fun x hx=>by
   obtain ⟨s',u,a1,a2,a3,a4⟩:=hp.args x hx
   exact ok_typed hB n x (by have:=Ex.lt_args hx;omega) s' u a1 a2 a3 (hbx x hx) (hsc s' a4) (hna x hx)
  have kb:okEa e.arms:=okEa_of fun a ha=>by
   obtain ⟨⟨s',u,a1,a2,a3,a4⟩,k,d,c,h1,h2,h3⟩:=hp.arms a ha
   exact ⟨by rw [h3];exact (hB.datas _ _ h1).2 _ h2,fun v hv=>hba a ha v (List.mem_append.2 (.inl hv)),
    ok_typed hB n a.body (by have:=Ex.lt_arms ha;omega) s' u a1 a2 a3 (fun m hm=>hba a ha m (List.mem_append.2 (.inr hm))) (hsc s' a4) (hnb a ha)⟩
  have hk:=typed_kind hB.dNo ht
  have hbn:e.kind=6→e.name∈z1f e:=fun h=>by rw [z6x,if_pos h];simp
  cases e with
  | mk k nn sn args arms =>
   simp only [Ex.kind,Ex.num,Ex.name,Ex.args,Ex.arms] at hk hi64 ka kb hbn
   rcases hk with ⟨a,b,c,d⟩ | ⟨a,b,c,d,v,hv⟩ | ⟨a,b,c,d,v,hv⟩ | ⟨a,b,c,v,hv⟩ | ⟨a,b,c,v,hv⟩ | ⟨a,b,c,d⟩ | ⟨a,b,c,d,q,dd,hd,hl⟩ | ⟨a,b,c,d,f⟩
   ·exact .inl ⟨a,b,c,d,hi64⟩
   ·exact .inr (.inl ⟨a,b,hs _ _ hv,c,d⟩)
   ·exact .inr (.inr (.inl ⟨a,b,hB.inputs _ _ hv,c,d⟩))
   ·exact .inr (.inr (.inr (.inl ⟨a,b,hB.cons _ _ hv,c,ka⟩)))
   ·exact .inr (.inr (.inr (.inr (.inl ⟨a,b,hB.funs _ _ hv,c,ka⟩))))
   ·exact .inr (.inr (.inr (.inr (.inr (.inl ⟨a,b,hb _ (hbn a),c,d,ka⟩)))))
   ·exact .inr (.inr (.inr (.inr (.inr (.inr (.inl ⟨a,b,c,d,fun e0=>by have:=(hB.datas _ _ hd).1;rw [hl,e0] at this;simp at this,ka,kb⟩))))))
   ·exact .inr (.inr (.inr (.inr (.inr (.inr (.inr ⟨a,b,f,c,d,ka⟩))))))
theorem tabD_pos:∀{l:List Data} {ok:Bool} {ds:List (Bs×Data)} {m:List (Bs×Maker)},(tabD ok ds m l).1=true→∀d∈l,0 < d.cons.length
 | d::l,ok,ds,m,h,x,hx=>by
  simp only [tabD] at h
  rcases List.mem_cons.1 hx with rfl | hx
  ·have h1:=(tabD_inv h).1
   have h2:=(tabC_inv _ h1).1
   simp only [tabOk,Bool.and_eq_true,decide_eq_true_eq] at h2
   exact h2.2
  ·exact tabD_pos h x hx
theorem cons_pos2 {c:Core} (h:z2f c=true):∀d∈truthsD::c.datas,0 < d.cons.length:=by
 simp only [z2f,Bool.and_eq_true,decide_eq_true_eq,List.all_eq_true] at h
 obtain ⟨⟨⟨⟨⟨h1,h2⟩,h3⟩,h4⟩,h5⟩,h6⟩:=h
 obtain ⟨i1,i2,i3,i4⟩:=tabI_inv (show (tabI (fsP c).1 [] c.inputs).1=true from h1)
 obtain ⟨f1,f2,f3,f4⟩:=tabF_inv (show (tabF (dsP c).1 [] c.funs).1=true from i1)
 exact tabD_pos (show (tabD true [] [] (truthsD::c.datas)).1=true from f1)
theorem named_of {c:Core} (hr:z2f c=true) (hR:Right c):Named2 (z0i c) where
 cons n m h:=by
  rw [hR.cons] at h
  obtain ⟨d,hd,_,h2,rfl⟩:=consE_mem h
  exact (hR.dN d hd).2.2.2 _ h2
 funs n f h:=by
  rw [hR.funs] at h
  obtain ⟨x,hx,rfl,_⟩:=z2z h
  exact hR.fN x hx
 inputs n t h:=by
  rw [hR.inputs] at h
  obtain ⟨x,hx,rfl,_⟩:=z2z h
  exact hR.iN x hx
 datas t d h:=by
  rw [hR.datas] at h
  obtain ⟨y,hy,rfl,rfl⟩:=z2z h
  exact ⟨cons_pos2 hr y hy,(hR.dN y hy).2.2.2⟩
 dNo:=(sound_of (inp:=[]) hR).dNo
theorem ok_body {c:Core} (hr:z2f c=true) (hR:Right c) {f:Fun} (hf:f∈c.funs) (hn:numsE f.body):okE f.body:=by
 have h1:=hR.fOk f hf
 simp only [z7k,Bool.and_eq_true,decide_eq_true_eq] at h1
 obtain ⟨a1,_,a3⟩:=z6a h1.1.2
 have a4:=z1a a1
 refine ok_typed (named_of hr hR) _ f.body (Nat.lt_succ_self _) (scopeP f.params) f.result a4.2.1 (fun m hm =>?_) ⟨h1.2,type_ne hR h1.1.1.2⟩ (fun m hm=>a3 m (List.mem_append.2 (.inr hm))) (fun m u hm =>?_) hn
 ·rw [z8x,z3u (fun hp=>a4.2.2 m hp hm)];rfl
 ·by_cases hv:m∈f.params.map Param.name
  ·exact a3 m (List.mem_append.2 (.inl hv))
  ·rw [z8x,z3u hv] at hm;cases hm
theorem type_con {c:Core} (hR:Right c) {t:Bs} (h:z4k (z0i c) t=true):z0u t=true:=by
 simp only [z4k,Bool.or_eq_true,decide_eq_true_eq] at h
 rcases h with h | h
 ·rw [hR.datas] at h
  cases hg:lget (ents Data.name id (truthsD::c.datas)) t with
  | none=>rw [hg] at h;cases h
  | some d =>
   obtain ⟨x,hx,rfl,_⟩:=z2z hg
   exact (hR.dN x hx).1
 ·rw [h];decide
theorem inT_con {c:Core} (hR:Right c) {t:Bs} (h:z2i c.datas t=true):z0u t=true:=by
 unfold z2i at h
 split at h
 ·rename_i e;rw [e];decide
 ·simp only [Bool.and_eq_true,decide_eq_true_eq] at h
  by_cases hx:∃d∈c.datas,d.name=t
  ·obtain ⟨d,hd,rfl⟩:=hx
   exact (hR.dN d (List.mem_cons_of_mem _ hd)).1
  ·have:=inDatas_zero t c.datas 0 true (fun d hd e=>hx ⟨d,hd,e⟩)
   rw [this] at h;omega
theorem outs_names {c:Core} (hR:Right c):∀{os seen:List Bs},z7e (z0i c) seen os=true→∀o∈os,z0q o=true
 | o::os,seen,h,x,hx=>by
  simp only [z7e] at h
  split at h
  ·cases h
  ·rename_i f hf
   simp only [Bool.and_eq_true] at h
   rcases List.mem_cons.1 hx with rfl | hx
   ·rw [hR.funs] at hf
    obtain ⟨y,hy,rfl,_⟩:=z2z hf
    exact hR.fN y hy
   ·exact outs_names hR h.2 x hx
end Go.Sw

namespace Go.Sw
open Go.Proofs
def seqR:Code→Code
 | .seq _ y=>y
 | c=>c
section
variable {ws:List Bs} {f j n:Nat} {c:Core}
theorem decls_end (h:¬j < ws.length) (hf:0 < f):z1x ws f c j=.ok c:=by
 obtain ⟨f,rfl⟩:∃k,f=k+1:=⟨f - 1,by omega⟩
 rw [z1x,if_neg h]
theorem decls_data {x:Data×Nat} (h:j < ws.length) (hf:0 < f) (hk:z0c ws j=⟨#[100,97,116,97]⟩) (hx:y1o ws (j+1)=.ok x):z1x ws f c j=z1x ws (f - 1) { c with datas:=c.datas++[x.1] } x.2:=by
 obtain ⟨f,rfl⟩:∃k,f=k+1:=⟨f - 1,by omega⟩
 rw [z1x,if_pos h,if_pos (show z0c ws j=kData from hk),hx];rfl
theorem decls_dataE (h:j < ws.length) (hf:0 < f) (hk:z0c ws j=⟨#[100,97,116,97]⟩) (hx:y1o ws (j+1)=.error n):z1x ws f c j=.error n:=by
 obtain ⟨f,rfl⟩:∃k,f=k+1:=⟨f - 1,by omega⟩
 rw [z1x,if_pos h,if_pos (show z0c ws j=kData from hk),hx]
theorem decls_input {x:Param×Nat} (h:j < ws.length) (hf:0 < f) (h1:¬z0c ws j=⟨#[100,97,116,97]⟩) (hk:z0c ws j=⟨#[105,110,112,117,116]⟩) (hx:z5p ws (j+1)=.ok x):z1x ws f c j=z1x ws (f - 1) { c with inputs:=c.inputs++[x.1] } x.2:=by
 obtain ⟨f,rfl⟩:∃k,f=k+1:=⟨f - 1,by omega⟩
 rw [z1x,if_pos h,if_neg (show ¬z0c ws j=kData from h1),if_pos (show z0c ws j=z8l from hk),hx];rfl
theorem decls_inputE (h:j < ws.length) (hf:0 < f) (h1:¬z0c ws j=⟨#[100,97,116,97]⟩) (hk:z0c ws j=⟨#[105,110,112,117,116]⟩) (hx:z5p ws (j+1)=.error n):z1x ws f c j=.error n:=by
 obtain ⟨f,rfl⟩:∃k,f=k+1:=⟨f - 1,by omega⟩
 rw [z1x,if_pos h,if_neg (show ¬z0c ws j=kData from h1),if_pos (show z0c ws j=z8l from hk),hx]
theorem decls_fun {x:Fun×Nat} (h:j < ws.length) (hf:0 < f) (h1:¬z0c ws j=⟨#[100,97,116,97]⟩) (h2:¬z0c ws j=⟨#[105,110,112,117,116]⟩) (hk:z0c ws j=⟨#[102,117,110]⟩) (hx:funP ws (j+1)=.ok x):z1x ws f c j=z1x ws (f - 1) { c with funs:=c.funs++[x.1] } x.2:=by
 obtain ⟨f,rfl⟩:∃k,f=k+1:=⟨f - 1,by omega⟩
 rw [z1x,if_pos h,if_neg (show ¬z0c ws j=kData from h1),if_neg (show ¬z0c ws j=z8l from h2),if_pos (show z0c ws j=kFun from hk),hx];rfl
theorem decls_funE (h:j < ws.length) (hf:0 < f) (h1:¬z0c ws j=⟨#[100,97,116,97]⟩) (h2:¬z0c ws j=⟨#[105,110,112,117,116]⟩) (hk:z0c ws j=⟨#[102,117,110]⟩) (hx:funP ws (j+1)=.error n):z1x ws f c j=.error n:=by
 obtain ⟨f,rfl⟩:∃k,f=k+1:=⟨f - 1,by omega⟩
 rw [z1x,if_pos h,if_neg (show ¬z0c ws j=kData from h1),if_neg (show ¬z0c ws j=z8l from h2),if_pos (show z0c ws j=kFun from hk),hx]
theorem decls_out {x:Bs×Nat} (h:j < ws.length) (hf:0 < f) (h1:¬z0c ws j=⟨#[100,97,116,97]⟩) (h2:¬z0c ws j=⟨#[105,110,112,117,116]⟩) (h3:¬z0c ws j=⟨#[102,117,110]⟩) (hk:z0c ws j=⟨#[111,117,116,112,117,116]⟩) (hx:y0w ws (j+1)=.ok x):z1x ws f c j=z1x ws (f - 1) { c with outputs:=c.outputs++[x.1] } x.2:=by
 obtain ⟨f,rfl⟩:∃k,f=k+1:=⟨f - 1,by omega⟩
 rw [z1x,if_pos h,if_neg (show ¬z0c ws j=kData from h1),if_neg (show ¬z0c ws j=z8l from h2),if_neg (show ¬z0c ws j=kFun from h3),if_pos (show z0c ws j=z8m from hk),hx];rfl
theorem decls_outE (h:j < ws.length) (hf:0 < f) (h1:¬z0c ws j=⟨#[100,97,116,97]⟩) (h2:¬z0c ws j=⟨#[105,110,112,117,116]⟩) (h3:¬z0c ws j=⟨#[102,117,110]⟩) (hk:z0c ws j=⟨#[111,117,116,112,117,116]⟩) (hx:y0w ws (j+1)=.error n):z1x ws f c j=.error n:=by
 obtain ⟨f,rfl⟩:∃k,f=k+1:=⟨f - 1,by omega⟩
 rw [z1x,if_pos h,if_neg (show ¬z0c ws j=kData from h1),if_neg (show ¬z0c ws j=z8l from h2),if_neg (show ¬z0c ws j=kFun from h3),if_pos (show z0c ws j=z8m from hk),hx]
theorem decls_bad (h:j < ws.length) (hf:0 < f) (h1:¬z0c ws j=⟨#[100,97,116,97]⟩) (h2:¬z0c ws j=⟨#[105,110,112,117,116]⟩) (h3:¬z0c ws j=⟨#[102,117,110]⟩) (h4:¬z0c ws j=⟨#[111,117,116,112,117,116]⟩):z1x ws f c j=.error (j+1):=by
 obtain ⟨f,rfl⟩:∃k,f=k+1:=⟨f - 1,by omega⟩
 rw [z1x,if_pos h,if_neg (show ¬z0c ws j=kData from h1),if_neg (show ¬z0c ws j=z8l from h2),if_neg (show ¬z0c ws j=kFun from h3),if_neg (show ¬z0c ws j=z8m from h4)]
end
end Go.Sw
