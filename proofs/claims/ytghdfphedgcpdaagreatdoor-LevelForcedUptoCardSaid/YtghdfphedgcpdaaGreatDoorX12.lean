import Derived.Test.YtghdfphedgcpdaaGreatDoorProg
import Derived.Test.YtghdfphedgcpdaaGreatDoorX00
import Derived.Test.YtghdfphedgcpdaaGreatDoorX01
import Derived.Test.YtghdfphedgcpdaaGreatDoorX02
import Derived.Test.YtghdfphedgcpdaaGreatDoorX03
import Derived.Test.YtghdfphedgcpdaaGreatDoorX05
import Derived.Test.YtghdfphedgcpdaaGreatDoorX06
import Derived.Test.YtghdfphedgcpdaaGreatDoorX07
import Derived.Test.YtghdfphedgcpdaaGreatDoorX08
import Derived.Test.YtghdfphedgcpdaaGreatDoorX09
import Derived.Test.YtghdfphedgcpdaaGreatDoorX11
set_option linter.unusedVariables false
set_option linter.unusedSimpArgs false
namespace Go.Sw
open Go.Proofs.Tryz
open Go.Proofs
set_option maxRecDepth 20000
set_option maxHeartbeats 4000000
def xT (c:Core) (l:List Bs):Bool:=l.all fun x=>decide (x∈zD c)
def zZ (c:Core) (l:List Bs):List Bs:=jO (zD c) (yB (yY (zY c)) (zO c++l))
def mD (c:Core) (l:List Bs):Except Int (List Bs):=if zP c=0 then (if xT c l then .ok (zZ c l) else .error 110) else .error (zP c)
theorem z5m {c:Core} {l:List Bs} (h:¬zP c=0):mD c l=.error (zP c):=if_neg h
theorem gN {c:Core} {l:List Bs} (h:zP c=0) (ha:xT c l=true):mD c l=.ok (zZ c l):=by rw [mD,if_pos h,if_pos ha]
theorem y0c {c:Core} {l:List Bs} (h:zP c=0) (ha:xT c l=false):mD c l=.error 110:=by rw [mD,if_pos h,ha];rfl
theorem q5q {c:Core} {l:List Bs} {i:Nat} {x:Bs} (h:l[i]? = some x):xT c (l.drop i)=(decide (x∈zD c)&&xT c (l.drop (i+1))):=by rw [zA h];rfl
theorem j5d {c:Core} {l:List Bs} {i:Nat} (h:¬i < l.length):xT c (l.drop i)=true:=by rw [zH h];rfl
def z8y (nx:Next) (rs:List Bs) (n:Bs) (p:List Bs):Prop:=(∃l,PathOk nx rs n l∧p.length=l.length)∧p[p.length - 1]? = some n∧(∀x,p[0]? = some x→x∈rs)∧y8n nx p
def CPRes (c:Core) (n:Bs) (p:List Bs) (y:Int):Prop:=match nT c n with
 | .error e=>y=e
 | .ok _=>(y=0∧z8y (yY (zY c)) (zO c) n p)∨(y=111∧¬z8y (yY (zY c)) (zO c) n p)
theorem CPRes.err {c:Core} {n:Bs} {p:List Bs} {e:Int} (h:nT c n=.error e):CPRes c n p e:=by rw [CPRes,h]
theorem CPRes.ok {c:Core} {n:Bs} {p:List Bs} (h0:zP c=0) (hn:n∈zD c) (h:z8y (yY (zY c)) (zO c) n p):CPRes c n p 0:=by rw [CPRes,kL h0 hn];exact .inl ⟨rfl,h⟩
theorem CPRes.no {c:Core} {n:Bs} {p:List Bs} (h0:zP c=0) (hn:n∈zD c) (h:¬z8y (yY (zY c)) (zO c) n p):CPRes c n p 111:=by rw [CPRes,kL h0 hn];exact .inr ⟨rfl,h⟩
section
variable {nx:Next} {rs l m p:List Bs} {n x y:Bs} {i:Nat}
theorem PathOk.way (h:PathOk nx rs n l):Way nx rs (l.length - 1) n:=by
 obtain ⟨p,rfl,h2,h3,_⟩:=h
 have:=x3v h2 h3
 rw [List.length_append];exact this
theorem PathOk.pos (h:PathOk nx rs n l):0 < l.length:=by obtain ⟨p,rfl,_⟩:=h;simp
theorem PathOk.len (h:PathOk nx rs n l) (g:PathOk nx rs n m):l.length=m.length:=by
 have a:=h.way;have b:=g.way;have c:=h.pos;have d:=g.pos
 obtain ⟨p,e1,_,_,h4⟩:=h
 obtain ⟨q,e2,_,_,g4⟩:=g
 have h5:=h4 _ b;have g5:=g4 _ a
 have l1:=congrArg List.length e1;have l2:=congrArg List.length e2
 rw [List.length_append] at l1 l2;simp only [List.length_cons,List.length_nil] at l1 l2;omega
theorem PathOk.reached (h:PathOk nx rs n l):(zK (yB nx rs) n).isSome=true:=(wQ _ _ _).2 ⟨_,h.way⟩
theorem CP_no0 (h:(zK (yB nx rs) n).isSome=false):¬z8y nx rs n p:=fun hc=>by
 obtain ⟨⟨l,h1,_⟩,_⟩:=hc
 rw [h1.reached] at h;cases h
theorem CP_no1 (h:PathOk nx rs n l) (hl:¬p.length=l.length):¬z8y nx rs n p:=fun hc=>by
 obtain ⟨⟨m,h1,h2⟩,_⟩:=hc
 exact hl (by rw [h2,h1.len h])
theorem CP_no2 (hx:p[p.length - 1]? = some x) (h:¬x=n):¬z8y nx rs n p:=fun hc=>by
 have:=hc.2.1;rw [hx] at this;exact h (Option.some.inj this)
theorem CP_no3 (hx:p[0]? = some x) (h:¬x∈rs):¬z8y nx rs n p:=fun hc=>h (hc.2.2.1 x hx)
theorem CP_no4 (hx:p[i]? = some x) (hy:p[i+1]? = some y) (h:¬y∈jW nx x):¬z8y nx rs n p:=fun hc=>h (hc.2.2.2 i x y hx hy)
def TrailTo (nx:Next) (p:List Bs) (i:Nat):Prop:=∀j,j < i→∀a b,p[j]? = some a→p[j+1]? = some b→b∈jW nx a
theorem TrailTo.start:TrailTo nx p 0:=fun j h=>by omega
theorem TrailTo.step (h:TrailTo nx p i) (hx:p[i]? = some x) (hy:p[i+1]? = some y) (hn:y∈jW nx x):TrailTo nx p (i+1):=fun j hj a b ha hb=>by
 by_cases e:j=i
 subst e;rw [hx] at ha;rw [hy] at hb;cases ha;cases hb;exact hn
 exact h j (by omega) a b ha hb
theorem CP_yes (h:PathOk nx rs n l) (hl:p.length=l.length) (hx:p[p.length - 1]? = some x) (hxn:x=n) (hy:p[0]? = some y) (hyr:y∈rs) (ht:TrailTo nx p i) (hi:¬i < p.length - 1):z8y nx rs n p:=by
 subst hxn
 refine ⟨⟨l,h,hl⟩,hx,fun z hz=>by rw [hy] at hz;cases hz;exact hyr,fun j a b ha hb=>ht j ?_ a b ha hb⟩
 have:=(List.getElem?_eq_some_iff.1 hb).1;omega
end
theorem kE {Φ:Fz} {K:List Res} {w:World} {d0:List Value} {c:Core} {v:Value} {l:List Bs} (rpc:RCore Φ d0 c) (rl:SliceOf RStr Φ 1 v l) (hlen:l.length≤8796093022208) (G:Glob Φ) (hL:zP c=0→LOk c) (hm:Mem Φ K w) :
  Calls prog 20 (List.toArray [.agg d0.toArray,v]) w (fun ee w'=>Out (mD c l) (fun l=>∃y:Value,ee=.returned (.tuple (List.toArray [y,.int .i64 0]))∧True∧Mem Φ (.gs y 9 1 (strs l)::K) w') (fun e=>ee=.returned (.tuple (List.toArray [.slice none 0 0,.int .i64 e]))∧Mem Φ K w')):=by
 have rpc0_:=rpc
 obtain ⟨p3,c4,p9,c10,p15,c16,p21,c22,rfl,h2,h8,h14,h20,hm5,hn6,hm11,hn12,hm17,hn18,hm23,hn24⟩:=RCore.fm rpc
 obtain ⟨p25,c26,rfl,hmx27,hn28⟩:=rl.fm
 refine zN func20 ntmps20 fun Q hQ a he =>?_
 refine Bx fun b30 w hm a he =>?_
 refine go fun a he =>?_
 refine st he rfl rfl rfl (qA he rfl call41 (dR rpc0_ G hL hm) (fun q32 y33 w hq34 hG35 hm a he =>?_) (fun q32 w hq34 hm a he =>?_))
 obtain ⟨Ψg,bg⟩:=y33
 obtain ⟨leg,rg⟩:=hG35
 simp only at leg rg hm he
 have h0:=mX hq34
 have L_:=hL h0
 replace rpc0_:=RCore.mono _ _ _ _ leg rpc0_
 replace G:=G.mono leg
 replace rl:=rl.up leg
 replace hm:=hm.nf
 obtain ⟨d36,nd37,fl38,pm39,nb40,nm41,hat42,rc43,rn44,rf45,ma46,mr47⟩:=id rg
 have rc43o:=rc43
 obtain ⟨p50,c51,p56,c57,p62,c63,p68,c69,rfl,h49,h55,h61,h67,hm52,hn53,hm58,hn59,hm64,hn65,hm70,hn71⟩:=RCore.fm rc43
 obtain ⟨p72,c73,rfl,hmx74,hn75⟩:=rn44.fm
 obtain ⟨p76,c77,rfl,hmx78,hn79⟩:=rf45.fm
 refine Qq (fun a he =>?_) (o:=by exact fun he hs=>qF false he rfl rfl rfl)
 refine go fun a he =>?_
 refine yG (he.ks [1,6,18,19]) hm (fun R mm a w=>∃(i:Nat),mm=l.length - i∧R Ψg [(20,.int .i64 ((i:Nat):Int))] [] a w∧(xT c l=xT c (l.drop i))) (l.length - 0) ⟨0,rfl,⟨he.pk,hm⟩,rfl⟩ ?_
 clear hm he
 rintro mm a w ⟨i,hmu,⟨he,hm⟩,hI85⟩ L84 hL84
 by_cases h87:i < l.length
 refine go fun a he =>?_
 obtain ⟨q91,rfl,x92,hx93,cs94,hl95,ha96,hr97⟩:=rl.el hn28 h87
 obtain rfl:cs94=[.string x92]:=hr97
 refine yH call48 (fun hB99 w hm a he =>?_) (fun hB99 w hm a he =>?_) (c:=cQ rn44 hm)
 refine go fun a he =>?_
 refine hL84 _ _ _ (by subst hmu;omega) ⟨(i+1),rfl,⟨he.pk,hm⟩,?_⟩
 rw [hI85,q5q hx93,show decide (x92∈zD c)=true from hB99];rfl
 refine vE ?_
 replace hm:=hm.le (leg)
 replace hm:=hm.dl [0]
 rw [y0c h0 (by rw [hI85,q5q hx93,show decide (x92∈zD c)=false from hB99];rfl)];exact ⟨rfl,hm⟩
 refine go fun a he =>?_
 have hall_:xT c l=true:=by rw [hI85,j5d h87]
 refine qL [1,1,1,1,2,1,0,1,0,0,0,1,1] (.q 0 (.q 1 (.q 2 (.q 3 (.q 4 (.q 5 (.q 7 (.e 6 (.e 8 (.e 9 (.e 10 (.q 11 (.q 12 (.done)))))))))))))) [0] he hm fun w hm =>?_
 refine qV call39 (fun y103 w hG104 hm a he =>?_) (c:=cF rg L_.tidy.inp L_.il hm)
 refine d_e he rfl rfl rfl (z5j 0 (xs:=(strs (zO (xX c).core))) (news:=(strs l)) vV he hm rfl rfl rfl ((SliceOf.strs.1 rl).rowIn hm.toSees) (pM _) (by intro n_ m_ hn_ hx_;have h1_:=L_.il;rw [yA] at hn_ hx_;rw [show (zO (xX c).core).length=c.inputs.length from z4r c] at hn_;omega) fun v105 w hm=>⟨fun _=>hm.sn (Fz.Le.refl _),fun a he =>?_⟩)
 replace hm:=hm.nf
 first | rw [qK] at hm | rw [← yZ] at hm
 refine d_e he rfl rfl rfl (kD he rfl rfl call67 (aJ (l:=(zO c++l)) rg (by have h1_:=L_.bound (zO c++l);rw [List.length_append,z4r] at h1_;have h2_:=L_.il;exact Nat.le_trans h1_ (by omega)) hm) (fun y106 w hG107 hm=>⟨zU (by kernel_rfl),fun a he =>?_⟩))
 refine qV call42 (fun y108 w hG109 hm a he =>?_) (c:=z4m (o:=(yB (xX c).next (zO c++l))) rg L_.nl hm)
 refine vE ?_
 replace hm:=hm.le (leg)
 replace hm:=hm.dl [2,1]
 rw [gN h0 hall_];exact ⟨_,rfl,trivial,hm⟩
 obtain ⟨hz_,rfl⟩:=mW hq34
 refine vE ?_
 replace hm:=hm.dl [0]
 rw [z5m hz_];exact ⟨rfl,hm⟩
theorem y6s {Φ:Fz} {K:List Res} {w:World} {d0:List Value} {c:Core} {n:Bs} {v:Value} {p:List Bs} (rpc:RCore Φ d0 c) (rl:SliceOf RStr Φ 1 v p) (G:Glob Φ) (hL:zP c=0→LOk c) (hm:Mem Φ K w) :
  Calls prog 29 (List.toArray [.agg d0.toArray,.string n,v]) w (fun ee w'=>∃y:Int,ee=.returned (.int .i64 y)∧CPRes c n p y∧Mem Φ K w'):=by
 have rpc0_:=rpc
 obtain ⟨p3,c4,p9,c10,p15,c16,p21,c22,rfl,h2,h8,h14,h20,hm5,hn6,hm11,hn12,hm17,hn18,hm23,hn24⟩:=RCore.fm rpc
 obtain ⟨p25,c26,rfl,hmx27,hn28⟩:=rl.fm
 refine zN func29 ntmps29 fun Q hQ a he =>?_
 refine Bx fun b30 w hm a he =>?_
 refine go fun a he =>?_
 refine st he rfl rfl rfl (qA he rfl call38 (z2f rpc0_ G hL hm) (fun q32 y33 w hq34 hG35 hm a he =>?_) (fun q32 w hq34 hm a he =>?_))
 obtain ⟨Ψg,bg⟩:=y33
 obtain ⟨leg,rg⟩:=hG35
 simp only at leg rg hm he
 obtain ⟨h0,hn_⟩:=z2e hq34
 have L_:=hL h0
 replace rpc0_:=RCore.mono _ _ _ _ leg rpc0_
 replace G:=G.mono leg
 replace rl:=rl.up leg
 replace hm:=hm.nf
 obtain ⟨d36,nd37,fl38,pm39,nb40,nm41,hat42,rc43,rn44,rf45,ma46,mr47⟩:=id rg
 have rc43o:=rc43
 obtain ⟨p50,c51,p56,c57,p62,c63,p68,c69,rfl,h49,h55,h61,h67,hm52,hn53,hm58,hn59,hm64,hn65,hm70,hn71⟩:=RCore.fm rc43
 obtain ⟨p72,c73,rfl,hmx74,hn75⟩:=rn44.fm
 obtain ⟨p76,c77,rfl,hmx78,hn79⟩:=rf45.fm
 refine Qq (fun a he =>?_) (o:=by exact fun he hs=>qF false he rfl rfl rfl)
 refine go fun a he =>?_
 refine st he rfl rfl rfl (qA he rfl call51 (q6v rg (Nat.le_trans L_.boundR (by decide)) L_.se L_.tidy.inp L_.il hm) (fun q83 y84 w hq85 hG86 hm a he =>?_) (fun q83 w hq85 hm a he =>?_))
 obtain ⟨pv,pl⟩:=y84
 have hpo_:=hG86
 simp only at hpo_ hm he
 have hre_:=q6u hq85
 replace hm:=hm.nf
 refine go fun a he =>?_
 obtain ⟨q89,cap90,rfl⟩:=qZ hm (i:=0) rfl
 have hpp_:=PathOk.pos hpo_
 refine qL [1,1,1,1,1,1,1,1,1,1,1,1,1,1,1,2,1,1,1,1,1,0,1,1,2,0,1,1] (.q 0 (.q 1 (.q 2 (.q 3 (.q 4 (.q 5 (.q 6 (.q 7 (.q 8 (.q 9 (.q 10 (.q 11 (.q 12 (.q 13 (.q 14 (.q 15 (.q 16 (.q 17 (.q 18 (.q 19 (.q 20 (.q 22 (.q 23 (.q 24 (.e 21 (.e 25 (.q 26 (.q 27 (.done))))))))))))))))))))))))))))) [0,1] he hm fun w hm =>?_
 by_cases h91:p.length=pl.length
 have hpl_:p.length=pl.length:=h91
 have hp0_:0 < p.length:=by omega
 refine Qq (fun a he =>?_) (o:=by exact fun he hs=>pE ((p.length - 1:Nat):Int) he rfl rfl (by rw [xH (by omega)];omega))
 have hb92:p.length - 1 < p.length:=by omega
 obtain ⟨q93,rfl,x94,hx95,cs96,hl97,ha98,hr99⟩:=rl.el hn28 hb92
 obtain rfl:cs96=[.string x94]:=hr99
 refine go fun a he =>?_
 by_cases h100:x94=n
 refine go fun a he =>?_
 have hb101:0 < p.length:=by omega
 obtain ⟨x102,hx103⟩:=yF hb101
 obtain ⟨cs104,hl105,ha106,hr107⟩:=rl.elem hx103
 obtain rfl:cs104=[.string x102]:=hr107
 refine qV call39 (fun y108 w hG109 hm a he =>?_) (c:=cF rg L_.tidy.inp L_.il hm)
 have hm0_:=hm
 clear hm
 obtain ⟨Ψ110,le111,hm,hrow112⟩:=hm0_.freezeRow (i:=0) rfl
 clear hm0_
 replace rpc0_:=RCore.mono _ _ _ _ le111 rpc0_
 replace G:=G.mono le111
 replace rl:=rl.up le111
 replace hat42:=hat42.mono le111
 replace ma46:=ma46.mono le111
 replace rc43o:=RCore.mono _ _ _ _ le111 rc43o
 replace mr47:=mr47.mono (fun _ _ h_=>h_.mono RStr.mono le111)
 replace ha98:=ha98.mono le111
 replace ha106:=ha106.mono le111
 replace hm:=hm.nf
 have hsl113:SliceOf RStr Ψ110 1 _ ((zO c)):=SliceOf.strs.2 hrow112
 obtain ⟨p114,c115,hv_,hm116,hn117⟩:=hsl113.form (by decide)
 have hmk_:=hm
 clear hm
 subst hv_
 have hm:=hmk_
 clear hmk_
 refine yH call48 (fun hB118 w hm a he =>?_) (fun hB118 w hm a he =>?_) (c:=cQ hsl113 hm)
 refine Qq (fun a he =>?_) (o:=by exact fun he hs=>pE ((p.length - 1:Nat):Int) he rfl rfl (by rw [xH (by omega)];omega))
 refine go fun a he =>?_
 refine yG (he.ks [2,7,57]) hm (fun R mm a w=>∃(i:Nat),mm=p.length - 1 - i∧R Ψ110 [(58,.int .i64 ((i:Nat):Int))] [] a w∧(TrailTo (yY (zY c)) p i)) (p.length - 1 - 0) ⟨0,rfl,⟨he.pk,hm⟩,TrailTo.start⟩ ?_
 clear hm he
 rintro mm a w ⟨i,hmu,⟨he,hm⟩,hI122⟩ L121 hL121
 by_cases h124:i < p.length - 1
 refine Reg [1,1,1,2,1,1,1,2,2,1,1,1,1,2,0,1] [0,1] fun w hm a he =>?_
 refine go fun a he =>?_
 have hb129:i < p.length:=by omega
 obtain ⟨x130,hx131⟩:=yF hb129
 obtain ⟨cs132,hl133,ha134,hr135⟩:=rl.elem hx131
 obtain rfl:cs132=[.string x130]:=hr135
 refine go fun a he =>?_
 have hs136:=q6h mr47 x130
 obtain ⟨p137,c138,hv139,hmx140,hn141⟩:=hs136.form (by decide)
 rw [hv139] at hs136
 refine Qq (fun a he =>?_) (o:=by exact fun he hs=>Ok.cast (yP runUnderlying72 runUnderlying9 zeroValue25 he hs rfl rfl ma46) hv139)
 refine go fun a he =>?_
 have hb142:(i+1) < p.length:=by omega
 obtain ⟨x143,hx144⟩:=yF hb142
 obtain ⟨cs145,hl146,ha147,hr148⟩:=rl.elem hx144
 obtain rfl:cs145=[.string x143]:=hr148
 refine yH call48 (fun hB149 w hm a he =>?_) (fun hB149 w hm a he =>?_) (c:=cQ hs136 hm)
 refine go fun a he =>?_
 refine hL121 _ _ _ (by subst hmu;omega) ⟨(i+1),rfl,⟨he.pk,hm⟩,?_⟩
 exact TrailTo.step hI122 hx131 hx144 (of_decide_eq_true hB149)
 refine zF ?_
 replace hm:=hm.le ((leg).trans le111)
 replace hm:=hm.dl [1,0]
 exact ⟨_,rfl,CPRes.no h0 hn_ (CP_no4 hx131 hx144 (of_decide_eq_false hB149)),hm⟩
 refine zF ?_
 replace hm:=hm.le ((leg).trans le111)
 replace hm:=hm.dl [1,0]
 exact ⟨_,rfl,CPRes.ok h0 hn_ (CP_yes hpo_ hpl_ hx95 h100 hx103 (of_decide_eq_true hB118) hI122 h124),hm⟩
 refine zF ?_
 replace hm:=hm.le ((leg).trans le111)
 replace hm:=hm.dl [1,0]
 exact ⟨_,rfl,CPRes.no h0 hn_ (CP_no3 hx103 (of_decide_eq_false hB118)),hm⟩
 refine zF ?_
 replace hm:=hm.le (leg)
 replace hm:=hm.dl [1,0]
 exact ⟨_,rfl,CPRes.no h0 hn_ (CP_no2 hx95 h100),hm⟩
 refine zF ?_
 replace hm:=hm.le (leg)
 replace hm:=hm.dl [1,0]
 exact ⟨_,rfl,CPRes.no h0 hn_ (CP_no1 hpo_ h91),hm⟩
 have hre_:=y5b hq85
 refine go fun a he =>?_
 refine qL [1,1,1,1,1,1,1,1,1,1,1,1,1,1,1,2,1,1,1,1,1,0,1,1,2,0,1,1] (.q 0 (.q 1 (.q 2 (.q 3 (.q 4 (.q 5 (.q 6 (.q 7 (.q 8 (.q 9 (.q 10 (.q 11 (.q 12 (.q 13 (.q 14 (.q 15 (.q 16 (.q 17 (.q 18 (.q 19 (.q 20 (.q 22 (.q 23 (.q 24 (.e 21 (.e 25 (.q 26 (.q 27 (.done))))))))))))))))))))))))))))) [0] he hm fun w hm =>?_
 refine zF ?_
 replace hm:=hm.le (leg)
 replace hm:=hm.dl [0]
 exact ⟨_,rfl,CPRes.no h0 hn_ (CP_no0 hre_),hm⟩
 have hz_:=gW hq34
 refine zF ?_
 replace hm:=hm.dl [0]
 exact ⟨_,rfl,CPRes.err hq34,hm⟩
end Go.Sw

namespace Go.Sw
end Go.Sw

namespace Go.Sw
open Go.Proofs
def seqR:Code→Code
 | .seq _ y=>y
 | c=>c
section
variable {ws:List Bs} {f j n:Nat} {c:Core}
theorem j4i (h:¬j < ws.length) (hf:0 < f):qU ws f c j=.ok c:=by
 obtain ⟨f,rfl⟩:∃k,f=k+1:=⟨f - 1,by omega⟩
 rw [qU,if_neg h]
theorem q8n {x:Data×Nat} (h:j < ws.length) (hf:0 < f) (hk:zC ws j=⟨#[100,97,116,97]⟩) (hx:nJ ws (j+1)=.ok x):qU ws f c j=qU ws (f - 1) { c with datas:=c.datas++[x.1] } x.2:=by
 obtain ⟨f,rfl⟩:∃k,f=k+1:=⟨f - 1,by omega⟩
 rw [qU,if_pos h,if_pos (show zC ws j=tV from hk),hx];rfl
theorem q4q (h:j < ws.length) (hf:0 < f) (hk:zC ws j=⟨#[100,97,116,97]⟩) (hx:nJ ws (j+1)=.error n):qU ws f c j=.error n:=by
 obtain ⟨f,rfl⟩:∃k,f=k+1:=⟨f - 1,by omega⟩
 rw [qU,if_pos h,if_pos (show zC ws j=tV from hk),hx]
theorem q4r {x:Param×Nat} (h:j < ws.length) (hf:0 < f) (h1:¬zC ws j=⟨#[100,97,116,97]⟩) (hk:zC ws j=⟨#[105,110,112,117,116]⟩) (hx:kG ws (j+1)=.ok x):qU ws f c j=qU ws (f - 1) { c with inputs:=c.inputs++[x.1] } x.2:=by
 obtain ⟨f,rfl⟩:∃k,f=k+1:=⟨f - 1,by omega⟩
 rw [qU,if_pos h,if_neg (show ¬zC ws j=tV from h1),if_pos (show zC ws j=sB from hk),hx];rfl
theorem q2b (h:j < ws.length) (hf:0 < f) (h1:¬zC ws j=⟨#[100,97,116,97]⟩) (hk:zC ws j=⟨#[105,110,112,117,116]⟩) (hx:kG ws (j+1)=.error n):qU ws f c j=.error n:=by
 obtain ⟨f,rfl⟩:∃k,f=k+1:=⟨f - 1,by omega⟩
 rw [qU,if_pos h,if_neg (show ¬zC ws j=tV from h1),if_pos (show zC ws j=sB from hk),hx]
theorem j4j {x:Fun×Nat} (h:j < ws.length) (hf:0 < f) (h1:¬zC ws j=⟨#[100,97,116,97]⟩) (h2:¬zC ws j=⟨#[105,110,112,117,116]⟩) (hk:zC ws j=⟨#[102,117,110]⟩) (hx:aV ws (j+1)=.ok x):qU ws f c j=qU ws (f - 1) { c with funs:=c.funs++[x.1] } x.2:=by
 obtain ⟨f,rfl⟩:∃k,f=k+1:=⟨f - 1,by omega⟩
 rw [qU,if_pos h,if_neg (show ¬zC ws j=tV from h1),if_neg (show ¬zC ws j=sB from h2),if_pos (show zC ws j=kFun from hk),hx];rfl
theorem q8o (h:j < ws.length) (hf:0 < f) (h1:¬zC ws j=⟨#[100,97,116,97]⟩) (h2:¬zC ws j=⟨#[105,110,112,117,116]⟩) (hk:zC ws j=⟨#[102,117,110]⟩) (hx:aV ws (j+1)=.error n):qU ws f c j=.error n:=by
 obtain ⟨f,rfl⟩:∃k,f=k+1:=⟨f - 1,by omega⟩
 rw [qU,if_pos h,if_neg (show ¬zC ws j=tV from h1),if_neg (show ¬zC ws j=sB from h2),if_pos (show zC ws j=kFun from hk),hx]
theorem j4k {x:Bs×Nat} (h:j < ws.length) (hf:0 < f) (h1:¬zC ws j=⟨#[100,97,116,97]⟩) (h2:¬zC ws j=⟨#[105,110,112,117,116]⟩) (h3:¬zC ws j=⟨#[102,117,110]⟩) (hk:zC ws j=⟨#[111,117,116,112,117,116]⟩) (hx:mI ws (j+1)=.ok x):qU ws f c j=qU ws (f - 1) { c with outputs:=c.outputs++[x.1] } x.2:=by
 obtain ⟨f,rfl⟩:∃k,f=k+1:=⟨f - 1,by omega⟩
 rw [qU,if_pos h,if_neg (show ¬zC ws j=tV from h1),if_neg (show ¬zC ws j=sB from h2),if_neg (show ¬zC ws j=kFun from h3),if_pos (show zC ws j=z8t from hk),hx];rfl
theorem q8p (h:j < ws.length) (hf:0 < f) (h1:¬zC ws j=⟨#[100,97,116,97]⟩) (h2:¬zC ws j=⟨#[105,110,112,117,116]⟩) (h3:¬zC ws j=⟨#[102,117,110]⟩) (hk:zC ws j=⟨#[111,117,116,112,117,116]⟩) (hx:mI ws (j+1)=.error n):qU ws f c j=.error n:=by
 obtain ⟨f,rfl⟩:∃k,f=k+1:=⟨f - 1,by omega⟩
 rw [qU,if_pos h,if_neg (show ¬zC ws j=tV from h1),if_neg (show ¬zC ws j=sB from h2),if_neg (show ¬zC ws j=kFun from h3),if_pos (show zC ws j=z8t from hk),hx]
theorem j4h (h:j < ws.length) (hf:0 < f) (h1:¬zC ws j=⟨#[100,97,116,97]⟩) (h2:¬zC ws j=⟨#[105,110,112,117,116]⟩) (h3:¬zC ws j=⟨#[102,117,110]⟩) (h4:¬zC ws j=⟨#[111,117,116,112,117,116]⟩):qU ws f c j=.error (j+1):=by
 obtain ⟨f,rfl⟩:∃k,f=k+1:=⟨f - 1,by omega⟩
 rw [qU,if_pos h,if_neg (show ¬zC ws j=tV from h1),if_neg (show ¬zC ws j=sB from h2),if_neg (show ¬zC ws j=kFun from h3),if_neg (show ¬zC ws j=z8t from h4)]
end
end Go.Sw

namespace Go.Sw
open Go.Proofs.Tryz
open Go.Proofs
set_option maxRecDepth 20000
set_option maxHeartbeats 4000000
theorem j6t {Φ:Fz} {K:List Res} {w:World} {a:Act} {D:List Deferred} {Q:Exit→Act→World→Prop} {rs:Value} {ws:List Bs} {c0 wd rp r:Nat} (G:Glob Φ) (hE:gI ws 250) (rl:SliceOf RStr Φ 1 rs ws) (hws:ws.length≤1000000)
  (hR:∀{Ψ:Fz} {a:Act} {w:World} {C:Core} {u0 u1 u2 u3:Value},qU ws (ws.length+1) ⟨[],[],[],[]⟩ 0=.ok C→Φ.Le Ψ→SliceOf RData Ψ 2 u0 C.datas→SliceOf RParam Ψ 2 u1 C.inputs→SliceOf RFun Ψ 8 u2 C.funs→EnvR 96 [(3,.pointer (some ⟨wd,0,none⟩)),(2,.pointer (some ⟨c0,0,none⟩))] D a→Mem Ψ (.blk c0 (ob [u0,u1,u2,u3] 27)::.blk wd (ob [.int .i64 ((0:Nat):Int)] 3)::.gs u3 9 1 (strs C.outputs)::K) w→Q .ret a w)
  (hP:∀{Ψ:Fz} {a:Act} {w:World} {n:Nat} {u0 u1 u2 u3 x:Value},qU ws (ws.length+1) ⟨[],[],[],[]⟩ 0=.error n→Φ.Le Ψ→EnvR 96 [(3,.pointer (some ⟨wd,0,none⟩)),(2,.pointer (some ⟨c0,0,none⟩))] D a→Mem Ψ (.blk c0 (ob [u0,u1,u2,u3] 27)::.blk wd (ob [x] 3)::K) w→Q (.panic (pO n)) a w)
  (he:EnvR 96 [(2,.pointer (some ⟨c0,0,none⟩)),(3,.pointer (some ⟨wd,0,none⟩)),(4,.pointer (some ⟨rp,0,none⟩))] D a) (hm:Mem Φ (.blk r (ob [rs,.int .i64 ((0:Nat):Int)] 210)::.blk rp (ob [.pointer (some ⟨r,0,none⟩)] 208)::.blk c0 (ob [.slice none 0 0,.slice none 0 0,.slice none 0 0,.slice none 0 0] 27)::.blk wd (ob [.int .i64 ((0:Nat):Int)] 3)::K) w) :
  (seqR (seqR (seqR (seqR (Tryz.f98.body.getD .skip))))).wp prog Q a w:=by
 obtain ⟨pw,cw,rfl,hmw,hnw⟩:=rl.fm
 change (Code.seq _ _).wp _ _ _ _
 refine go fun a he =>?_
 replace hm:=hm.nilRow 126 2
 replace hm:=hm.nf
 replace hm:=hm.nilRow 36 2
 replace hm:=hm.nf
 replace hm:=hm.nilRow 112 8
 replace hm:=hm.nf
 replace hm:=hm.nilRow 9 1
 replace hm:=hm.nf
 refine yG (he.ks [2,3,4]) hm (fun R mm a w=>∃(Ψ2:Fz) (j:Nat) (f:Nat) (u0:Value) (u1:Value) (u2:Value) (u3:Value) (d0:List Value) (d1:List Value) (d2:List Value) (C:Core),mm=ws.length - j∧R Ψ2 [] [(0,.gs (u3) 9 1 (strs C.outputs)),(1,.gs (u2) 112 8 d2),(2,.gs (u1) 36 2 d1),(3,.gs (u0) 126 2 d0),(4,.blk r (ob [.slice pw ws.length cw,.int .i64 ((j:Nat):Int)] 210)),(6,.blk c0 (ob [u0,u1,u2,u3] 27))] a w∧(Φ.Le Ψ2∧(Chunks (RData Ψ2) 2 d0 C.datas∧Chunks (RParam Ψ2) 2 d1 C.inputs∧Chunks (RFun Ψ2) 8 d2 C.funs∧(C.datas.length≤j∧C.inputs.length≤j∧C.funs.length≤j∧C.outputs.length≤j)∧j≤ws.length∧ws.length+1≤j+f∧qU ws (ws.length+1) ⟨[],[],[],[]⟩ 0=qU ws f C j))) (ws.length - 0) ⟨Φ,0,ws.length+1,.slice none 0 0,.slice none 0 0,.slice none 0 0,.slice none 0 0,[],[],[],⟨[],[],[],[]⟩,rfl,⟨he.pk,hm⟩,⟨Fz.Le.refl _,⟨rfl,rfl,rfl,⟨Nat.le_refl _,Nat.le_refl _,Nat.le_refl _,Nat.le_refl _⟩,Nat.zero_le _,by omega,rfl⟩⟩⟩ ?_
 clear hm he
 rintro mm a w ⟨Ψ2,j,f,u0,u1,u2,u3,d0,d1,d2,C,hmu,⟨he,hm⟩,hI5⟩ L4 hL4
 replace hm:=hm.nf
 obtain ⟨le3,hI5⟩:=hI5
 replace rl:=rl.up le3
 replace G:=G.mono le3
 obtain ⟨hch0,hch1,hch2,hln_,hj,hf_,hI_⟩:=hI5
 refine Reg [2,1,1,2,2,1,1,2,1,1] [0,1,2,3,4,5,6,7] fun w hm a he =>?_
 by_cases h8:j < ws.length
 refine Sto 4 fun w hm a he =>?_
 refine Reg [2,1,1,2,2,1,1,2,1,1,2] [0,1,2,3,4,5,6,7] fun w hm a he =>?_
 refine Qq (fun a he =>?_) (o:=by exact fun he hs=>pE ((j:Nat):Int) he rfl rfl (by rw [xH (by omega)];omega))
 obtain ⟨q11,rfl,x12,hx13,cs14,hl15,ha16,hr17⟩:=rl.el hnw h8
 obtain rfl:cs14=[.string x12]:=hr17
 by_cases h19:x12=(⟨#[100,97,116,97]⟩:ByteArray)
 refine go fun a he =>?_
 refine aA (E0:=[(3,.pointer (some ⟨wd,0,none⟩)),(2,.pointer (some ⟨c0,0,none⟩))]) [1,2,2,0,0,0,1,0] (.q 0 (.q 1 (.q 2 (.e 3 (.e 4 (.e 5 (.q 6 (.e 7 (.done))))))))) [.gs (u3) 9 1 (strs C.outputs),.gs (u2) 112 8 d2,.gs (u1) 36 2 d1,.blk rp (ob [.pointer (some ⟨r,0,none⟩)] 208),.blk c0 (ob [u0,u1,u2,u3] 27),.blk wd (ob [.int .i64 ((0:Nat):Int)] 3)] (he.pk) hm mixed (by kernel_rfl) (by simp) (by kernel_rfl) fun w hm =>?_
 refine go fun a he =>?_
 replace hm:=hm.pl 4
 refine d_e he rfl rfl rfl (z3l he rfl call139 (x2j G (i:=(j+1)) rl hws (by omega) hm) (fun q20 y21 w hq22 hG23 hm=>⟨fun _=>hm.sn ((Fz.Le.refl _).trans (hG23.1)),fun a he =>?_⟩) (fun q20 w hq22 hm=>fun a he =>?_))
 obtain ⟨Ψ24,d25⟩:=y21
 obtain ⟨le26,hr27⟩:=hG23
 simp only at le26 hr27 hm he
 have hgo28:=data_le hq22
 replace rl:=rl.up le26
 replace G:=G.mono le26
 replace hch0:=hch0.mono fun _ _ h=>RData.mono _ _ _ _ le26 h
 replace hch1:=hch1.mono fun _ _ h=>RParam.mono _ _ _ _ le26 h
 replace hch2:=hch2.mono fun _ _ h=>RFun.mono _ _ _ _ le26 h
 replace ha16:=ha16.mono le26
 replace hm:=hm.nf
 obtain ⟨s29,rfl,h30⟩:=id hr27
 obtain ⟨p31,c32,rfl,hm33,hn34⟩:=h30.fm
 refine kW fun v35 w hm a he =>?_
 refine wL 5 rt_22 (fun v36 w hm a he =>?_) (hb:=by have h_:=hch0.length;rw [h_];simp only [List.length_cons,List.length_nil];omega)
 refine Sto 7 fun w hm a he =>?_
 refine go fun a he =>?_
 replace hm:=hm.ar [0] [7,7,7,3,7,7,7,7]
 refine hL4 _ _ _ (by subst hmu;omega) ⟨(Ψ24),(q20.2),(f - 1),(v36),(u1),(u2),(u3),((d0++[.string q20.1.name,.slice p31 q20.1.cons.length c32])),(d1),(d2),({ C with datas:=C.datas++[q20.1] }),rfl,⟨he.pk,by exact hm⟩,?_⟩
 refine ⟨(le3).trans le26,?_⟩
 exact ⟨(hch0.snoc (k:=2) (x:=q20.1) rfl hr27),hch1,hch2,⟨by show (C.datas++[q20.1]).length≤_;simp only [List.length_append,List.length_cons,List.length_nil];omega,by show C.inputs.length≤_;omega,by show C.funs.length≤_;omega,by show C.outputs.length≤_;omega⟩,by omega,by omega,hI_.trans (q8n h8 (by omega) ((jC hx13).trans h19) hq22)⟩
 replace hm:=hm.dl [4,3,2,1,0]
 exact hP (hI_.trans (q4q h8 (by omega) ((jC hx13).trans h19) hq22)) (le3) (he.pk) hm
 by_cases h38:x12=(⟨#[105,110,112,117,116]⟩:ByteArray)
 refine go fun a he =>?_
 refine aA (E0:=[(3,.pointer (some ⟨wd,0,none⟩)),(2,.pointer (some ⟨c0,0,none⟩))]) [1,2,2,0,0,0,1,0] (.q 0 (.q 1 (.q 2 (.e 3 (.e 4 (.e 5 (.q 6 (.e 7 (.done))))))))) [.gs (u3) 9 1 (strs C.outputs),.gs (u2) 112 8 d2,.gs (u0) 126 2 d0,.blk rp (ob [.pointer (some ⟨r,0,none⟩)] 208),.blk c0 (ob [u0,u1,u2,u3] 27),.blk wd (ob [.int .i64 ((0:Nat):Int)] 3)] (he.pk) hm mixed (by kernel_rfl) (by simp) (by kernel_rfl) fun w hm =>?_
 refine go fun a he =>?_
 replace hm:=hm.pl 4
 refine d_e he rfl rfl rfl (z3k he rfl call140 (q0v G (i:=(j+1)) rl hws (by omega) hm) (fun q39 w hq40 hm=>⟨fun _=>hm.sn (Fz.Le.refl _),fun a he =>?_⟩) (fun q39 w hq40 hm=>fun a he =>?_))
 have hleq39:=q6p hq40
 refine kW fun v41 w hm a he =>?_
 refine wL 4 rt_23 (fun v42 w hm a he =>?_) (hb:=by have h_:=hch1.length;rw [h_];simp only [List.length_cons,List.length_nil];omega)
 refine Sto 7 fun w hm a he =>?_
 refine go fun a he =>?_
 replace hm:=hm.ar [0] [7,7,7,3,7,7,7,7]
 refine hL4 _ _ _ (by subst hmu;omega) ⟨(Ψ2),(q39.2),(f - 1),(u0),(v42),(u2),(u3),(d0),((d1++[.string q39.1.name,.string q39.1.type])),(d2),({ C with inputs:=C.inputs++[q39.1] }),rfl,⟨he.pk,by exact hm⟩,?_⟩
 refine ⟨le3,?_⟩
 exact ⟨hch0,(hch1.snoc (k:=2) (x:=q39.1) rfl rfl),hch2,⟨by show C.datas.length≤_;omega,by show (C.inputs++[q39.1]).length≤_;simp only [List.length_append,List.length_cons,List.length_nil];omega,by show C.funs.length≤_;omega,by show C.outputs.length≤_;omega⟩,by omega,by omega,hI_.trans (q4r h8 (by omega) (fun h_=>h19 ((jC hx13).symm.trans h_)) ((jC hx13).trans h38) hq40)⟩
 replace hm:=hm.dl [4,3,2,1,0]
 exact hP (hI_.trans (q2b h8 (by omega) (fun h_=>h19 ((jC hx13).symm.trans h_)) ((jC hx13).trans h38) hq40)) (le3) (he.pk) hm
 by_cases h44:x12=(⟨#[102,117,110]⟩:ByteArray)
 refine go fun a he =>?_
 refine aA (E0:=[(3,.pointer (some ⟨wd,0,none⟩)),(2,.pointer (some ⟨c0,0,none⟩))]) [1,2,2,0,0,0,1,0] (.q 0 (.q 1 (.q 2 (.e 3 (.e 4 (.e 5 (.q 6 (.e 7 (.done))))))))) [.gs (u3) 9 1 (strs C.outputs),.gs (u1) 36 2 d1,.gs (u0) 126 2 d0,.blk rp (ob [.pointer (some ⟨r,0,none⟩)] 208),.blk c0 (ob [u0,u1,u2,u3] 27),.blk wd (ob [.int .i64 ((0:Nat):Int)] 3)] (he.pk) hm mixed (by kernel_rfl) (by simp) (by kernel_rfl) fun w hm =>?_
 refine go fun a he =>?_
 replace hm:=hm.pl 4
 refine d_e he rfl rfl rfl (z3l he rfl call141 (rfun_ok hE G (i:=(j+1)) rl hws (by omega) hm) (fun q45 y46 w hq47 hG48 hm=>⟨fun _=>hm.sn ((Fz.Le.refl _).trans (hG48.1)),fun a he =>?_⟩) (fun q45 w hq47 hm=>fun a he =>?_))
 obtain ⟨Ψ49,d50⟩:=y46
 obtain ⟨le51,hr52⟩:=hG48
 simp only at le51 hr52 hm he
 have hgo53:=fun_le hq47
 replace rl:=rl.up le51
 replace G:=G.mono le51
 replace hch0:=hch0.mono fun _ _ h=>RData.mono _ _ _ _ le51 h
 replace hch1:=hch1.mono fun _ _ h=>RParam.mono _ _ _ _ le51 h
 replace hch2:=hch2.mono fun _ _ h=>RFun.mono _ _ _ _ le51 h
 replace ha16:=ha16.mono le51
 replace hm:=hm.nf
 obtain ⟨s54,b60,rfl,h55,h61⟩:=id hr52
 obtain ⟨p56,c57,rfl,hm58,hn59⟩:=h55.fm
 obtain ⟨p64,c65,p70,c71,rfl,hi74,h63,h69,hm66,hn67,hm72,hn73⟩:=REx.fm h61
 refine kW fun v75 w hm a he =>?_
 refine wL 3 rt_24 (fun v76 w hm a he =>?_) (hb:=by have h_:=hch2.length;rw [h_];simp only [List.length_cons,List.length_nil];omega)
 refine Sto 7 fun w hm a he =>?_
 refine go fun a he =>?_
 replace hm:=hm.ar [0] [7,7,7,3,7,7,7,7]
 refine hL4 _ _ _ (by subst hmu;omega) ⟨(Ψ49),(q45.2),(f - 1),(u0),(u1),(v76),(u3),(d0),(d1),((d2++[.string q45.1.name,.slice p56 q45.1.params.length c57,.string q45.1.result,.int .i64 (q45.1.body.kind),.int .i64 (q45.1.body.num),.string q45.1.body.name,.slice p64 q45.1.body.args.length c65,.slice p70 q45.1.body.arms.length c71])),({ C with funs:=C.funs++[q45.1] }),rfl,⟨he.pk,by exact hm⟩,?_⟩
 refine ⟨(le3).trans le51,?_⟩
 exact ⟨hch0,hch1,(hch2.snoc (k:=8) (x:=q45.1) rfl hr52),⟨by show C.datas.length≤_;omega,by show C.inputs.length≤_;omega,by show (C.funs++[q45.1]).length≤_;simp only [List.length_append,List.length_cons,List.length_nil];omega,by show C.outputs.length≤_;omega⟩,by omega,by omega,hI_.trans (j4j h8 (by omega) (fun h_=>h19 ((jC hx13).symm.trans h_)) (fun h_=>h38 ((jC hx13).symm.trans h_)) ((jC hx13).trans h44) hq47)⟩
 replace hm:=hm.dl [4,3,2,1,0]
 exact hP (hI_.trans (q8o h8 (by omega) (fun h_=>h19 ((jC hx13).symm.trans h_)) (fun h_=>h38 ((jC hx13).symm.trans h_)) ((jC hx13).trans h44) hq47)) (le3) (he.pk) hm
 refine go fun a he =>?_
 by_cases h78:x12=(⟨#[111,117,116,112,117,116]⟩:ByteArray)
 refine go fun a he =>?_
 refine aA (E0:=[(3,.pointer (some ⟨wd,0,none⟩)),(2,.pointer (some ⟨c0,0,none⟩))]) [1,2,2,0,0,0,1,0] (.q 0 (.q 1 (.q 2 (.e 3 (.e 4 (.e 5 (.q 6 (.e 7 (.done))))))))) [.gs (u2) 112 8 d2,.gs (u1) 36 2 d1,.gs (u0) 126 2 d0,.blk rp (ob [.pointer (some ⟨r,0,none⟩)] 208),.blk c0 (ob [u0,u1,u2,u3] 27),.blk wd (ob [.int .i64 ((0:Nat):Int)] 3)] (he.pk) hm mixed (by kernel_rfl) (by simp) (by kernel_rfl) fun w hm =>?_
 refine go fun a he =>?_
 replace hm:=hm.pl 4
 refine d_e he rfl rfl rfl (z3k he rfl call142 (mJ G (i:=(j+1)) rl hws (by omega) hm) (fun q79 w hq80 hm=>⟨fun _=>hm.sn (Fz.Le.refl _),fun a he =>?_⟩) (fun q79 w hq80 hm=>fun a he =>?_))
 have hleq79:=jJ hq80
 refine kW fun v81 w hm a he =>?_
 refine wL 2 vV (fun v82 w hm a he =>?_) (hb:=by simp [yA];omega)
 refine Sto 7 fun w hm a he =>?_
 refine go fun a he =>?_
 first | rw [qK] at hm | rw [← yZ] at hm
 replace hm:=hm.ar [0] [7,7,7,3,7,7,7,7]
 refine hL4 _ _ _ (by subst hmu;omega) ⟨(Ψ2),(q79.2),(f - 1),(u0),(u1),(u2),(v82),(d0),(d1),(d2),({ C with outputs:=C.outputs++[q79.1] }),rfl,⟨he.pk,by exact hm⟩,?_⟩
 refine ⟨le3,?_⟩
 exact ⟨hch0,hch1,hch2,⟨by show C.datas.length≤_;omega,by show C.inputs.length≤_;omega,by show C.funs.length≤_;omega,by show (C.outputs++[q79.1]).length≤_;simp only [List.length_append,List.length_cons,List.length_nil];omega⟩,by omega,by omega,hI_.trans (j4k h8 (by omega) (fun h_=>h19 ((jC hx13).symm.trans h_)) (fun h_=>h38 ((jC hx13).symm.trans h_)) (fun h_=>h44 ((jC hx13).symm.trans h_)) ((jC hx13).trans h78) hq80)⟩
 replace hm:=hm.dl [4,3,2,1,0]
 exact hP (hI_.trans (q8p h8 (by omega) (fun h_=>h19 ((jC hx13).symm.trans h_)) (fun h_=>h38 ((jC hx13).symm.trans h_)) (fun h_=>h44 ((jC hx13).symm.trans h_)) ((jC hx13).trans h78) hq80)) (le3) (he.pk) hm
 refine Qq (fun a he =>?_) (o:=by exact fun he hs=>pE ((j:Nat):Int) he rfl rfl (by rw [xH (by omega)];omega))
 refine Sto 4 fun w hm a he =>?_
 refine go fun a he =>?_
 replace hm:=hm.pl 4
 refine stP he rfl rfl rfl (aG he rfl call143 (gA (i:=j) rl hws (by omega) hm) (fun w hm=>fun a he =>?_))
 replace hm:=hm.dl [4,3,2,1,0]
 exact hP (hI_.trans (j4h h8 (by omega) (fun h_=>h19 ((jC hx13).symm.trans h_)) (fun h_=>h38 ((jC hx13).symm.trans h_)) (fun h_=>h44 ((jC hx13).symm.trans h_)) (fun h_=>h78 ((jC hx13).symm.trans h_)))) (le3) (he.pk) hm
 refine go fun a he =>?_
 have hm0_:=hm
 clear hm
 obtain ⟨Ψ85,le86,hm,hrow87⟩:=hm0_.freezeRow (i:=3) rfl
 clear hm0_
 replace G:=G.mono le86
 replace hch0:=hch0.mono fun _ _ h=>RData.mono _ _ _ _ le86 h
 replace hch1:=hch1.mono fun _ _ h=>RParam.mono _ _ _ _ le86 h
 replace hch2:=hch2.mono fun _ _ h=>RFun.mono _ _ _ _ le86 h
 replace hm:=hm.nf
 have hsl88:SliceOf RData Ψ85 2 _ (C.datas):=⟨_,hrow87,hch0⟩
 obtain ⟨p89,c90,hv_,hm91,hn92⟩:=hsl88.form (by decide)
 have hmk_:=hm
 clear hm
 subst hv_
 have hm:=hmk_
 clear hmk_
 have hm0_:=hm
 clear hm
 obtain ⟨Ψ93,le94,hm,hrow95⟩:=hm0_.freezeRow (i:=2) rfl
 clear hm0_
 replace G:=G.mono le94
 replace hch1:=hch1.mono fun _ _ h=>RParam.mono _ _ _ _ le94 h
 replace hch2:=hch2.mono fun _ _ h=>RFun.mono _ _ _ _ le94 h
 replace hsl88:=hsl88.up le94
 replace hm:=hm.nf
 have hsl96:SliceOf RParam Ψ93 2 _ (C.inputs):=⟨_,hrow95,hch1⟩
 obtain ⟨p97,c98,hv_,hm99,hn100⟩:=hsl96.form (by decide)
 have hmk_:=hm
 clear hm
 subst hv_
 have hm:=hmk_
 clear hmk_
 have hm0_:=hm
 clear hm
 obtain ⟨Ψ101,le102,hm,hrow103⟩:=hm0_.freezeRow (i:=1) rfl
 clear hm0_
 replace G:=G.mono le102
 replace hch2:=hch2.mono fun _ _ h=>RFun.mono _ _ _ _ le102 h
 replace hsl88:=hsl88.up le102
 replace hsl96:=hsl96.up le102
 replace hm:=hm.nf
 have hsl104:SliceOf RFun Ψ101 8 _ (C.funs):=⟨_,hrow103,hch2⟩
 obtain ⟨p105,c106,hv_,hm107,hn108⟩:=hsl104.form (by decide)
 have hmk_:=hm
 clear hm
 subst hv_
 have hm:=hmk_
 clear hmk_
 obtain ⟨p3,m3,q3,hu3_,_,_⟩:=hm.toSees.gsForm (i:=0) rfl
 have hmk_:=hm
 clear hm
 subst hu3_
 have hm:=hmk_
 clear hmk_
 refine Sto 3 fun w hm a he =>?_
 refine Sto 4 fun w hm a he =>?_
 refine go fun a he =>?_
 replace hm:=hm.ar [2,1] [2,2]
 exact hR (hI_.trans (j4i h8 (by omega))) ((((le3).trans le86).trans le94).trans le102) hsl88 hsl96 hsl104 (he.pk) hm
end Go.Sw

namespace Go.Sw
open Go.Proofs.Tryz
open Go.Proofs
abbrev readKY (K:List Res) (l Dk rr rp:Nat) (r:Loop) (pre:List Bs) (z:Value):List Res :=
 .blk l (.loop r)::.blk Dk (.deferred (some []))::.blk rr (ob [z,.int .i64 ((0:Nat):Int)] 210)::.gs z 9 1 (strs pre)::.blk rp (ob [.pointer (some ⟨rr,0,none⟩)] 208)::K
set_option maxRecDepth 20000 in
set_option maxHeartbeats 4000000 in
theorem j0j {Ψ:Fz} {K K0:List Res} {w:World} {l Dk rr rp n:Nat} {r:Loop} {pre:List Bs} {z:Value} {k:Bs} (hlen:pre.length < n) (hn:n≤800000)
  (hps:r.params=#[11]) (hst:r.state=.ready) (hpd:r.pending=none)
  (ha:∀(a:Act) (w:World),EnvR 96 [(11,.string k),(4,.pointer (some ⟨rp,0,none⟩))] [] a →
   r.assign.wpIn (FO (some l)) 2 prog (Exit.then (fun a1 w1=>EnvR 96 [(5,.string k),(4,.pointer (some ⟨rp,0,none⟩))] [] a1∧w1=w) (fun _ _ _=>False)) a w)
  (hb:∀(a:Act) (w:World) (K:List Res) (o:Obj),EnvR 96 [(5,.string k),(4,.pointer (some ⟨rp,0,none⟩))] [] a→Mem Ψ (.blk l o::.blk rr (ob [z,.int .i64 ((0:Nat):Int)] 210)::.gs z 9 1 (strs pre)::.blk rp (ob [.pointer (some ⟨rr,0,none⟩)] 208)::K) w →
   r.body.wpIn (FO (some l)) 2 prog (fun e _ w=>e=.normal∧∃v,Mem Ψ (.blk l o::.blk rr (ob [v,.int .i64 ((0:Nat):Int)] 210)::.gs v 9 1 (strs (pre++[k]))::.blk rp (ob [.pointer (some ⟨rr,0,none⟩)] 208)::K) w) a w)
  (he:EnvR 96 [(4,.pointer (some ⟨rp,0,none⟩))] [] ⟨r.tmps,[]⟩) (hm:Mem Ψ (K0++readKY K l Dk rr rp r pre z) w) :
  YieldAt Fence.wide 2 prog l #[.string k] w (fun e w'=>e=.returned (.bool true)∧∃z',Mem Ψ (K0++readKY K l Dk rr rp r (pre++[k]) z') w'):=by
 have hm1:Mem Ψ (readKY K l Dk rr rp r pre z++K0) w:=hm.perm List.perm_append_comm
 replace hm1:Mem Ψ (.blk l (.loop r)::.blk rr (ob [z,.int .i64 ((0:Nat):Int)] 210)::.gs z 9 1 (strs pre)::.blk rp (ob [.pointer (some ⟨rr,0,none⟩)] 208)::.blk Dk (.deferred (some []))::(K++K0)) w :=
  ((((hm1.pull (i:=4) rfl).pull (i:=4) rfl).pull (i:=4) rfl).pull (i:=3) rfl)
 have hl:w.heap[l]? = some (.loop r):=hm1.own _ List.mem_cons_self
 refine ⟨r.fn,r.tmps.setIfInBounds 11 (.string k),r.assign,r.body,?_,?_⟩
 ·rw [run_yield hl (by rw [hps];rfl),hps,zip1];simp
 ·have he2:EnvR 96 [(11,.string k),(4,.pointer (some ⟨rp,0,none⟩))] [] ⟨r.tmps.setIfInBounds 11 (.string k),[]⟩:=he.put (d:=11) rfl
  have h:=q7f (P:=prog) (E1:=fun (_:Unit)=>[(5,.string k),(4,.pointer (some ⟨rp,0,none⟩))]) (K1:=fun _=>.blk rr (ob [z,.int .i64 ((0:Nat):Int)] 210)::.gs z 9 1 (strs pre)::.blk rp (ob [.pointer (some ⟨rr,0,none⟩)] 208)::.blk Dk (.deferred (some []))::(K++K0))
   (KO:=fun v=>.blk rr (ob [v,.int .i64 ((0:Nat):Int)] 210)::.gs v 9 1 (strs (pre++[k]))::.blk rp (ob [.pointer (some ⟨rr,0,none⟩)] 208)::.blk Dk (.deferred (some []))::(K++K0)) hm1 hst hpd he2
   (fun a he=>Code.wpIn_mono (fun e a1 w1 h=>by
    cases e with
    | normal=>exact ⟨(),h.1,h.2▸hm1⟩
    | _=>exact h) (ha a w he)) (fun _ a w he hm=>hb a w _ _ he hm)
  refine h.mono fun e w' hh =>?_
  obtain ⟨h1,v,h2⟩:=hh
  refine ⟨h1,v,?_⟩
  have h3:Mem Ψ (readKY K l Dk rr rp r (pre++[k]) v++K0) w':=(((((h2.pull (i:=3) rfl).pull (i:=3) rfl).pull (i:=3) rfl).pull (i:=4) rfl).pull (i:=4) rfl)
  exact h3.perm List.perm_append_comm
theorem q7a {P:Program} {fn:Func} {n:Nat} {E:List (Nat×Value)} {D:List Deferred} {a:Act} {Φ:Fz} {K:List Res} {w:World} {t u T U k i j b c:Nat} {v:Value} {cs:List Value} {T0 T1:TypeId} (he:EnvR n E D a) (hm:Sees Φ K w) (hr:fn.results=#[.cell u U,.cell t T]) (hv:get E t=some (.pointer (some ⟨b,0,none⟩)))
  (hk:qI K i=some (.blk b (ob [v] T0))) (hT:Scalar P T) (hu:get E u=some (.pointer (some ⟨c,0,none⟩))) (hk2:qI K j=some (.blk c (ob cs T1))) (hT2:AggT P U) (hS:SizeT P U k) (hl:cs.length=k) :
  (results fn a.tmps).run P w=.ok (.tuple (List.toArray [.agg cs.toArray,v])) w:=by
 have h1:w.cell? ⟨b,0,none⟩=some v:=hm.cell hk 0
 have h2:=cellA (P:=P) he hm hu hk2 hT2 hS hl
 have h3:(loadVar T ⟨b,0,none⟩).run P w=.ok v w:=by simp [loadVar,Sem.run_bind,hT w,Result.andThen,load,Sem.run,h1]
 simp [results,hr,Array.getD_eq_getD_getElem?,he.env t _ hv,he.env u _ hu,asAddr,h2,h3,Sem.run_bind,Result.andThen]
set_option maxRecDepth 20000 in
set_option maxHeartbeats 4000000 in
theorem read_ok {Φ:Fz} {K:List Res} {w:World} {t:Bs} (G:Glob Φ) (h2:t.size≤800000) (hm:Mem Φ K w) :
  Calls prog 98 (List.toArray [.string t]) w (fun ee w'=>Out (oK t)
   (fun C=>∃y:Fz×Value×Value×Value×Value,ee=.returned (.tuple (List.toArray [.agg (List.toArray [y.2.1,y.2.2.1,y.2.2.2.1,y.2.2.2.2]),.int .i64 ((0:Nat):Int)]))∧(Φ.Le y.1∧SliceOf RData y.1 2 y.2.1 C.datas∧SliceOf RParam y.1 2 y.2.2.1 C.inputs∧SliceOf RFun y.1 8 y.2.2.2.1 C.funs)∧Mem y.1 (.gs y.2.2.2.2 9 1 (strs C.outputs)::K) w')
   (fun n=>ee=.returned (.tuple (List.toArray [.agg (List.toArray [.slice none 0 0,.slice none 0 0,.slice none 0 0,.slice none 0 0]),.int .i64 ((n:Nat):Int)]))∧Mem Φ K w')):=by
 refine z3m func98 rfl ntmps98 rfl (fun Q hQ a he =>?_)
 refine sq fun L1 hL1 =>?_
 refine wp_region_lit ?_
 refine st he rfl rfl rfl (yI (cs:=[.slice none 0 0,.slice none 0 0,.slice none 0 0,.slice none 0 0]) hm zeroValue27 rfl fun c0 w hm a he =>?_)
 refine st he rfl rfl rfl (yI (cs:=[.int .i64 ((0:Nat):Int)]) hm zeroValue3 rfl fun wd w hm a he =>?_)
 refine wpList_nil ?_
 refine hL1 _ _ ?_
 refine sq fun L2 hL2 =>?_
 refine wp_region_lit ?_
 refine xW he (z0l (vfs:=[]) (vcs:=[.pointer (some ⟨c0,0,none⟩),.pointer (some ⟨wd,0,none⟩)]) he rfl rfl) rfl fun a he =>?_
 refine z5z (fs:=[]) (cs:=[.pointer (some ⟨c0,0,none⟩),.pointer (some ⟨wd,0,none⟩)]) (vs:=[]) he rfl rfl fun a he =>?_
 refine wpList_nil ?_
 refine hL2 _ _ ?_
 refine sq fun L3 hL3 =>?_
 refine wp_region_lit ?_
 refine xW he (qM (vs:=[]) (cs:=[.slice none 0 0,.int .i64 ((0:Nat):Int)]) he rfl (by kernel_rfl)) rfl fun a he =>?_
 refine st he rfl rfl rfl (qG (cs:=[.slice none 0 0,.int .i64 ((0:Nat):Int)]) he hm rfl rfl fun rr w hm a he =>?_)
 refine st he rfl rfl rfl (yI (cs:=[.pointer none]) hm zeroValue208 rfl fun rp w hm a he =>?_)
 refine st0 he rfl rfl (zS 0 (cs:=[.pointer none]) (vs:=[.pointer (some ⟨rr,0,none⟩)]) he hm rfl rfl rfl rfl sizeOf208 rfl rfl rfl fun w hm a he =>?_)
 refine wpList_nil ?_
 refine hL3 _ _ ?_
 replace hm:Mem Φ (.blk rp (ob [.pointer (some ⟨rr,0,none⟩)] 208)::.blk rr (ob [.slice none 0 0,.int .i64 ((0:Nat):Int)] 210)::.blk wd (ob [.int .i64 ((0:Nat):Int)] 3)::.blk c0 (ob [.slice none 0 0,.slice none 0 0,.slice none 0 0,.slice none 0 0] 27)::K) w:=hm
 refine sq fun L4 hL4 =>?_
 refine sq fun L5 hL5 =>?_
 refine wp_region_lit ?_
 refine xW he (jB he rfl) rfl fun a he =>?_
 refine st he rfl rfl rfl (qQ he rfl call138 (x3y hm) (fun bx w _ hm a he =>?_))
 refine wpList_nil ?_
 refine hL5 _ _ ?_
 refine wp_block ?_
 refine z3d (P:=prog) (β:=Value) (δ:=Unit) (gf:=175) (fs:=[]) (cs:=[.pointer (some ⟨bx,0,none⟩)]) (F1:=fun _=>Φ)
  (KO:=fun z=>.blk rr (ob [z,.int .i64 ((0:Nat):Int)] 210)::.gs z 9 1 (strs (dH t))::.blk rp (ob [.pointer (some ⟨rr,0,none⟩)] 208)::.blk wd (ob [.int .i64 ((0:Nat):Int)] 3)::.blk c0 (ob [.slice none 0 0,.slice none 0 0,.slice none 0 0,.slice none 0 0] 27)::K)
  (KE:=fun _=>K)
  (G:=fun _=>True) (B:=fun _ _=>False) he hm rfl call175 ?_ ?_ ?_
 ·intro Dk l r w hps has hbo hst hpd her hm
  have hm1:=hm.nilRow 9 1
  replace hm1:Mem Φ (.blk bx (ob [.string t] 9)::readKY (.blk wd (ob [.int .i64 ((0:Nat):Int)] 3)::.blk c0 (ob [.slice none 0 0,.slice none 0 0,.slice none 0 0,.slice none 0 0] 27)::K) l Dk rr rp r [] (.slice none 0 0)) w :=
   ((((((hm1.pull (i:=4) rfl).pull (i:=1) rfl).pull (i:=5) rfl).pull (i:=4) rfl).pull (i:=4) rfl).pull (i:=5) rfl)
  have h:=j7i (l:=l) (KY:=readKY (.blk wd (ob [.int .i64 ((0:Nat):Int)] 3)::.blk c0 (ob [.slice none 0 0,.slice none 0 0,.slice none 0 0,.slice none 0 0] 27)::K) l Dk rr rp r) (by omega) (fun pre z K0 k w hlen hm =>?_) hm1
  ·refine h.mono fun e w' hh =>?_
   obtain ⟨z,rfl,hm2⟩:=hh
   exact .inl ⟨_,z,rfl,trivial,hm2⟩
  ·refine j0j (n:=t.size) hlen h2 hps hst hpd (fun a w he =>?_) (fun a w K o he hm =>?_) (her.of_sub ⟨rfl,trivial⟩) hm
   ·rw [has]
    refine wpIn_region_lit ?_
    refine yO he (by intro c h;cases h) (vJ he rfl) rfl fun a he =>?_
    refine wpListIn_nil ?_
    exact ⟨he.of_sub ⟨rfl,rfl,trivial⟩,rfl⟩
   ·rw [hbo]
    refine wpIn_block ?_
    refine nG [2,2,1,1,2,1,0,0,1,1,0] (.q 0 (.q 1 (.q 2 (.q 3 (.q 4 (.q 5 (.e 6 (.e 7 (.q 8 (.q 9 (.e 10 (.done)))))))))))) [.blk rr (ob [z,.int .i64 ((0:Nat):Int)] 210),.blk rp (ob [.pointer (some ⟨rr,0,none⟩)] 208)] he hm mixed (by kernel_rfl) (by simp) (by kernel_rfl) fun w hm =>?_
    refine d_q he rfl rfl (fun w hs=>yR 1 he hs rfl rfl rfl isAgg208) rfl fun a he =>?_
    refine d_q he rfl rfl (fun w hs=>yR 1 he hs rfl rfl rfl isAgg208) rfl fun a he =>?_
    refine wD he rfl rfl (fun w=>z0m he rfl) rfl fun a he =>?_
    refine wD he rfl rfl (fun w=>qO he rfl y0b rfl) rfl fun a he =>?_
    refine d_q he rfl rfl (fun w hs=>yR 0 he hs rfl rfl rfl isAgg25) rfl fun a he =>?_
    refine wD he rfl rfl (fun w=>jB he rfl) rfl fun a he =>?_
    refine d_e he rfl rfl rfl (kC (sz:=1) (cs:=[.string k]) he hm rfl (oP runUnderlying25 sizeOf9 zeroValue9 rfl (by decide) rfl) rfl (by decide) fun v w hm _=>⟨fun _=>hm.seesIn (Fz.Le.refl _) (by simp),fun a he =>?_⟩)
    refine d_e he rfl rfl rfl (aQ 3 (xs:=strs pre) (news:=[.string k]) vV he hm rfl rfl rfl (hm.toSees.rowIn (i:=0) rfl) rfl (by simp [yA];omega) fun v2 w hm=>⟨fun _=>hm.seesIn (Fz.Le.refl _) (by simp [kR]),fun a he =>?_⟩)
    replace hm:Mem Φ (.gs v 9 1 [.string k]::.blk l o::.blk rr (ob [z,.int .i64 ((0:Nat):Int)] 210)::.gs v2 9 1 (strs (pre++[k]))::.blk rp (ob [.pointer (some ⟨rr,0,none⟩)] 208)::K) w:=by rw [yZ];exact hm
    refine wD he rfl rfl (fun w=>z0m he rfl) rfl fun a he =>?_
    refine wD he rfl rfl (fun w=>qO he rfl y0b rfl) rfl fun a he =>?_
    refine vK he rfl rfl (zS 2 (cs:=[z,.int .i64 ((0:Nat):Int)]) (vs:=[v2]) he hm rfl rfl rfl (hm.toSees.gsCells (i:=3) rfl) sizeOf25 rfl (hm.toSees.gsOne (i:=3) rfl) rfl fun w hm=>⟨zU (by kernel_rfl),fun a he =>?_⟩)
    refine q2a ?_
    exact ⟨rfl,v2,hm.del 0⟩
 ·intro Dk z a w _ he hm
  refine hL4 _ _ ?_
  obtain ⟨Ψ,le,hm,hrow⟩:=hm.freezeRow (i:=2) rfl
  have rl:SliceOf RStr Ψ 1 z (dH t):=SliceOf.strs.2 hrow
  have hws:(dH t).length≤1000000:=Nat.le_trans (dB t.size 0) (by omega)
  have hsz:∀j,(zC (dH t) j).size≤1000000:=fun j=>j6s (fun s hs=>Nat.le_trans (dC t.size 0 s hs) (by omega)) j
  replace hm:Mem Ψ (.blk rr (ob [z,.int .i64 ((0:Nat):Int)] 210)::.blk rp (ob [.pointer (some ⟨rr,0,none⟩)] 208)::.blk c0 (ob [.slice none 0 0,.slice none 0 0,.slice none 0 0,.slice none 0 0] 27)::.blk wd (ob [.int .i64 ((0:Nat):Int)] 3)::.blk Dk (.deferred (some []))::K) w:=((((hm.pull (i:=3) rfl).pull (i:=4) rfl).pull (i:=4) rfl).pull (i:=4) rfl)
  refine j6t (ws:=dH t) (c0:=c0) (wd:=wd) (rp:=rp) (r:=rr) (G.mono le) (q7c hws hsz 250 (by decide)) rl hws ?_ ?_ (he.of_sub ⟨rfl,rfl,rfl,trivial⟩) hm
  ·intro Ψ2 a w C u0 u1 u2 u3 hC le2 r0 r1 r2 he hm
   refine hQ _ _ _ ?_
   show pF _ _ _ _ a.defers _ _
   rw [he.defs]
   replace hm:=hm.pull (i:=3) rfl
   have hD:w.heap[Dk]? = some (.deferred (some [])):=hm.own _ List.mem_cons_self
   have hm2:=hm.putObj (i:=0) (o':=.deferred none) rfl
   refine mF (by simp) hD (cA ?_)
   refine leaves_cons (f:=137) (args:=#[.pointer (some ⟨c0,0,none⟩),.pointer (some ⟨wd,0,none⟩)]) (by simp) (call137 _ _) ?_
   refine catchR_none.mono ?_
   rintro e u' w'' ⟨rfl,rfl,rfl⟩
   refine ⟨_,q7a (i:=2) (j:=1) he hm2.toSees results98 rfl rfl isAgg3 rfl rfl isAgg27 sizeOf27 rfl,?_⟩
   show Out (oK t) _ _
   rw [show oK t=.ok C from hC]
   exact ⟨(Ψ2,u0,u1,u2,u3),rfl,⟨le.trans le2,r0,r1,r2⟩,((hm2.del 0).del 0).del 0⟩
  ·intro Ψ2 a w n u0 u1 u2 u3 x hC le2 he hm
   refine hQ _ _ _ ?_
   show pF _ _ _ _ a.defers _ _
   rw [he.defs]
   replace hm:=hm.pull (i:=2) rfl
   have hD:w.heap[Dk]? = some (.deferred (some [])):=hm.own _ List.mem_cons_self
   have hm2:=(hm.putObj (i:=0) (o':=.deferred none) rfl)
   replace hm2:Mem Ψ2 (.blk c0 (ob [u0,u1,u2,u3] 27)::.blk wd (ob [x] 3)::.blk Dk (.deferred none)::K) (w.putObj Dk (.deferred none)):=(hm2.pull (i:=2) rfl).pull (i:=2) rfl
   refine mF (by simp) hD (cA ?_)
   refine leaves_cons (f:=137) (args:=#[.pointer (some ⟨c0,0,none⟩),.pointer (some ⟨wd,0,none⟩)]) (by simp) (call137 _ _) ?_
   refine (q1y hm2).mono ?_
   rintro e' u' w'' ⟨rfl,rfl,hm3⟩
   refine ⟨_,q7a (i:=1) (j:=0) he hm3.toSees results98 rfl rfl isAgg3 rfl rfl isAgg27 sizeOf27 rfl,?_⟩
   show Out (oK t) _ _
   rw [show oK t=.error n from hC]
   exact ⟨rfl,(((hm3.del 0).del 0).del 0).le (le.trans le2)⟩
 ·intro Dk y c a w hB he hm
  exact hB.elim
end Go.Sw

namespace Go.Sw
open Go.Proofs
def Pos {α:Type} (f:Nat→Rd α):Prop:=∀i n,f i=.error n→0 < n
section
variable {ws:List Bs}
theorem Pos.bind {α β:Type} {f:Nat→Rd α} {g:α→Nat→Rd β} (hf:Pos f) (hg:∀x,Pos (g x)):Pos (fun i=>yN (f i) g):=fun i n h=>by
 cases hr:f i with
 | error m =>
  simp only [yN,hr] at h
  cases h;exact hf i _ hr
 | ok y =>
  simp only [yN,hr] at h
  exact hg _ _ n h
theorem Pos.ok {α:Type} (f:Nat→α×Nat):Pos (fun i=>(.ok (f i):Rd α)):=fun i n h=>by cases h
theorem Pos.ite {α:Type} {p:Nat→Prop} [∀i,Decidable (p i)] {f g:Nat→Rd α} (hf:Pos f) (hg:Pos g):Pos (fun i=>if p i then f i else g i):=fun i n h=>by
 simp only at h
 split at h
 ·exact hf i n h
 ·exact hg i n h
theorem Pos.next {α:Type} {f:Nat→Rd α} (hf:Pos f):Pos (fun i=>f (i+1)):=fun i n h=>hf (i+1) n h
theorem Pos.err {α:Type}:Pos (fun i=>(.error (i+1):Rd α)):=fun i n h=>by cases h;exact Nat.succ_pos _
theorem vI (p:Bs→Bool):Pos (pA ws p):=fun i n h=>by
 unfold pA at h
 split at h
 ·cases h;exact Nat.succ_pos _
 ·cases h
theorem mG (w:Bs):Pos (vZ ws w):=(vI _).bind fun _=>Pos.ok fun i=>((),i)
theorem y4k {ex:Nat→Rd Ex} (he:Pos ex):∀f least,Pos (vU ws ex f least)
 | 0,_=>Pos.err
 | f+1,least=>Pos.ite (p:=fun i=>0 < least∨zC ws i≠sCls) (he.bind fun e=>(y4k he f _).bind fun l=>Pos.ok fun i=>(e::l,i)) (Pos.ok fun i=>([],i))
theorem j3k {ex:Nat→Rd Ex} (he:Pos ex):Pos (z3b ex):=he.bind fun a=>he.bind fun b=>Pos.ok fun i=>([a,b],i)
theorem q7s:∀f,Pos (nU ws f)
 | 0=>Pos.err
 | f+1=>Pos.ite (p:=fun i=>zC ws i≠y5m) ((vI _).bind fun s=>(q7s f).bind fun l=>Pos.ok fun i=>(s::l,i)) (Pos.ok fun i=>([],i))
theorem arm_pos {ex:Nat→Rd Ex} (he:Pos ex):Pos (armP ws ex) :=
 (mG _).bind fun _=>(vI _).bind fun c=>(q7s _).bind fun vs=>(mG _).bind fun _=>he.bind fun b=>(mG _).bind fun _=>Pos.ok fun i=>(Arm.mk c vs b,i)
theorem q4d {ex:Nat→Rd Ex} (he:Pos ex):∀f b,Pos (aM ws ex f b)
 | 0,_=>Pos.err
 | f+1,b=>Pos.ite (p:=fun i=>b=true∨zC ws i=aB) ((arm_pos he).bind fun a=>(q4d he f false).bind fun l=>Pos.ok fun i=>(a::l,i)) (Pos.ok fun i=>([],i))
theorem x0n {ex:Nat→Rd Ex} (he:Pos ex):Pos (yS ws ex):=fun i n h=>by
 unfold yS at h
 split at h
 ·exact (j3k he).bind (fun l=>Pos.ok fun j=>(Ex.mk 8 0 (zC ws i) l [],j)) (i+1) n h
 ·split at h
  ·exact (vI _).bind (fun x=>(j3k he).bind fun l=>Pos.ok fun j=>(Ex.mk 6 0 x l [],j)) (i+1) n h
  ·split at h
   ·exact he.bind (fun a=>(q4d he _ true).bind fun l=>Pos.ok fun j=>(Ex.mk 7 0 sNo [a] l,j)) (i+1) n h
   ·split at h
    ·exact (y4k he _ 1).bind (fun l=>Pos.ok fun j=>(Ex.mk 4 0 (zC ws i) l [],j)) (i+1) n h
    ·exact (vI _).bind (fun x=>(y4k he _ 0).bind fun l=>Pos.ok fun j=>(Ex.mk 5 0 x l [],j)) i n h
theorem q4w:∀d,Pos (zR ws d)
 | 0=>Pos.err
 | d+1=>fun i n h=>by
  simp only [zR] at h
  split at h
  ·cases h;exact Nat.succ_pos _
  ·split at h
   ·cases h
   ·split at h
    ·exact (x0n (q4w d)).bind (fun e=>(mG _).bind fun _=>Pos.ok fun j=>(e,j)) (i+1) n h
    ·split at h
     ·cases h
     ·split at h
      ·cases h
      ·exact (vI _).bind (fun x=>Pos.ok fun j=>(Ex.mk 2 0 x [] [],j)) i n h
theorem z9x:∀f,Pos (vF ws f)
 | 0=>Pos.err
 | f+1=>Pos.ite (p:=fun i=>qC (zC ws i)=true) ((vI _).bind fun s=>(z9x f).bind fun l=>Pos.ok fun i=>(s::l,i)) (Pos.ok fun i=>([],i))
theorem q4p:∀f,Pos (aN ws f)
 | 0=>Pos.err
 | f+1=>(vI _).bind fun n=>(z9x _).bind fun l=>Pos.ite (p:=fun i=>zC ws i≠sBar) (Pos.ok fun i=>([(⟨n,l⟩:Con)],i)) ((q4p f).bind (fun cs=>Pos.ok fun i=>((⟨n,l⟩:Con)::cs,i))).next
theorem j8h:Pos (nJ ws):=(vI _).bind fun n=>(mG _).bind fun _=>(q4p _).bind fun l=>Pos.ok fun i=>((⟨n,l⟩:Data),i)
theorem q0p:Pos (kG ws):=(vI _).bind fun n=>(mG _).bind fun _=>(vI _).bind fun t=>Pos.ok fun i=>((⟨n,t⟩:Param),i)
theorem y4u:∀f,Pos (vP ws f)
 | 0=>Pos.err
 | f+1=>Pos.ite (p:=fun i=>zC ws i=aB) ((q0p).bind (fun p=>(mG _).bind fun _=>(y4u f).bind fun l=>Pos.ok fun i=>(p::l,i))).next (Pos.ok fun i=>([],i))
theorem fun_pos:Pos (aV ws):=(vI _).bind fun n=>(y4u _).bind fun ps=>(mG _).bind fun _=>(vI _).bind fun r=>(mG _).bind fun _=>(q4w _).bind fun b=>Pos.ok fun i=>((⟨n,ps,r,b⟩:Fun),i)
theorem dJ:∀f c i n,qU ws f c i=.error n→0 < n
 | 0,_,_,_,h=>by cases h;exact Nat.succ_pos _
 | f+1,c,i,n,h=>by
  simp only [qU] at h
  split at h
  ·split at h
   ·split at h
    ·exact dJ f _ _ n h
    ·rename_i hd;cases h;exact j8h _ _ hd
   ·split at h
    ·split at h
     ·exact dJ f _ _ n h
     ·rename_i hd;cases h;exact q0p _ _ hd
    ·split at h
     ·split at h
      ·exact dJ f _ _ n h
      ·rename_i hd;cases h;exact fun_pos _ _ hd
     ·split at h
      ·split at h
       ·exact dJ f _ _ n h
       ·rename_i hd;cases h;exact vI _ _ _ hd
      ·cases h;exact Nat.succ_pos _
  ·cases h
end
theorem x2k {t:Bs} {n:Nat} (h:oK t=.error n):0 < n:=dJ _ _ _ _ h
def nA (t:Bs):Except (Nat×Int) Core:=if 60000 < t.size then .error (0,2) else match oK t with
 | .error n=>.error (n,5)
 | .ok c=>if zP c=0 then .ok c else .error (0,zP c)
theorem j0f {t:Bs} (h:60000 < t.size):nA t=.error (0,2):=if_pos h
theorem j0h {t:Bs} {n:Nat} (h:¬60000 < t.size) (h2:oK t=.error n):nA t=.error (n,5):=by unfold nA;rw [if_neg h,h2]
theorem q6s {t:Bs} {c:Core} (h:¬60000 < t.size) (h2:oK t=.ok c) (h3:¬zP c=0):nA t=.error (0,zP c):=by unfold nA;rw [if_neg h,h2];exact if_neg h3
theorem y4w {t:Bs} {c:Core} (h:¬60000 < t.size) (h2:oK t=.ok c) (h3:zP c=0):nA t=.ok c:=by unfold nA;rw [if_neg h,h2];exact if_pos h3
end Go.Sw

namespace Go.Sw
open Go.Proofs
end Go.Sw

namespace Go.Sw
open Go.Proofs.Tryz
open Go.Proofs
set_option maxRecDepth 20000
set_option maxHeartbeats 4000000
theorem x2f {Φ:Fz} {K:List Res} {w:World} {t:Bs} (G:Glob Φ) (hm:Mem Φ K w) :
  Calls prog 62 (List.toArray [.string t]) w (fun ee w'=>Out (nA t)
   (fun C=>∃y:Fz×Value×Value×Value×Value,ee=.returned (.tuple (List.toArray [.agg (List.toArray [y.2.1,y.2.2.1,y.2.2.2.1,y.2.2.2.2]),.int .i64 ((0:Nat):Int),.int .i64 ((0:Nat):Int)]))∧(Φ.Le y.1∧SliceOf RData y.1 2 y.2.1 C.datas∧SliceOf RParam y.1 2 y.2.2.1 C.inputs∧SliceOf RFun y.1 8 y.2.2.2.1 C.funs)∧Mem y.1 (.gs y.2.2.2.2 9 1 (strs C.outputs)::K) w')
   (fun c=>ee=.returned (.tuple (List.toArray [.agg (List.toArray [.slice none 0 0,.slice none 0 0,.slice none 0 0,.slice none 0 0]),.int .i64 ((c.1:Nat):Int),.int .i64 c.2]))∧Mem Φ K w')):=by
 refine zN func62 ntmps62 fun Q hQ a he =>?_
 refine Alc fun b2 w hm a he =>?_
 by_cases h5:60000 < t.size
 refine qH fun a he =>?_
 refine Sto 0 fun w hm a he =>?_
 refine go fun a he =>?_
 have hmr:=hm
 replace hm:=hm.dl [0]
 refine hQ _ _ _ (q3g (i:=0) (cs:=[.slice none 0 0,.slice none 0 0,.slice none 0 0,.slice none 0 0]) he hmr.toSees results62 rfl rfl isAgg27 sizeOf27 rfl rfl rfl ?_)
 show Out (nA t) _ _
 rw [j0f h5]
 exact ⟨rfl,hm⟩
 refine go fun a he =>?_
 refine st he rfl rfl rfl (qA he rfl call98 (read_ok G (by omega) hm) (fun q8 y9 w hq10 hG11 hm a he =>?_) (fun q8 w hq10 hm a he =>?_))
 obtain ⟨Ψ1,u0,u1,u2,u3⟩:=y9
 obtain ⟨le1,r0,r1,r2⟩:=hG11
 simp only at le1 r0 r1 r2 hm he
 replace G:=G.mono le1
 replace hm:=hm.nf
 obtain ⟨p0,q0,rfl,_,_⟩:=r0.fm
 obtain ⟨p1,q1,rfl,_,_⟩:=r1.fm
 obtain ⟨p2,q2,rfl,_,_⟩:=r2.fm
 obtain ⟨p3,m3,q3,hu3_,_,_⟩:=hm.toSees.gsForm (i:=0) rfl
 subst hu3_
 replace hm:=hm.nf
 refine Alc fun b12 w hm a he =>?_
 refine Sto 0 fun w hm a he =>?_
 refine Qq (fun a he =>?_) (o:=by exact fun he hs=>q1o false he rfl rfl rfl)
 refine go fun a he =>?_
 have hm0_:=hm
 clear hm
 obtain ⟨Ψ2,le2,hm,hrow2,back2⟩:=hm0_.freezeRowT (i:=1) rfl
 clear hm0_
 replace G:=G.mono le2
 replace hm:=hm.nf
 have rpc_:RCore Ψ2 [.slice p0 (q8.datas).length q0,.slice p1 (q8.inputs).length q1,.slice p2 (q8.funs).length q2,.slice p3 m3 q3] q8:=⟨_,_,_,_,rfl,r0.mono RData.mono le2,r1.mono RParam.mono le2,r2.mono RFun.mono le2,SliceOf.strs.2 hrow2⟩
 refine zT call36 (fun w hm a he =>?_) (c:=z9i rpc_ G hm)
 refine go fun a he =>?_
 replace hm:=back2 _ _ hm
 replace hm:=hm.nf
 by_cases h18:zP q8=0
 refine Sto 2 fun w hm a he =>?_
 refine go fun a he =>?_
 have hmr:=hm
 replace hm:=hm.dl [2,1]
 refine hQ _ _ _ (q3g (i:=2) (cs:=[.slice p0 (q8.datas).length q0,.slice p1 (q8.inputs).length q1,.slice p2 (q8.funs).length q2,.slice p3 m3 q3]) he hmr.toSees results62 rfl rfl isAgg27 sizeOf27 rfl rfl rfl ?_)
 show Out (nA t) _ _
 rw [y4w h5 hq10 h18]
 exact ⟨(Ψ1,_,_,_,_),rfl,⟨le1,r0,r1,r2⟩,hm⟩
 refine qH fun a he =>?_
 refine Sto 2 fun w hm a he =>?_
 refine go fun a he =>?_
 have hmr:=hm
 replace hm:=hm.dl [2,1,0]
 refine hQ _ _ _ (q3g (i:=2) (cs:=[.slice none 0 0,.slice none 0 0,.slice none 0 0,.slice none 0 0]) he hmr.toSees results62 rfl rfl isAgg27 sizeOf27 rfl rfl rfl ?_)
 show Out (nA t) _ _
 rw [q6s h5 hq10 h18]
 exact ⟨rfl,hm.le (le1)⟩
 replace hm:=hm.nf
 have hpos_:=x2k hq10
 refine Alc fun b21 w hm a he =>?_
 refine Sto 0 fun w hm a he =>?_
 refine qH fun a he =>?_
 refine Sto 1 fun w hm a he =>?_
 refine go fun a he =>?_
 have hmr:=hm
 replace hm:=hm.dl [1,0]
 refine hQ _ _ _ (q3g (i:=1) (cs:=[.slice none 0 0,.slice none 0 0,.slice none 0 0,.slice none 0 0]) he hmr.toSees results62 rfl rfl isAgg27 sizeOf27 rfl rfl rfl ?_)
 show Out (nA t) _ _
 rw [j0h h5 hq10]
 exact ⟨rfl,hm⟩
end Go.Sw

namespace Go.Sw
open Go.Proofs
set_option maxRecDepth 40000
set_option maxHeartbeats 4000000
def q1e:Bs:=⟨#[100,97,116,97,32,76,105,115,116,32,61,32,78,105,108,32,124,32,67,111,110,115,32,73,110,116,32,76,105,115,116,10,105,110,112,117,116,32,120,115,32,58,32,76,105,115,116,10,102,117,110,32,115,117,109,32,40,108,32,58,32,76,105,115,116,41,32,58,32,73,110,116,32,61,32,40,99,97,115,101,32,108,32,40,78,105,108,32,45,62,32,48,41,32,40,67,111,110,115,32,104,32,116,32,45,62,32,40,43,32,104,32,40,115,117,109,32,116,41,41,41,41,10,102,117,110,32,116,111,116,97,108,32,58,32,73,110,116,32,61,32,40,115,117,109,32,33,120,115,41,10,102,117,110,32,108,101,115,115,32,40,97,32,58,32,73,110,116,41,32,40,98,32,58,32,73,110,116,41,32,58,32,73,110,116,32,61,32,40,99,97,115,101,32,40,60,32,97,32,98,41,32,40,70,97,108,115,101,32,45,62,32,48,41,32,40,84,114,117,101,32,45,62,32,49,41,41,10,111,117,116,112,117,116,32,116,111,116,97,108,10]⟩
def z_l:Bs:=⟨#[108]⟩
def j3r:Bs:=⟨#[78,105,108]⟩
def z_h:Bs:=⟨#[104]⟩
def z_t:Bs:=⟨#[116]⟩
def y6n:Bs:=⟨#[115,117,109]⟩
def zPlus:Bs:=⟨#[43]⟩
def q3v:Bs:=⟨#[67,111,110,115]⟩
def z_xs:Bs:=⟨#[120,115]⟩
def z_a:Bs:=⟨#[97]⟩
def z_b:Bs:=⟨#[98]⟩
def zLess:Bs:=⟨#[60]⟩
def j3q:Bs:=⟨#[70,97,108,115,101]⟩
def z_True:Bs:=⟨#[84,114,117,101]⟩
def z_data:Bs:=⟨#[100,97,116,97]⟩
def tA:Bs:=⟨#[76,105,115,116]⟩
def zEq:Bs:=⟨#[61]⟩
def zBar:Bs:=⟨#[124]⟩
def oN:Bs:=⟨#[73,110,116]⟩
def z_input:Bs:=⟨#[105,110,112,117,116]⟩
def z0n:Bs:=⟨#[58]⟩
def z_fun:Bs:=⟨#[102,117,110]⟩
def z5e:Bs:=⟨#[40]⟩
def z5d:Bs:=⟨#[41]⟩
def z_case:Bs:=⟨#[99,97,115,101]⟩
def q3u:Bs:=⟨#[45,62]⟩
def z_0:Bs:=⟨#[48]⟩
def kI:Bs:=⟨#[116,111,116,97,108]⟩
def x4c:Bs:=⟨#[33,120,115]⟩
def z0o:Bs:=⟨#[108,101,115,115]⟩
def z_1:Bs:=⟨#[49]⟩
def x4f:Bs:=⟨#[111,117,116,112,117,116]⟩
def saneWs:List Bs:=[z_data,tA,zEq,j3r,zBar,q3v,oN,tA,z_input,z_xs,z0n,tA,z_fun,y6n,z5e,z_l,z0n,tA,z5d,z0n,oN,zEq,z5e,z_case,z_l,z5e,j3r,q3u,z_0,z5d,z5e,q3v,z_h,z_t,q3u,z5e,zPlus,z_h,z5e,y6n,z_t,z5d,z5d,z5d,z5d,z_fun,kI,z0n,oN,zEq,z5e,y6n,x4c,z5d,z_fun,z0o,z5e,z_a,z0n,oN,z5d,z5e,z_b,z0n,oN,z5d,z0n,oN,zEq,z5e,z_case,z5e,zLess,z_a,z_b,z5d,z5e,j3q,q3u,z_0,z5d,z5e,z_True,q3u,z_1,z5d,z5d,x4f,kI]
def saneC:Core:=⟨[⟨tA,[⟨j3r,[]⟩,⟨q3v,[oN,tA]⟩]⟩],
 [⟨z_xs,tA⟩],
 [⟨y6n,[⟨z_l,tA⟩],oN,(.mk 7 0 sNo [(.mk 2 0 z_l [] [])] [(.mk j3r [] (.mk 1 0 sNo [] [])),(.mk q3v [z_h,z_t] (.mk 8 0 zPlus [(.mk 2 0 z_h [] []),(.mk 5 0 y6n [(.mk 2 0 z_t [] [])] [])] []))])⟩,
  ⟨kI,[],oN,(.mk 5 0 y6n [(.mk 3 0 z_xs [] [])] [])⟩,
  ⟨z0o,[⟨z_a,oN⟩,⟨z_b,oN⟩],oN,(.mk 7 0 sNo [(.mk 8 0 zLess [(.mk 2 0 z_a [] []),(.mk 2 0 z_b [] [])] [])] [(.mk j3q [] (.mk 1 0 sNo [] [])),(.mk z_True [] (.mk 1 1 sNo [] []))])⟩],
 [kI]⟩
theorem j1k:dH q1e=saneWs:=by kernel_rfl
theorem j6u:oK q1e=.ok saneC:=by
 unfold oK;rw [j1k];kernel_rfl
theorem aH:zP saneC=0:=by kernel_rfl
theorem j0g:nA q1e=.ok saneC:=y4w (by decide) j6u aH
section
variable {Φ:Fz} {K:List Res} {w:World}
theorem j6p (G:Glob Φ) (hm:Mem Φ K w) :
  Calls Tryz.prog 62 (List.toArray [.string q1e]) w (fun ee w'=>∃y:Fz×List Value×Value,ee=.returned (.tuple (List.toArray [.agg y.2.1.toArray,.int .i64 ((0:Nat):Int),.int .i64 ((0:Nat):Int)]))∧(Φ.Le y.1∧RCoreX y.1 y.2.1 saneC y.2.2)∧Mem y.1 (.gs y.2.2 9 1 (strs saneC.outputs)::K) w'):=by
 have h1:=x2f (t:=q1e) G hm
 rw [j0g] at h1
 refine h1.mono fun ee w' h =>?_
 obtain ⟨⟨Ψ,v0,v1,v2,v3⟩,h1,⟨h2,h3,h4,h5⟩,h6⟩:=h
 obtain ⟨p,m,c,rfl,hl,_⟩:=h6.toSees.gsForm (i:=0) rfl
 have hm':m=saneC.outputs.length:=by simpa [strs] using hl.symm
 subst hm'
 exact ⟨(Ψ,[v0,v1,v2,.slice p saneC.outputs.length c],.slice p saneC.outputs.length c),h1,⟨h2,⟨v0,v1,v2,p,c,rfl,rfl,h3,h4,h5⟩⟩,h6⟩
theorem j0e (G:Glob Φ) (hm:Mem Φ K w) :
  Calls Tryz.prog 62 (List.toArray [.string q1e]) w (fun ee w'=>∃y:Fz×List Value,ee=.returned (.tuple (List.toArray [.agg y.2.toArray,.int .i64 ((0:Nat):Int),.int .i64 ((0:Nat):Int)]))∧(Φ.Le y.1∧RCore y.1 y.2 saneC)∧Mem y.1 K w'):=by
 refine (j6p G hm).mono fun ee w' h =>?_
 obtain ⟨⟨Ψ,d,v⟩,h1,⟨h2,h3⟩,h4⟩:=h
 obtain ⟨Ψ1,l1,m1,r1⟩:=Mem.freezeRow (i:=0) h4 rfl
 exact ⟨(Ψ1,d),h1,⟨h2.trans l1,(h3.mono l1).full (SliceOf.strs.2 r1)⟩,m1⟩
end
end Go.Sw

namespace Go.Sw
open Go.Proofs
set_option maxRecDepth 20000
set_option maxHeartbeats 4000000
end Go.Sw

namespace Go.Sw
def uZ:List Bs→List Bs→Bool
 | [],_=>true
 | _::_,[]=>true
 | x::xs,y::ys=>decide (x=y)&&uZ xs ys
def j3e (l m:List Bs):Bool:=decide (l.length=m.length)&&uZ l m
theorem sM (x y:Bs) (xs ys:List Bs):uZ (x::xs) (y::ys)=(decide (x=y)&&uZ xs ys):=rfl
theorem j0s (ys:List Bs):uZ [] ys=true:=rfl
theorem z5w:∀l:List Bs,uZ l l=true
 | []=>rfl
 | x::xs=>by rw [sM,z5w xs];simp
theorem hU (l:List Bs):j3e l l=true:=by simp [j3e,z5w]
end Go.Sw

namespace Go.Sw
open Go.Proofs
set_option maxRecDepth 20000
set_option maxHeartbeats 4000000
theorem aC {Φ:Fz} {K:List Res} {w:World} {v0:Value} {v:List Bs} {v1:Value} {u:List Bs} (rpv:SliceOf RStr Φ 1 v0 v) (rpu:SliceOf RStr Φ 1 v1 u) (hm:Mem Φ K w) :
  Calls Tryz.prog 22 (List.toArray [v0,v1]) w (fun ee w'=>ee=.returned (.bool (j3e v u))∧Mem Φ K w'):=by
 obtain ⟨p0,c0,rfl,hm0,hn0⟩:=rpv.fm
 obtain ⟨p1,c1,rfl,hm1,hn1⟩:=rpu.fm
 refine zN Tryz.func22 Tryz.ntmps22 fun Q hQ a he =>?_
 refine goJ 2 fun a he =>?_
 refine sq fun L2 hL2 =>?_
 have hJ3:∀a w,(∃(o:Bool),EnvR 31 [(0,.slice p0 v.length c0),(1,.slice p1 u.length c1),(5,.bool o)] [] a∧Mem Φ (K) w∧(o=decide (v.length=u.length)))→L2 a w:=by
  clear hm he
  rintro a w ⟨o,he,hm,hI4⟩
  refine hL2 _ _ ?_
  refine go fun a he =>?_
  refine yG (he.ks [0,1]) hm (fun R mm a w=>∃(i:Nat) (o:Bool),mm=v.length - i∧R Φ [(5,.bool o),(6,.int .i64 ((i:Nat):Int))] [] a w∧(j3e v u=(o&&uZ (v.drop i) (u.drop i))∧(o=true→v.length=u.length))) (v.length - 0) ⟨0,o,rfl,⟨he.pk,hm⟩,⟨by rw [hI4];rfl,fun h=>by rw [hI4] at h;simp only [decide_eq_true_eq] at h;exact h⟩⟩ ?_
  clear hm he
  rintro mm a w ⟨i,o,hmu,⟨he,hm⟩,hI8⟩ L7 hL7
  obtain ⟨hI_,hln_⟩:=hI8
  by_cases h11:i < v.length
  refine go fun a he =>?_
  cases o
  refine zF ?_
  exact yE hm (by rw [hI_,Bool.false_and])
  refine Reg [1,1,1,2,1,1,1,2,1,1] [] fun w hm a he =>?_
  have hlt14:i < u.length:=by rw [← hln_ rfl];exact h11
  refine go fun a he =>?_
  obtain ⟨q15,rfl,x16,hx17,cs18,hl19,ha20,hr21⟩:=rpv.el hn0 h11
  obtain rfl:cs18=[.string x16]:=hr21
  refine go fun a he =>?_
  obtain ⟨q22,rfl,x23,hx24,cs25,hl26,ha27,hr28⟩:=rpu.el hn1 hlt14
  obtain rfl:cs25=[.string x23]:=hr28
  by_cases h29:x16=x23
  refine go fun a he =>?_
  refine hL7 _ _ _ (by subst hmu;omega) ⟨(i+1),(true),rfl,⟨he.pk,hm⟩,?_⟩
  exact ⟨by rw [hI_,zA hx17,zA hx24,sM,Bool.true_and];simp [h29],fun _=>hln_ rfl⟩
  refine go fun a he =>?_
  refine hL7 _ _ _ (by subst hmu;omega) ⟨(i+1),(false),rfl,⟨he.pk,hm⟩,?_⟩
  exact ⟨by rw [hI_,zA hx17,zA hx24,sM,Bool.true_and];simp [h29],fun _=>hln_ rfl⟩
  refine zF ?_
  exact yE hm (by rw [hI_,zH h11,j0s,Bool.and_true])
 by_cases h31:v.length=u.length
 refine go fun a he =>?_
 exact hJ3 _ _ ⟨true,he.pk,hm,by simp [h31]⟩
 refine go fun a he =>?_
 exact hJ3 _ _ ⟨false,he.pk,hm,by simp [h31]⟩
end Go.Sw

namespace Go.Sw
open Go.Proofs.Tryz
open Go.Proofs
set_option maxRecDepth 20000
set_option maxHeartbeats 4000000
def zz (l:List Nat):Bs:=⟨(l.map UInt8.ofNat).toArray⟩
def z_inxs:Bs:=⟨#[105,110,46,120,115]⟩
def z3e:Bs:=⟨#[67,111,110,115,47,48]⟩
def z_Cons1:Bs:=⟨#[67,111,110,115,47,49]⟩
def z_suml:Bs:=⟨#[115,117,109,46,108]⟩
def z_sumt:Bs:=⟨#[115,117,109,46,116]⟩
def q0y:List Bs:=[z_inxs,z_Cons1,y6n,z_suml,z_sumt,kI]
def y9w (nx:Next) (l:List Bs):Nat→List Bs
 | 0=>l
 | k+1=>(y9w nx l k).flatMap (jW nx)
theorem way_iter {nx:Next} {l:List Bs}:∀{k:Nat} {x:Bs},Way nx l k x↔x∈y9w nx l k:=by
 intro k
 induction k with
 | zero=>intro x;exact ⟨fun h=>by cases h;assumption,fun h=>.root h⟩
 | succ k ih =>
  intro x
  constructor
  intro h
  cases h with
  | step h1 h2=>exact List.mem_flatMap.2 ⟨_,ih.1 h1,h2⟩
  intro h
  obtain ⟨y,h1,h2⟩:=List.mem_flatMap.1 h
  exact .step (ih.2 h1) h2
theorem x3f:cG saneC=q0y:=by kernel_rfl
theorem j0w:hY saneC=.ok q0y:=by rw [hY,if_pos aH,x3f]
theorem q9y:sK saneC=.ok (zD saneC):=if_pos aH
theorem j6c:(zD saneC).length=11:=by kernel_rfl
theorem x3q:kI∈zD saneC:=by
 have h:decide (kI∈zD saneC)=true:=by kernel_rfl
 exact of_decide_eq_true h
theorem j8e:z3e∈zD saneC:=by
 have h:decide (z3e∈zD saneC)=true:=by kernel_rfl
 exact of_decide_eq_true h
theorem less_in:z0o∈zD saneC:=by
 have h:decide (z0o∈zD saneC)=true:=by kernel_rfl
 exact of_decide_eq_true h
theorem x3r:(zK (yB (yY (zY saneC)) (zO saneC)) kI).isSome=true:=by kernel_rfl
theorem j4b:(zK (yB (yY (zY saneC)) (zO saneC)) z3e).isSome=false:=by kernel_rfl
theorem j4n:vW saneC z0o=[]:=by kernel_rfl
theorem q9q:pK saneC (zD saneC)=112:=by kernel_rfl
theorem j6r {l:List Bs} (h:PathOk (yY (zY saneC)) (zO saneC) kI l):l.length=4:=by
 have h3:decide (kI∈y9w (yY (zY saneC)) (zO saneC) 3)=true:=by kernel_rfl
 have h2:decide (kI∈y9w (yY (zY saneC)) (zO saneC) 2)=false:=by kernel_rfl
 have h1:decide (kI∈y9w (yY (zY saneC)) (zO saneC) 1)=false:=by kernel_rfl
 have h0:decide (kI∈y9w (yY (zY saneC)) (zO saneC) 0)=false:=by kernel_rfl
 have hw:=way_iter.1 h.way
 have hp:=h.pos
 obtain ⟨p,rfl,_,_,h4⟩:=h
 have h5:=h4 3 (way_iter.2 (of_decide_eq_true h3))
 simp only [List.length_append,List.length_cons,List.length_nil,Nat.add_sub_cancel] at *
 have a0:p.length≠0:=fun e=>by rw [e] at hw;exact of_decide_eq_false h0 hw
 have a1:p.length≠1:=fun e=>by rw [e] at hw;exact of_decide_eq_false h1 hw
 have a2:p.length≠2:=fun e=>by rw [e] at hw;exact of_decide_eq_false h2 hw
 omega
section
variable {Φ:Fz} {K:List Res} {w:World} {d0:List Value}
theorem j6z (rpc:RCore Φ d0 saneC) (G:Glob Φ) (hL:∀c,zP c=0→LOk c) (hm:Mem Φ K w) :
  Calls prog 15 (List.toArray [.agg d0.toArray]) w (fun ee w'=>∃y:Value,ee=.returned (.tuple (List.toArray [y,.int .i64 0]))∧True∧Mem Φ (.gs y 9 1 (strs q0y)::K) w'):=by
 have h:=z4s rpc G (hL _) hm
 rw [j0w] at h;exact h
theorem j6i (rpc:RCore Φ d0 saneC) (G:Glob Φ) (hL:∀c,zP c=0→LOk c) (hm:Mem Φ K w) :
  Calls prog 12 (List.toArray [.agg d0.toArray]) w (fun ee w'=>∃y:Value,ee=.returned (.tuple (List.toArray [y,.int .i64 0]))∧True∧Mem Φ (.gs y 9 1 (strs (zD saneC))::K) w'):=by
 have h:=z4n rpc G (hL _) hm
 rw [q9y] at h;exact h
theorem j3y (rpc:RCore Φ d0 saneC) (G:Glob Φ) (hL:∀c,zP c=0→LOk c) (hm:Mem Φ K w) :
  Calls prog 26 (List.toArray [.agg d0.toArray,.string kI]) w (fun ee w'=>∃y:Value×List Bs,ee=.returned (.tuple (List.toArray [y.1,.int .i64 0]))∧y.2.length=4∧Mem Φ (.gs y.1 9 1 (strs y.2)::K) w'):=by
 have h:=z3g (n:=kI) rpc G (hL _) hm
 rw [z3f aH x3q x3r] at h
 exact h.mono fun ee w' ⟨y,h1,h2,h3⟩=>⟨y,h1,j6r h2,h3⟩
theorem j7y (rpc:RCore Φ d0 saneC) (G:Glob Φ) (hL:∀c,zP c=0→LOk c) (hm:Mem Φ K w) :
  Calls prog 26 (List.toArray [.agg d0.toArray,.string z3e]) w (fun ee w'=>ee=.returned (.tuple (List.toArray [.slice none 0 0,.int .i64 3]))∧Mem Φ K w'):=by
 have h:=z3g (n:=z3e) rpc G (hL _) hm
 rw [tC aH j8e j4b] at h;exact h
theorem j8m (rpc:RCore Φ d0 saneC) (G:Glob Φ) (hL:∀c,zP c=0→LOk c) (hm:Mem Φ K w) :
  Calls prog 14 (List.toArray [.agg d0.toArray,.string z0o]) w (fun ee w'=>∃y:Value,ee=.returned (.tuple (List.toArray [y,.int .i64 0]))∧True∧Mem Φ (.gs y 9 1 (strs [])::K) w'):=by
 have h:=z5i (n:=z0o) rpc G (hL _) hm
 rw [kL aH less_in,j4n] at h;exact h
end
theorem x3e {Φ:Fz} {K:List Res} {w:World} (G:Glob Φ) (hm:Mem Φ K w) :
  Calls prog 35 (List.toArray []) w (fun ee w'=>∃y:Fz×List Value,ee=.returned (.agg y.2.toArray)∧(Φ.Le y.1∧RCore y.1 y.2 saneC)∧Mem y.1 K w'):=by
 refine zN func35 ntmps35 fun Q hQ a he =>?_
 refine Alc fun b2 w hm a he =>?_
 refine qV call62 (fun y4 w hG5 hm a he =>?_) (c:=j0e G hm)
 obtain ⟨Ψs,ds⟩:=y4
 obtain ⟨les,hrs⟩:=hG5
 simp only at les hrs hm he
 replace G:=G.mono les
 replace hm:=hm.nf
 have hrs0:=hrs
 obtain ⟨p8,c9,p14,c15,p20,c21,p26,c27,rfl,h7,h13,h19,h25,hm10,hn11,hm16,hn17,hm22,hn23,hm28,hn29⟩:=RCore.fm hrs
 refine Alc fun b30 w hm a he =>?_
 refine Sto 0 fun w hm a he =>?_
 refine Sto 1 fun w hm a he =>?_
 refine go fun a he =>?_
 have hmr:=hm
 replace hm:=hm.dl [1,0]
 refine kX (hm:=hmr) ?_
 exact ⟨(Ψs,[.slice p8 saneC.datas.length c9,.slice p14 saneC.inputs.length c15,.slice p20 saneC.funs.length c21,.slice p26 saneC.outputs.length c27]),rfl,⟨les,hrs0⟩,hm⟩
theorem z2s {Φ:Fz} {K:List Res} {w:World} (G:Glob Φ) (hL:∀c,zP c=0→LOk c) (hm:Mem Φ K w) :
  Calls prog 11 (List.toArray []) w (fun ee w'=>ee=.returned (.bool true)∧Mem Φ K w'):=by
 refine zN func11 ntmps11 fun Q hQ a he =>?_
 refine qV call35 (fun y3 w hG4 hm a he =>?_) (c:=x3e G hm)
 obtain ⟨Ψs,ds⟩:=y3
 obtain ⟨les,hrc⟩:=hG4
 simp only at les hrc hm he
 replace G:=G.mono les
 replace hm:=hm.nf
 have hrs:=hrc
 obtain ⟨p7,c8,p13,c14,p19,c20,p25,c26,rfl,h6,h12,h18,h24,hm9,hn10,hm15,hn16,hm21,hn22,hm27,hn28⟩:=RCore.fm hrs
 refine Alc fun b29 w hm a he =>?_
 refine Sto 0 fun w hm a he =>?_
 refine qV call15 (fun y31 w hG32 hm a he =>?_) (c:=j6z hrc G hL hm)
 replace hm:=hm.nf
 refine qV call26 (fun y34 w hG35 hm a he =>?_) (c:=j3y hrc G hL hm)
 obtain ⟨plv,pl⟩:=y34
 have plh:=hG35
 simp only at plh hm he
 replace hm:=hm.nf
 refine zT call26 (fun w hm a he =>?_) (c:=j7y hrc G hL hm)
 refine qV call12 (fun y38 w hG39 hm a he =>?_) (c:=j6i hrc G hL hm)
 replace hm:=hm.nf
 refine qV call14 (fun y41 w hG42 hm a he =>?_) (c:=j8m hrc G hL hm)
 replace hm:=hm.nf
 refine go fun a he =>?_
 have hm0_:=hm
 clear hm
 obtain ⟨Ψ44,le45,hm,hrow46⟩:=hm0_.freezeRow (i:=3) rfl
 clear hm0_
 replace G:=G.mono le45
 replace hrc:=RCore.mono _ _ _ _ le45 hrc
 replace hm:=hm.nf
 have hsl47:SliceOf RStr Ψ44 1 _ (q0y):=SliceOf.strs.2 hrow46
 obtain ⟨p48,c49,hv_,hm50,hn51⟩:=hsl47.form (by decide)
 have hmk_:=hm
 clear hm
 subst hv_
 have hm:=hmk_
 clear hmk_
 have hm0_:=hm
 clear hm
 obtain ⟨Ψ52,le53,hm,hrow54⟩:=hm0_.freezeRow (i:=2) rfl
 clear hm0_
 replace G:=G.mono le53
 replace hrc:=RCore.mono _ _ _ _ le53 hrc
 replace hsl47:=hsl47.up le53
 replace hm:=hm.nf
 have hsl55:SliceOf RStr Ψ52 1 _ (pl):=SliceOf.strs.2 hrow54
 obtain ⟨p56,c57,hv_,hm58,hn59⟩:=hsl55.form (by decide)
 have hmk_:=hm
 clear hm
 subst hv_
 have hm:=hmk_
 clear hmk_
 have hm0_:=hm
 clear hm
 obtain ⟨Ψ60,le61,hm,hrow62⟩:=hm0_.freezeRow (i:=1) rfl
 clear hm0_
 replace G:=G.mono le61
 replace hrc:=RCore.mono _ _ _ _ le61 hrc
 replace hsl47:=hsl47.up le61
 replace hm:=hm.nf
 have hsl63:SliceOf RStr Ψ60 1 _ ((zD saneC)):=SliceOf.strs.2 hrow62
 obtain ⟨p64,c65,hv_,hm66,hn67⟩:=hsl63.form (by decide)
 have hmk_:=hm
 clear hm
 subst hv_
 have hm:=hmk_
 clear hmk_
 have hm0_:=hm
 clear hm
 obtain ⟨Ψ68,le69,hm,hrow70⟩:=hm0_.freezeRow (i:=0) rfl
 clear hm0_
 replace G:=G.mono le69
 replace hrc:=RCore.mono _ _ _ _ le69 hrc
 replace hsl47:=hsl47.up le69
 replace hsl63:=hsl63.up le69
 replace hm:=hm.nf
 have hsl71:SliceOf RStr Ψ68 1 _ (([]:List Bs)):=SliceOf.strs.2 hrow70
 obtain ⟨p72,c73,hv_,hm74,hn75⟩:=hsl71.form (by decide)
 have hmk_:=hm
 clear hm
 subst hv_
 have hm:=hmk_
 clear hmk_
 refine Qq (fun a he =>?_) (o:=by exact fun he hs=>jR true he rfl rfl rfl)
 refine Qq (fun a he =>?_) (o:=by exact fun he hs=>jR true he rfl rfl rfl)
 refine Qq (fun a he =>?_) (o:=by exact fun he hs=>jR true he rfl rfl rfl)
 refine Qq (fun a he =>?_) (o:=by exact fun he hs=>jR true he rfl rfl rfl)
 refine Qq (fun a he =>?_) (o:=by exact fun he hs=>jR true he rfl rfl rfl)
 refine kW fun v77 w hm a he =>?_
 have hm0_:=hm
 clear hm
 obtain ⟨Ψ78,le79,hm,hrow80⟩:=hm0_.freezeRow (i:=0) rfl
 clear hm0_
 replace G:=G.mono le79
 replace hrc:=RCore.mono _ _ _ _ le79 hrc
 replace hsl47:=hsl47.up le79
 replace hsl63:=hsl63.up le79
 replace hm:=hm.nf
 have hsl81:SliceOf RStr Ψ78 1 _ (q0y):=SliceOf.strs.2 hrow80
 obtain ⟨p82,c83,hv_,hm84,hn85⟩:=hsl81.form (by decide)
 have hmk_:=hm
 clear hm
 subst hv_
 have hm:=hmk_
 clear hmk_
 refine zT call22 (fun w hm a he =>?_) (c:=(show Calls prog _ _ _ (fun ee w'=>ee=.returned (.bool true)∧_) from (hU q0y)▸aC hsl47 hsl81 hm))
 refine Qq (fun a he =>?_) (o:=by exact fun he hs=>jR true he rfl rfl (decide_eq_true (congrArg Int.ofNat j6c)))
 refine Qq (fun a he =>?_) (o:=by exact fun he hs=>jR true he rfl rfl (decide_eq_true (congrArg Int.ofNat rfl)))
 refine zT call17 (fun w hm a he =>?_) (c:=(q9q▸tH hrc hsl63 G (hL _) hm))
 refine Qq (fun a he =>?_) (o:=by exact fun he hs=>jR true he rfl rfl rfl)
 refine zF ?_
 replace hm:=hm.le ((((((les).trans le45).trans le53).trans le61).trans le69).trans le79)
 replace hm:=hm.dl [0]
 exact ⟨rfl,hm⟩
end Go.Sw

namespace Go.Proofs.YtghdfphedgcpdaaGreatDoor
open Go.ChangeShapes Go.WideShapes Go.ChangeAt Go.RowKit Go.Sw
set_option maxRecDepth 100000
section
variable {H:Type} {enc:TypeId×Value→H}
theorem sO {W:World} {base:Nat} {v:Value} {d:DataW H} {p:List MemPlace} (hv:Value.okWide Tryz.prog W .any base 25 v) (h:DataW.Trod enc Tryz.prog W 0 (fun _=>true) true 25 v d p):∃l,SliceOf RStr (Fz.whole W) 1 v l:=by
 obtain ⟨a,len,cap,rfl⟩:=okWide_slice Tryz.underlying25 hv
 obtain ⟨fuel,hf⟩:=h
 obtain ⟨v,l,e,hl⟩:=tN (enc:=enc) (W:=W) (n:=fuel) (cs:=[.slice a len cap]) hf
 simp only [List.cons.injEq,and_true] at e
 subst e
 exact ⟨l,hl⟩
theorem q3m {W:World} {t e:TypeId} {n fuel cap:Nat} {p:Option Addr} {x:DataW H×List MemPlace} (ht:Tryz.prog.underlying t=some (.slice e)) (h:trd enc W fuel t [.slice p n cap]=some x)
  (hw:∀q∈DataW.weights Tryz.prog t x.1,q≤reachBytes):n * Tryz.prog.bytesOf e≤reachBytes:=by
 rcases DataW.trod_slice ht h with ⟨h1,_⟩ | ⟨a,len,cap',elems,rest,m,_,h1,rfl,_,_,_,hlen,_⟩
 ·simp only [List.cons.injEq,Value.slice.injEq] at h1
  obtain ⟨⟨_,rfl,_⟩,_⟩:=h1
  simp
 ·simp only [List.cons.injEq,and_true,Value.slice.injEq] at h1
  obtain ⟨_,rfl,_⟩:=h1
  refine Nat.le_trans (Nat.mul_le_mul_right _ ?_) (hw ((elems.length+rest.length) * Tryz.prog.bytesOf e) (by simp [DataW.weights,ht]))
  omega
theorem bytes9:Tryz.prog.bytesOf 9=16:=by kernel_rfl
theorem z6a {W:World} {v:Value} {l:List Bs} {d:DataW H} {p:List MemPlace} (hl:SliceOf RStr (Fz.whole W) 1 v l) (h:DataW.Trod enc Tryz.prog W 0 (fun _=>true) true 25 v d p)
  (hw:∀q∈DataW.weights Tryz.prog 25 d,q≤reachBytes):l.length≤8796093022208:=by
 obtain ⟨fuel,hf⟩:=h
 obtain ⟨q,c,rfl,_,_⟩:=hl.form (by decide)
 have:=q3m (enc:=enc) (W:=W) Tryz.underlying25 (n:=l.length) hf hw
 rw [bytes9] at this
 have hr:reachBytes=140737488351232:=rfl
 omega
end
end Go.Proofs.YtghdfphedgcpdaaGreatDoor

namespace Go.Sw
theorem All2.left {α β:Type} {R:α→β→Prop}:∀{xs:List α} {ys:List β},All2 R xs ys→∀x∈xs,∃y∈ys,R x y
 | x::xs,y::ys,h,z,hz=>by
  rcases List.mem_cons.1 hz with rfl | hz
  ·exact ⟨y,List.mem_cons_self,h.1⟩
  ·obtain ⟨u,h1,h2⟩:=All2.left h.2 z hz;exact ⟨u,List.mem_cons_of_mem _ h1,h2⟩
 | [],_,_,z,hz=>by cases hz
 | _::_,[],h,_,_=>h.elim
theorem dX {s:Bs} (h:yU s=true):s.size≤24:=by
 simp only [yU,vT,decide_eq_true_eq] at h
 split at h
 ·cases h
 ·omega
theorem z9j {s:Bs} (h:qC s=true):s.size≤24:=by
 simp only [qC,vT,decide_eq_true_eq] at h
 split at h
 ·cases h
 ·omega
end Go.Sw

namespace Go.Sw
end Go.Sw

namespace Go.Sw
theorem q9v {t:Bs} {pos:Nat}:∀j,j < qP t pos→qE (zJ t (pos+j))=true∨zJ t (pos+j)=39:=by
 intro j hj
 unfold qP at hj
 split at hj
 ·rename_i h39
  split at hj
  ·by_cases h1:j < yQ qE t t.size pos
   ·exact .inl (gC _ _ _ _ _ h1).2
   ·by_cases h2:j=yQ qE t t.size pos
    ·exact .inr (by rw [h2];exact h39)
    ·have h3:=(gC yW t t.size (pos+(yQ qE t t.size pos+1)) (j - (yQ qE t t.size pos+1)) (by omega)).2
     rw [show pos+(yQ qE t t.size pos+1)+(j - (yQ qE t t.size pos+1))=pos+j by omega] at h3
     exact .inl (by simp [qE,h3])
  ·exact .inl (gC _ _ _ _ _ hj).2
 ·exact .inl (gC _ _ _ _ _ hj).2
theorem q0i {t:Bs} {pos:Nat} {kd:Int} {k:Tok} (h:vY t pos kd=.ok k):(k.kind=5∨k.kind=kd)∧k.text=t.extract pos (pos+qP t pos):=by
 unfold vY at h
 split at h
 ·cases h
 ·simp only [Except.ok.injEq] at h
  subst h
  refine ⟨?_,rfl⟩
  simp only
  split
  ·exact .inl rfl
  ·exact .inr rfl
theorem q7o {t:Bs} {pos:Nat} {k:Tok} (h:zV t pos=.ok k) (hk:k.kind=2∨k.kind=3):((k.kind=2∧nB (zJ t pos)=true)∨(k.kind=3∧nP (zJ t pos)=true))∧k.text=t.extract pos (pos+qP t pos):=by
 unfold zV at h
 split at h
 ·unfold sL at h
  split at h
  ·cases h
  ·split at h
   ·cases h
   ·simp only [Except.ok.injEq] at h;subst h;simp only at hk;omega
 split at h
 ·rename_i hs
  obtain ⟨h1,h2⟩:=q0i h
  exact ⟨.inl ⟨by omega,hs⟩,h2⟩
 split at h
 ·rename_i hs
  obtain ⟨h1,h2⟩:=q0i h
  exact ⟨.inr ⟨by omega,hs⟩,h2⟩
 split at h
 ·obtain ⟨_,rfl⟩:=dS h;simp only at hk;omega
 split at h
 ·obtain ⟨_,rfl⟩:=dS h;simp only at hk;omega
 split at h
 ·obtain ⟨_,rfl⟩:=dS h;simp only at hk;omega
 ·cases h
theorem j5c {s:Bs} {κ:Int} (hk:vT s=κ) (h:κ=2∨κ=3):0 < s.size∧((κ=2∧nB (zJ s 0)=true)∨(κ=3∧nP (zJ s 0)=true))∧∀j,j < s.size→qE (zJ s j)=true∨zJ s j=39:=by
 unfold vT at hk
 split at hk
 ·omega
 split at hk
 ·rename_i k ht
  split at hk
  ·rename_i hks
   unfold mM at ht
   rw [oM] at ht
   split at ht
   ·cases ht
   rename_i q hq
   split at ht
   ·rename_i hlt
    split at ht
    ·cases ht
    rename_i k' hk'
    split at ht
    ·cases ht
    simp only [Except.ok.injEq,List.cons.injEq] at ht
    obtain ⟨rfl,_⟩:=ht
    obtain ⟨h1,h2⟩:=q7o hk' (by omega)
    have h3:(s.extract q (q+qP s q)).size=s.size:=by rw [← h2,hks]
    rw [ByteArray.size_extract] at h3
    have h4:q=0:=by omega
    subst h4
    refine ⟨hlt,?_,fun j hj =>?_⟩
    ·rcases h1 with ⟨a,b⟩ | ⟨a,b⟩
     ·exact .inl ⟨by omega,b⟩
     ·exact .inr ⟨by omega,b⟩
    ·have:=q9v (t:=s) (pos:=0) j (by omega)
     rwa [Nat.zero_add] at this
   ·cases ht
  ·omega
 ·omega
theorem q5o {s:Bs} (h:vT s=2∨vT s=3):0 < s.size∧((vT s=2∧nB (zJ s 0)=true)∨(vT s=3∧nP (zJ s 0)=true))∧∀j,j < s.size→qE (zJ s j)=true∨zJ s j=39:=j5c rfl h
theorem tx_mem {s:Bs} {b:UInt8} (h:b∈tx s):∃j,j < s.size∧zJ s j=b.toNat:=by
 obtain ⟨j,hj,rfl⟩:=List.getElem_of_mem h
 have h1:=tx_size s
 refine ⟨j,by omega,?_⟩
 rw [pQ (by omega)]
 simp only [tx,Array.getElem_toList];rfl
theorem kO {s:Bs} (h:yU s=true):vT s=2:=by simpa [yU] using h
theorem q4o {s:Bs} (h:qC s=true):vT s=3:=by simpa [qC] using h
theorem j5o (n:Int):∃b r,y0s n=b::r∧(b=45∨(48≤b.toNat∧b.toNat≤57)):=by
 unfold y0s
 split
 ·exact ⟨_,_,rfl,.inl rfl⟩
 ·have h:∀u,j2i u=Lib.decDigits u:=fun u=>tE (u+1) u (Nat.lt_succ_self _)
  rw [h]
  have:∀f u,u < f→∃b r,Lib.decDigits u=b::r∧(48≤b.toNat∧b.toNat≤57):=by
   intro f
   induction f with
   | zero=>intro u hu;omega
   | succ f ih =>
    intro u hu
    rw [Lib.decDigits]
    by_cases hn:u < 10
    ·rw [dif_pos hn]
     refine ⟨_,_,rfl,?_⟩
     simp [Nat.toUInt8,UInt8.toNat_ofNat'];omega
    ·rw [dif_neg hn]
     obtain ⟨b,r,e,hb⟩:=ih (u / 10) (by omega)
     exact ⟨b,r++_,by rw [e];rfl,hb⟩
  obtain ⟨b,r,e,hb⟩:=this (n.toNat+1) n.toNat (Nat.lt_succ_self _)
  exact ⟨b,r,e,.inr hb⟩
theorem z9o:∀(f n:Nat),∀b∈y9b f n,48≤b.toNat∧b.toNat≤57
 | 0,_,_,h=>by cases h
 | f+1,n,b,h=>by
  simp only [y9b] at h
  split at h
  ·simp only [List.mem_singleton] at h;subst h;simp [Nat.toUInt8,UInt8.toNat_ofNat'];omega
  ·rcases List.mem_cons.1 h with rfl | h
   ·simp [Nat.toUInt8,UInt8.toNat_ofNat'];omega
   ·exact z9o f _ b h
theorem tx_ofTx (l:Tx):tx (ofTx l)=l:=by simp [tx,ofTx]
end Go.Sw

namespace Go.Sw
theorem y4v:∀(f u:Nat),u < f→u≤9223372036854775808→∀r,Lib.parseUint10 0 (Lib.decDigits u++r)=Lib.parseUint10 u r
 | 0,_,h,_,_=>by omega
 | f+1,u,h,hu,r=>by
  rw [Lib.decDigits]
  by_cases hn:u < 10
  ·rw [dif_pos hn,List.singleton_append,Lib.parseUint10]
   have e:(UInt8.ofNat (48+u)).toNat=48+u:=by rw [UInt8.toNat_ofNat'];omega
   rw [e,if_pos (by omega),if_neg (by omega),if_neg (by omega)]
   congr 1;omega
  ·rw [dif_neg hn,List.append_assoc,y4v f (u / 10) (by omega) (by omega),List.singleton_append,Lib.parseUint10]
   have e:(UInt8.ofNat (48+u % 10)).toNat=48+u % 10:=by rw [UInt8.toNat_ofNat'];omega
   rw [e,if_pos (by omega),if_neg (by omega),if_neg (by omega)]
   congr 1;omega
theorem digs_ne (u:Nat):Lib.decDigits u≠[]:=by
 rw [Lib.decDigits];split <;> simp
theorem q0q {u:Nat} (h:u≤9223372036854775808):Lib.parseMag (Lib.decDigits u)=.ok u:=by
 unfold Lib.parseMag
 rw [if_neg (digs_ne u)]
 have:=y4v (u+1) u (Nat.lt_succ_self _) h []
 rw [List.append_nil] at this
 rw [this];rfl
theorem j4p (u:Nat):∃b r,Lib.decDigits u=b::r∧48≤b.toNat∧b.toNat≤57:=by
 obtain ⟨b,r,e,h⟩:=j5o (u:Int)
 have e2:y0s (u:Int)=Lib.decDigits u:=by rw [← j2n];unfold Lib.itoa;rw [if_neg (by omega)];rfl
 rw [e2] at e
 rcases h with rfl | h
 ·exfalso
  have h1:(45:UInt8)∈Lib.decDigits u:=by rw [e];exact List.mem_cons_self
  rw [← tE (u+1) u (Nat.lt_succ_self _)] at h1
  have:=z9o _ _ _ (List.mem_reverse.1 h1)
  exact absurd this (by decide)
 ·exact ⟨b,r,e,h⟩
theorem j3v {n:Int} (h:I64 n):Lib.atoiAll (Lib.itoa n)=.ok n:=by
 unfold I64 at h
 unfold Lib.itoa
 split
 ·rename_i hn
  have h1:=q0q (u:=n.natAbs) (by omega)
  simp only [Lib.atoiAll]
  rw [if_pos (.inr rfl),h1]
  simp only
  rw [if_neg (by intro h;exact h.1 rfl),if_neg (by intro h;omega)]
  simp only [show ((45:UInt8).toNat=45)=True from by simp,if_true]
  congr 1;omega
 ·rename_i hn
  have h1:=q0q (u:=n.toNat) (by omega)
  obtain ⟨b,r,e,hb⟩:=j4p n.toNat
  rw [e] at h1 ⊢
  simp only [Lib.atoiAll]
  rw [if_neg (by omega),h1]
  simp only
  rw [if_neg (by intro h;omega),if_neg (by intro h;omega),if_neg (by omega)]
  congr 1;omega
theorem q5u {n:Int} (h:I64 n):dG (nS n)=some n:=by
 unfold dG
 have h1:cN (nS n)=.ok n:=by
  unfold cN
  rw [show (nS n).data.toList=Lib.itoa n from by simp [nS],j3v h]
 rw [h1]
 exact if_pos rfl
end Go.Sw

namespace Go.Sw
theorem wF {s:Bs} (h:vT s=2∨vT s=3):(46:UInt8)∉tx s∧(47:UInt8)∉tx s:=by
 obtain ⟨_,_,h3⟩:=q5o h
 have:∀b∈tx s,b≠46∧b≠47:=fun b hb=>by
  obtain ⟨j,hj,e⟩:=tx_mem hb
  have h4:=h3 j hj
  rw [e] at h4
  simp only [qE,nB,nP,yW,Bool.or_eq_true,Bool.and_eq_true,decide_eq_true_eq] at h4
  constructor <;> (rintro rfl;simp at h4)
 exact ⟨fun hc=>(this _ hc).1 rfl,fun hc=>(this _ hc).2 rfl⟩
theorem q5n {s:Bs} (h:vT s=2∨vT s=3):s≠sE:=fun e=>by
 have:=(q5o h).1
 rw [e] at this;exact absurd this (by decide)
theorem z9l {c:UInt8}:∀{a a' b b':Tx},c∉a→c∉a'→a++c::b=a'++c::b'→a=a'∧b=b'
 | [],[],_,_,_,_,h=>by simp at h;exact ⟨rfl,h⟩
 | [],y::a',_,_,_,h2,h=>by
  simp only [List.nil_append,List.cons_append,List.cons.injEq] at h
  exact absurd (by rw [h.1];exact List.mem_cons_self) h2
 | x::a,[],_,_,h1,_,h=>by
  simp only [List.nil_append,List.cons_append,List.cons.injEq] at h
  exact absurd (by rw [← h.1];exact List.mem_cons_self) h1
 | x::a,y::a',b,b',h1,h2,h=>by
  simp only [List.cons_append,List.cons.injEq] at h
  obtain ⟨e1,e2⟩:=z9l (fun hc=>h1 (List.mem_cons_of_mem _ hc)) (fun hc=>h2 (List.mem_cons_of_mem _ hc)) h.2
  exact ⟨by rw [h.1,e1],e2⟩
theorem y6g (a b:Bs):tx (a++b)=tx a++tx b:=by simp [tx,ByteArray.data_append]
theorem y6h {a b:Bs} (h:tx a=tx b):a=b:=by rw [← j2w a,h,j2w]
theorem q1j (s:Bs):tx (inN s)=[105,110]++46::tx s:=by rw [inN,y6g];rfl
theorem j1h (s:Bs) (k:Nat):tx (wM s k)=tx s++47::y0s (k:Int):=by rw [wM,y6g,y6g,y0t,tx_ofTx];simp [tx]
theorem q1k (f x:Bs):tx (vrN f x)=tx f++46::tx x:=by rw [vrN,y6g,y6g];simp [tx]
theorem inN_inj {a b:Bs} (h:inN a=inN b):a=b:=by
 have:=congrArg tx h
 rw [q1j,q1j] at this
 exact y6h (z9l (by decide) (by decide) this).2
theorem j3m {f g x y:Bs} (hf:yU f=true) (hg:yU g=true) (h:vrN f x=vrN g y):f=g∧x=y:=by
 have:=congrArg tx h
 rw [q1k,q1k] at this
 obtain ⟨h1,h2⟩:=z9l (wF (.inl (kO hf))).1 (wF (.inl (kO hg))).1 this
 exact ⟨y6h h1,y6h h2⟩
theorem q5c {s t:Bs} {j k:Nat} (hs:qC s=true) (ht:qC t=true) (hj:j < 9223372036854775808) (hk:k < 9223372036854775808) (h:wM s j=wM t k):s=t∧j=k:=by
 have:=congrArg tx h
 rw [j1h,j1h] at this
 obtain ⟨h1,h2⟩:=z9l (wF (.inr (q4o hs))).2 (wF (.inr (q4o ht))).2 this
 refine ⟨y6h h1,?_⟩
 have e:nS (j:Int)=nS (k:Int):=by rw [y0t,y0t,h2]
 have h3:=q5u (n:=(j:Int)) ⟨by omega,by omega⟩
 rw [e,q5u (n:=(k:Int)) ⟨by omega,by omega⟩] at h3
 simp only [Option.some.injEq] at h3;omega
theorem z5b {f x g:Bs} (hg:yU g=true):vrN f x≠g:=fun h=>by
 have:=(wF (.inl (kO hg))).1
 rw [← h,q1k] at this;exact this (by simp)
theorem j5g {x g:Bs} (hg:yU g=true):inN x≠g:=fun h=>by
 have:=(wF (.inl (kO hg))).1
 rw [← h,q1j] at this;exact this (by simp)
theorem j5h {x f y:Bs} (hf:yU f=true):inN x≠vrN f y:=fun h=>by
 have:=congrArg tx h
 rw [q1j,q1k] at this
 have e:=(z9l (by decide) (wF (.inl (kO hf))).1 this).1
 have e2:f=⟨#[105,110]⟩:=y6h (e.symm.trans rfl)
 rw [e2] at hf;exact absurd hf (by decide)
theorem z8s (s:Bs) (k:Nat):(47:UInt8)∈tx (wM s k):=by rw [j1h];simp
theorem in_no {x:Bs} (hx:yU x=true):(47:UInt8)∉tx (inN x):=by
 rw [q1j]
 have:=(wF (.inl (kO hx))).2
 simp [this]
theorem vr_no {f x:Bs} (hf:yU f=true) (hx:yU x=true):(47:UInt8)∉tx (vrN f x):=by
 rw [q1k]
 have h1:=(wF (.inl (kO hf))).2
 have h2:=(wF (.inl (kO hx))).2
 simp [h1,h2]
theorem nY {α β:Type} {f:α→β}:∀{l:List α},(∀a∈l,∀b∈l,f a=f b→a=b)→l.Nodup→(l.map f).Nodup
 | [],_,_=>by simp
 | x::l,h,hn=>by
  obtain ⟨h1,h2⟩:=List.nodup_cons.1 hn
  rw [List.map_cons,List.nodup_cons]
  refine ⟨fun hc =>?_,nY (fun a ha b hb=>h a (List.mem_cons_of_mem _ ha) b (List.mem_cons_of_mem _ hb)) h2⟩
  obtain ⟨y,hy,e⟩:=List.mem_map.1 hc
  exact h1 (h y (List.mem_cons_of_mem _ hy) x List.mem_cons_self e▸hy)
theorem uU {α β γ:Type} {f:α→List β} {key:α→γ}:∀{l:List α},(l.map key).Nodup→(∀a∈l,(f a).Nodup)→(∀a∈l,∀b∈l,∀x,x∈f a→x∈f b→key a=key b)→(l.flatMap f).Nodup
 | [],_,_,_=>by simp
 | a::l,hk,hf,hd=>by
  rw [List.map_cons] at hk
  obtain ⟨h1,h2⟩:=List.nodup_cons.1 hk
  rw [List.flatMap_cons,List.nodup_append]
  refine ⟨hf a List.mem_cons_self,uU h2 (fun b hb=>hf b (List.mem_cons_of_mem _ hb)) (fun b hb c hc=>hd b (List.mem_cons_of_mem _ hb) c (List.mem_cons_of_mem _ hc)),fun x hx y hy e =>?_⟩
  subst e
  obtain ⟨b,hb,hxb⟩:=List.mem_flatMap.1 hy
  exact h1 (by rw [hd a List.mem_cons_self b (List.mem_cons_of_mem _ hb) x hx hxb];exact List.mem_map_of_mem hb)
structure FunOk (c:Core) (f:Fun):Prop where
 name:yU f.name=true
 nodup:(f.params.map Param.name++yC f.body).Nodup
 names:∀v∈f.params.map Param.name++yC f.body,yU v=true
 ty:Tyd (yL c) (sN f.params) f.body f.result
theorem data_no {c:Core} (h:Right c):zK (yL c).datas sNo=none:=by
 cases hg:zK (yL c).datas sNo with
 | none=>rfl
 | some d =>
  rw [h.datas] at hg
  obtain ⟨x,hx,e,_⟩:=kJ hg
  have:=(h.dN x hx).1
  rw [e,q5x] at this;cases this
theorem y0f {c:Core} (h:Right c) {f:Fun} (hf:f∈c.funs):FunOk c f:=by
 have h1:=h.fOk f hf
 simp only [mE,Bool.and_eq_true,decide_eq_true_eq] at h1
 obtain ⟨n1,_,n3⟩:=z0r h1.1.2
 have hn:=jG n1
 have hne:f.result≠sNo:=type_ne h h1.1.1.2
 refine ⟨h.fN f hf,n1,n3,?_⟩
 have:=z4y (yL c) (data_no h) _ f.body (sN f.params) (Nat.lt_succ_self _) hn.2.1 (fun m hm=>by
  rw [q0z,cD (fun hp=>hn.2.2 m hp hm)];rfl) (by rw [h1.2];exact hne)
 rwa [h1.2] at this
section
variable {c:Core}
theorem mem_in {p:Param} (h:p∈c.inputs):inN p.name∈zD c:=List.mem_append_left _ (List.mem_append_left _ (List.mem_map_of_mem (f:=fun p=>inN p.name) h))
theorem q2u {d:Data} {x:Con} {k:Nat} (hd:d∈c.datas) (hx:x∈d.cons) (hk:k < x.fields.length):wM x.name k∈zD c :=
 List.mem_append_left _ (List.mem_append_right _ (List.mem_flatMap.2 ⟨d,hd,List.mem_flatMap.2 ⟨x,hx,List.mem_map_of_mem (List.mem_range.2 hk)⟩⟩))
theorem mem_fn {f:Fun} (h:f∈c.funs):f.name∈zD c:=List.mem_append_right _ (List.mem_flatMap.2 ⟨f,h,List.mem_cons_self⟩)
theorem mem_vr {f:Fun} {v:Bs} (h:f∈c.funs) (hv:v∈f.params.map Param.name++yC f.body):vrN f.name v∈zD c:=by
 refine List.mem_append_right _ (List.mem_flatMap.2 ⟨f,h,List.mem_cons_of_mem _ ?_⟩)
 rw [List.mem_append] at hv ⊢
 rcases hv with hv | hv
 ·obtain ⟨p,hp,rfl⟩:=List.mem_map.1 hv
  exact .inl (List.mem_map_of_mem (f:=fun p=>vrN f.name p.name) hp)
 ·exact .inr (List.mem_map_of_mem hv)
theorem j6h {n:Bs} (h:n∈zD c):(∃p∈c.inputs,n=inN p.name)∨(∃d∈c.datas,∃x∈d.cons,∃k,k < x.fields.length∧n=wM x.name k)∨(∃f∈c.funs,n=f.name∨∃v∈f.params.map Param.name++yC f.body,n=vrN f.name v):=by
 rw [zD,List.mem_append,List.mem_append] at h
 rcases h with (h | h) | h
 ·obtain ⟨p,hp,e⟩:=List.mem_map.1 h;exact .inl ⟨p,hp,e.symm⟩
 ·obtain ⟨d,hd,h⟩:=List.mem_flatMap.1 h
  obtain ⟨x,hx,h⟩:=List.mem_flatMap.1 h
  obtain ⟨k,hk,e⟩:=List.mem_map.1 h
  exact .inr (.inl ⟨d,hd,x,hx,k,List.mem_range.1 hk,e.symm⟩)
 ·obtain ⟨f,hf,h⟩:=List.mem_flatMap.1 h
  refine .inr (.inr ⟨f,hf,?_⟩)
  rcases List.mem_cons.1 h with e | h
  ·exact .inl e
  ·rw [List.mem_append] at h
   rcases h with h | h
   ·obtain ⟨p,hp,e⟩:=List.mem_map.1 h;exact .inr ⟨p.name,List.mem_append_left _ (List.mem_map_of_mem hp),e.symm⟩
   ·obtain ⟨v,hv,e⟩:=List.mem_map.1 h;exact .inr ⟨v,List.mem_append_right _ hv,e.symm⟩
theorem z0t (h:Right c) {d:Data} {x:Con} (hd:d∈c.datas) (hx:x∈d.cons):qC x.name=true:=(h.dN d (List.mem_cons_of_mem _ hd)).2.2.2 x hx
theorem q8m (h:Right c):((c.datas.flatMap Data.cons).map Con.name).Nodup:=by
 have:=h.cU
 rw [List.map_cons,List.flatten_cons] at this
 have h2:=(List.nodup_append.1 this).2.1
 rw [List.map_flatMap]
 exact h2
theorem q6i (h:Right c) (hl:xF c=false):(zD c).Nodup:=by
 have hfl:∀d∈c.datas,∀x∈d.cons,x.fields.length≤16:=fun d hd x hx=>by
  simp only [xF,Bool.or_eq_false_iff] at hl
  have h1:(c.datas.any z5o)=false:=by simp_all
  have h2:=List.any_eq_false.1 h1 d hd
  simp only [z5o,Bool.or_eq_true,not_or,decide_eq_true_eq,List.any_eq_true,not_exists,not_and] at h2
  have:=h2.2 x hx;omega
 have hfun:∀f∈c.funs,FunOk c f:=fun f hf=>y0f h hf
 rw [zD,List.nodup_append,List.nodup_append]
 refine ⟨⟨?_,?_,?_⟩,?_,?_⟩
 ·have:=h.iU
  rw [show (c.inputs.map fun p=>inN p.name)=(c.inputs.map Param.name).map inN by rw [List.map_map];rfl]
  exact nY (fun a _ b _ e=>inN_inj e) this
 ·have e:c.datas.flatMap y6t=(c.datas.flatMap Data.cons).flatMap fun x=>z9y x.name x.fields.length:=by
   rw [List.flatMap_assoc];rfl
  have hm:∀x∈c.datas.flatMap Data.cons,qC x.name=true∧x.fields.length≤16:=fun x hx=>by
   obtain ⟨d,hd,hx⟩:=List.mem_flatMap.1 hx
   exact ⟨z0t h hd hx,hfl d hd x hx⟩
  rw [e]
  refine uU (key:=Con.name) (q8m h) (fun x hx =>?_) (fun x hx y hy z hz hz' =>?_)
  ·obtain ⟨c1,c2⟩:=hm x hx
   exact nY (fun a ha b hb e=>(q5c c1 c1 (by have:=List.mem_range.1 ha;omega) (by have:=List.mem_range.1 hb;omega) e).2) List.nodup_range
  ·obtain ⟨i,hi,rfl⟩:=List.mem_map.1 hz
   obtain ⟨j,hj,e⟩:=List.mem_map.1 hz'
   have:=List.mem_range.1 hi;have:=List.mem_range.1 hj
   have:=(hm x hx).2;have:=(hm y hy).2
   exact (q5c (hm y hy).1 (hm x hx).1 (by omega) (by omega) e).1.symm
 ·intro a ha b hb e
  subst e
  obtain ⟨p,hp,rfl⟩:=List.mem_map.1 ha
  obtain ⟨d,hd,hb⟩:=List.mem_flatMap.1 hb
  obtain ⟨x,hx,hb⟩:=List.mem_flatMap.1 hb
  obtain ⟨k,hk,e⟩:=List.mem_map.1 hb
  exact in_no (h.iN p hp) (by have:=z8s x.name k;rw [e] at this;exact this)
 ·have hu:=h.fU
  refine uU (key:=Fun.name) hu (fun f hf =>?_) (fun f hf g hg x hx hx' =>?_)
  ·have F:=hfun f hf
   have e:((f.params.map fun p=>vrN f.name p.name)++(yC f.body).map (vrN f.name))=(f.params.map Param.name++yC f.body).map (vrN f.name):=by
    rw [List.map_append,List.map_map];rfl
   rw [uD,e,List.nodup_cons]
   refine ⟨fun hc =>?_,nY (fun a _ b _ e=>(j3m F.name F.name e).2) F.nodup⟩
   obtain ⟨v,_,e⟩:=List.mem_map.1 hc
   exact z5b F.name e
  ·have F:=hfun f hf;have G:=hfun g hg
   have key:∀(k:Fun),x∈uD k→x=k.name∨∃v,x=vrN k.name v:=fun k hk=>by
    rcases List.mem_cons.1 hk with e | hk
    ·exact .inl e
    ·rw [List.mem_append] at hk
     rcases hk with hk | hk
     ·obtain ⟨p,_,e⟩:=List.mem_map.1 hk;exact .inr ⟨p.name,e.symm⟩
     ·obtain ⟨v,_,e⟩:=List.mem_map.1 hk;exact .inr ⟨v,e.symm⟩
   rcases key f hx with e1 | ⟨v,e1⟩
   ·rcases key g hx' with e2 | ⟨u,e2⟩
    ·exact e1.symm.trans e2
    ·exact absurd (e2.symm.trans e1) (z5b F.name)
   ·rcases key g hx' with e2 | ⟨u,e2⟩
    ·exact absurd (e1.symm.trans e2) (z5b G.name)
    ·exact (j3m F.name G.name (e1.symm.trans e2)).1
 ·intro a ha b hb e
  subst e
  obtain ⟨f,hf,hb⟩:=List.mem_flatMap.1 hb
  have F:=hfun f hf
  have hb':a=f.name∨∃v∈f.params.map Param.name++yC f.body,a=vrN f.name v:=by
   rcases List.mem_cons.1 hb with e | hb
   ·exact .inl e
   ·rw [List.mem_append] at hb
    rcases hb with hb | hb
    ·obtain ⟨p,hp,e⟩:=List.mem_map.1 hb;exact .inr ⟨p.name,List.mem_append_left _ (List.mem_map_of_mem hp),e.symm⟩
    ·obtain ⟨v,hv,e⟩:=List.mem_map.1 hb;exact .inr ⟨v,List.mem_append_right _ hv,e.symm⟩
  rw [List.mem_append] at ha
  rcases ha with ha | ha
  ·obtain ⟨p,hp,rfl⟩:=List.mem_map.1 ha
   rcases hb' with e | ⟨v,_,e⟩
   ·exact j5g F.name e
   ·exact j5h F.name e
  ·obtain ⟨d,hd,ha⟩:=List.mem_flatMap.1 ha
   obtain ⟨x,hx,ha⟩:=List.mem_flatMap.1 ha
   obtain ⟨k,hk,rfl⟩:=List.mem_map.1 ha
   rcases hb' with e | ⟨v,hv,e⟩
   ·have:=z8s x.name k;rw [e] at this;exact (wF (.inl (kO F.name))).2 this
   ·have:=z8s x.name k;rw [e] at this;exact vr_no F.name (F.names v hv) this
theorem x2a (h:Right c):sE∉zD c:=fun hc=>by
 rcases j6h hc with ⟨p,_,e⟩ | ⟨d,_,x,_,k,_,e⟩ | ⟨f,hf,e | ⟨v,_,e⟩⟩
 ·have:=congrArg tx e;rw [q1j] at this;cases this
 ·have:=z8s x.name k;rw [← e] at this;cases this
 ·exact q5n (.inl (kO (h.fN f hf))) e.symm
 ·have:=congrArg tx e;rw [q1k] at this
  have h2:(46:UInt8)∈tx sE:=by rw [this];simp
  cases h2
theorem x2e:∀{l:List Fun} {m:Pars},(l.map Fun.name).Nodup→(∀f∈l,zK m f.name=none)→∀f∈l,zK (l.foldl (fun m f=>qX m f.name f.params) m) f.name=some f.params:=by
 have keep:∀(l:List Fun) (m:Pars) (n:Bs),n∉l.map Fun.name→zK (l.foldl (fun m f=>qX m f.name f.params) m) n=zK m n:=by
  intro l
  induction l with
  | nil=>intro m n _;rfl
  | cons g l ih =>
   intro m n hn
   rw [List.map_cons,List.mem_cons,not_or] at hn
   rw [List.foldl_cons,ih _ _ hn.2,jX,if_neg hn.1]
 intro l
 induction l with
 | nil=>intro m _ _ f hf;cases hf
 | cons g l ih =>
  intro m hn hm f hf
  rw [List.map_cons] at hn
  obtain ⟨h1,h2⟩:=List.nodup_cons.1 hn
  rw [List.foldl_cons]
  rcases List.mem_cons.1 hf with rfl | hf
  ·rw [keep _ _ _ h1,jX,if_pos rfl]
  ·refine ih h2 (fun k hk =>?_) f hf
   rw [jX,if_neg]
   ·exact hm k (List.mem_cons_of_mem _ hk)
   ·intro e;exact h1 (e▸List.mem_map_of_mem hk)
theorem j2y (h:Right c) {g:Bs} {f:Fun} (hg:zK (yL c).funs g=some f):zK (wY c) g=some f.params:=by
 rw [h.funs] at hg
 obtain ⟨x,hx,e1,e2⟩:=kJ hg
 have e3:x=f:=e2
 subst e3;subst e1
 exact x2e h.fU (fun _ _=>rfl) x hx
theorem ends_ok (h:Right c) {f:Fun} (hf:f∈c.funs):Ends (yL c) (wY c) f.name (f.params.map Param.name++yC f.body) (fun n=>n∈zD c) where
 var v hv:=mem_vr hf hv
 inp i t hi:=by
  rw [h.inputs] at hi
  obtain ⟨p,hp,e,_⟩:=kJ hi
  exact e▸mem_in hp
 fn g k hg:=by
  have hp:=j2y h hg
  rw [h.funs] at hg
  obtain ⟨x,hx,e1,e2⟩:=kJ hg
  have e3:x=k:=e2
  subst e3;subst e1
  exact ⟨mem_fn hx,fun p hpp=>mem_vr hx (List.mem_append_left _ (List.mem_map_of_mem hpp)),hp⟩
 con k m hm j hj:=by
  rw [h.cons] at hm
  obtain ⟨d,hd,e1,e2,e3⟩:=y8x hm
  rcases List.mem_cons.1 hd with rfl | hd
  ·simp only [truthsD,List.mem_cons,List.not_mem_nil,or_false] at e2
   rcases e2 with e | e <;> (rw [e] at hj;simp at hj)
  ·rw [← e3];exact q2u hd e2 hj
 arm t d hd x hx j hj:=by
  rw [h.datas] at hd
  obtain ⟨y,hy,_,e2⟩:=kJ hd
  have e3:y=d:=e2
  subst e3
  rcases List.mem_cons.1 hy with rfl | hy
  ·simp only [truthsD,List.mem_cons,List.not_mem_nil,or_false] at hx
   rcases hx with e | e <;> (rw [e] at hj;simp at hj)
  ·exact q2u hy hx hj
theorem z3t {f:Fun}:InV (f.params.map Param.name++yC f.body) (sN f.params):=fun n x hx=>by
 rw [q0z] at hx
 by_cases hn:n∈f.params.map Param.name
 ·exact List.mem_append_left _ hn
 ·rw [cD hn] at hx;cases hx
theorem q0f {i:Param} {x:Bs} {z:Flow}:∀{l:List Bs} {k:Nat},z∈cT i x k l→∃j,j < l.length∧z=(inN i.name,wM x (k+j))
 | [],_,h=>by cases h
 | t::l,k,h=>by
  simp only [cT,List.mem_append] at h
  rcases h with h | h
  ·split at h
   ·rw [List.mem_singleton] at h;exact ⟨0,by simp,h⟩
   ·cases h
  ·obtain ⟨j,h1,h2⟩:=q0f h
   exact ⟨j+1,by simp;omega,by rw [h2,show k+1+j=k+(j+1) by omega]⟩
theorem j7o (h:Right c):∀a b,(a,b)∈xI c→a∈zD c∧b∈zD c:=fun a b hab=>by
 rw [xI,List.mem_append] at hab
 rcases hab with hab | hab
 ·obtain ⟨i,hi,hab⟩:=List.mem_flatMap.1 hab
  obtain ⟨d,hd,hab⟩:=List.mem_flatMap.1 hab
  unfold z5n at hab
  split at hab
  ·obtain ⟨x,hx,hab⟩:=List.mem_flatMap.1 hab
   obtain ⟨j,hj,e⟩:=q0f hab
   cases e
   rw [Nat.zero_add]
   exact ⟨mem_in hi,q2u hd hx hj⟩
  ·cases hab
 ·obtain ⟨f,hf,hab⟩:=List.mem_flatMap.1 hab
  have F:=y0f h hf
  have E:=ends_ok h hf
  have hb:∀b∈yC f.body,b∈f.params.map Param.name++yC f.body:=fun b hb=>List.mem_append_right _ hb
  rw [cS,List.mem_append] at hab
  rcases hab with hab | hab
  ·exact z8v E F.ty z3t hb (mem_fn hf) a b hab
  ·exact j4w E F.ty z3t hb a b hab
theorem x1c (h:Right c) (hl:xF c=false):GOk (zD c) (zY c) where
 nd:=q6i h hl
 ends a b hab:=j7o h a b ((y4n _ _).1 hab)
 ne:=x2a h
theorem q4i (h:Right c) {f:Fun} (hf:f∈c.funs):pJ (wY c) f.body:=flow_ok (fun _ _ hg=>j2y h hg) (y0f h hf).ty
end
end Go.Sw
