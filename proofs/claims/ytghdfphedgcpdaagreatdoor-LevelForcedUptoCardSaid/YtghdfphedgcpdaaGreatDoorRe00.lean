/- LevelForced: for every program and every two lists of nodes, of at most 1048576 cells each in all, the law returns true; the statement levelForcedUptoCardSaid, as it is given; nothing is assumed beyond it. -/
import Derived.Test.YtghdfphedgcpdaaGreatDoorProg
import Derived.JoinedCond
import Derived.Deep.DeepHandedRow
import Derived.Test.YtghdfphedgcpdaaGreatDoorX03
import Derived.Test.YtghdfphedgcpdaaGreatDoorX08
import Derived.Test.YtghdfphedgcpdaaGreatDoorX12
import Derived.Test.YtghdfphedgcpdaaGreatDoorX13
set_option linter.unusedVariables false
set_option linter.unusedSimpArgs false
namespace Go.Sw
open Go.Proofs
set_option maxRecDepth 20000
set_option maxHeartbeats 4000000
theorem z1d {Φ:Fz} {K:List Res} {w:World} {v0:Value} {l:List Bs} {s:Bs} (rpl:SliceOf RStr Φ 1 v0 l) (hm:Mem Φ K w) :
  Calls Tryz.prog 18 (List.toArray [v0,.string s]) w (fun ee w'=>ee=.returned (.bool (tQ l s))∧Mem Φ K w'):=by
 obtain ⟨p0,c0,rfl,hm0,hn0⟩:=rpl.fm
 refine zN Tryz.func18 Tryz.ntmps18 fun Q hQ a he =>?_
 refine go fun a he =>?_
 refine yG (he.ks [0,1]) hm (fun R mm a w=>∃(i:Nat),mm=l.length - i∧R Φ [(5,.int .i64 ((i:Nat):Int))] [] a w∧(tQ l s=tQ (l.drop i) s)) (l.length - 0) ⟨0,rfl,⟨he.pk,hm⟩,rfl⟩ ?_
 clear hm he
 rintro mm a w ⟨i,hmu,⟨he,hm⟩,hI5⟩ L4 hL4
 by_cases h8:i < l.length
 refine go fun a he =>?_
 obtain ⟨q11,rfl,x12,hx13,cs14,hl15,ha16,hr17⟩:=rpl.el hn0 h8
 obtain rfl:cs14=[.string x12]:=hr17
 by_cases h18:x12=s
 refine zF ?_
 exact yE hm (by rw [hI5,zA hx13,z3r];simp [*])
 refine go fun a he =>?_
 refine hL4 _ _ _ (by subst hmu;omega) ⟨(i+1),rfl,⟨he.pk,hm⟩,?_⟩
 rw [hI5,zA hx13,z3r];simp [*]
 refine zF ?_
 exact yE hm (by rw [hI5,zH h8];rfl)
end Go.Sw

namespace Go.Sw
section
variable {c:Core} {a b l:List Bs} {s x:Bs} {i:Nat}
theorem hasB_in:∀{l:List Bs} {s:Bs},tQ l s=true↔s∈l
 | [],s=>by simp [tQ]
 | y::l,s=>by
  rw [z3r,List.mem_cons]
  by_cases h:y=s
  ·simp [h]
  ·have h2:¬s=y:=fun e=>h e.symm
   simp [h,h2,hasB_in (l:=l)]
theorem gok (h0:zP c=0):GOk (zD c) (zY c):=(yJ h0).gok
theorem q5r (ha:xT c a=true):∀r∈zO c++a,r∈zD c:=fun r hr=>by
 rcases List.mem_append.1 hr with h | h
 ·exact dA r h
 ·exact of_decide_eq_true (List.all_eq_true.1 ha r h)
theorem nH (h0:zP c=0) (ha:xT c a=true):jP (zD c) (zY c) (zO c) (zZ c a)=true :=
 q3o (gok h0) (fun r hr=>List.mem_append_left _ hr) (q5r ha)
theorem y5s (c:Core):cG c=zZ c []:=by rw [cG,zZ,List.append_nil]
theorem aF (h0:zP c=0):pZ c l=0↔jP (zD c) (zY c) (zO c) l=true:=by
 cases h:jP (zD c) (zY c) (zO c) l
 ·rw [y8u h0 h];simp
 ·rw [y8v h0 h];simp
theorem nV (h0:zP c=0) (ha:xT c a=true):pZ c (zZ c a)=0:=(aF h0).2 (nH h0 ha)
theorem mV {r:List Bs} (h:mD c l=.ok r):zP c=0∧xT c l=true∧r=zZ c l:=by
 unfold mD at h
 by_cases h0:zP c=0
 ·rw [if_pos h0] at h
  by_cases ha:xT c l=true
  ·rw [if_pos ha] at h;cases h;exact ⟨h0,ha,rfl⟩
  ·rw [if_neg ha] at h;cases h
 ·rw [if_neg h0] at h;cases h
end
end Go.Sw

namespace Go.Sw
open Go.Proofs
set_option maxRecDepth 20000
set_option maxHeartbeats 4000000
end Go.Sw

namespace Go.Sw
open Go.Proofs
set_option maxRecDepth 20000
set_option maxHeartbeats 4000000
section
variable {c:Core} {n x y:Bs} {p:List Bs} {i:Nat}
end
end Go.Sw

namespace Go.Sw
open Go.Proofs
set_option maxRecDepth 20000
set_option maxHeartbeats 4000000
section
variable {Φ:Fz} {K:List Res} {w:World} {d0:List Value} {c:Core} {n:Bs} {v:Value} {p:List Bs}
end
end Go.Sw

namespace Go.Sw
open Go.Proofs.Tryz
open Go.Proofs
set_option maxRecDepth 20000
set_option maxHeartbeats 4000000
section
variable {c:Core} {la lb:List Bs} {x:Bs} {i:Nat}
theorem aU (h0:zP c=0) (ha:xT c la=true):x∈zZ c la↔z6e (yY (zY c)) (zO c++la) x:=nK (gok h0) (q5r ha) x
theorem q2j (h0:zP c=0) (ha:xT c la=true):xT c (zZ c la)=true:=List.all_eq_true.2 fun y hy=>decide_eq_true ((mem_named.1 hy).1)
theorem z2m {nx:Next} {rs ts:List Bs} (h:∀r∈ts,z6e nx rs r) {s:Bs} (hs:z6e nx ts s):z6e nx rs s:=by
 obtain ⟨k,hw⟩:=hs
 induction hw with
 | root hx=>exact h _ hx
 | step _ hy ih=>obtain ⟨k,hk⟩:=ih;exact ⟨k+1,.step hk hy⟩
theorem q5i (h0:zP c=0) (ha:xT c la=true):zZ c (zZ c la)=zZ c la:=by
 show jO _ _=jO _ _
 unfold jO
 refine List.filter_congr fun y _ =>?_
 have h:(zK (yB (yY (zY c)) (zO c++zZ c la)) y).isSome=true↔(zK (yB (yY (zY c)) (zO c++la)) y).isSome=true:=by
  rw [wQ,wQ]
  constructor
  exact z2m fun r hr=>by
   rcases List.mem_append.1 hr with h | h
   exact ⟨0,.root (List.mem_append_left _ h)⟩
   exact (aU h0 ha).1 h
  exact z2m fun r hr=>by
   rcases List.mem_append.1 hr with h | h
   exact ⟨0,.root (List.mem_append_left _ h)⟩
   exact ⟨0,.root (List.mem_append_right _ ((aU h0 ha).2 ⟨0,.root (List.mem_append_right _ h)⟩))⟩
 exact Bool.eq_iff_iff.2 h
theorem y9t:xT c (la++lb)=(xT c la&&xT c lb):=by simp [xT]
theorem y0d (h0:zP c=0) (ha:xT c la=true) (hx:la[i]? = some x):tQ (zZ c la) x=true:=hasB_in.2 ((aU h0 ha).2 ⟨0,.root (List.mem_append_right _ (List.mem_of_getElem? hx))⟩)
theorem q5j (h0:zP c=0) (hab:xT c (la++lb)=true) (hx:(zZ c la)[i]? = some x):tQ (zZ c (la++lb)) x=true:=by
 have ha:xT c la=true:=by rw [y9t,Bool.and_eq_true] at hab;exact hab.1
 refine hasB_in.2 ((aU h0 hab).2 (q3c (fun r hr =>?_) ((aU h0 ha).1 (List.mem_of_getElem? hx))))
 rcases List.mem_append.1 hr with h | h
 exact List.mem_append_left _ h
 exact List.mem_append_right _ (List.mem_append_left _ h)
theorem oV {e:Int} (h0:zP c=0) (h:mD c la=.error e):xT c la=false∧(110:Int)=e:=by
 cases hb:xT c la with
 | true=>rw [gN h0 hb] at h;cases h
 | false=>rw [y0c h0 hb] at h;cases h;exact ⟨rfl,rfl⟩
variable {Φ:Fz} {K:List Res} {w:World} {d0:List Value} {v:Value}
theorem q8z (h0:zP c=0) (rpc:RCore Φ d0 c) (G:Glob Φ) (hm:Mem Φ K w) :
  Calls prog 20 (List.toArray [.agg d0.toArray,.slice none 0 0]) w (fun ee w'=>∃y:Value,ee=.returned (.tuple (List.toArray [y,.int .i64 0]))∧True∧Mem Φ (.gs y 9 1 (strs (cG c))::K) w'):=by
 have h:=kE rpc (SliceOf.nil 1) (by simp) G yJ hm
 rw [gN h0 rfl,← y5s] at h;exact h
theorem q5h (h0:¬zP c=0) (rpc:RCore Φ d0 c) (G:Glob Φ) (hm:Mem Φ K w) :
  Calls prog 20 (List.toArray [.agg d0.toArray,.slice none 0 0]) w (fun ee w'=>ee=.returned (.tuple (List.toArray [.slice none 0 0,.int .i64 (zP c)]))∧Mem Φ K w'):=by
 have h:=kE rpc (SliceOf.nil 1) (by simp) G yJ hm
 rw [z5m h0] at h;exact h
theorem z1b (h0:zP c=0) (ha:xT c la=true) (rpc:RCore Φ d0 c) (rl:SliceOf RStr Φ 1 v (zZ c la)) (G:Glob Φ) (hm:Mem Φ K w) :
  Calls prog 20 (List.toArray [.agg d0.toArray,v]) w (fun ee w'=>∃y:Value,ee=.returned (.tuple (List.toArray [y,.int .i64 0]))∧True∧Mem Φ (.gs y 9 1 (strs (zZ c la))::K) w'):=by
 have hl:(zZ c la).length≤8796093022208:=Nat.le_trans (Nat.le_trans (uT _ _) (yJ h0).nl) (by decide)
 have h:=kE rpc rl hl G yJ hm
 rw [gN h0 (q2j h0 ha),q5i h0 ha] at h;exact h
end
theorem y1j {Φ:Fz} {K:List Res} {w:World} {d0:List Value} {c:Core} {va vb:Value} {la lb:List Bs} (rpc:RCore Φ d0 c) (ra:SliceOf RStr Φ 1 va la) (rb:SliceOf RStr Φ 1 vb lb) (hal_:la.length≤1048576) (hbl_:lb.length≤1048576) (G:Glob Φ) (hm:Mem Φ K w) :
  Calls prog 7 (List.toArray [.agg d0.toArray,va,vb]) w (fun ee w'=>ee=.returned (.bool true)∧Mem Φ K w'):=by
 have rpc0_:=rpc
 obtain ⟨p3,c4,p9,c10,p15,c16,p21,c22,rfl,h2,h8,h14,h20,hm5,hn6,hm11,hn12,hm17,hn18,hm23,hn24⟩:=RCore.fm rpc
 obtain ⟨p25,c26,rfl,hmx27,hn28⟩:=ra.fm
 obtain ⟨p29,c30,rfl,hmx31,hn32⟩:=rb.fm
 refine zN func7 ntmps7 fun Q hQ a he =>?_
 refine Bx fun b34 w hm a he =>?_
 refine zT call11 (fun w hm a he =>?_) (c:=z2s G (fun _=>yJ) hm)
 refine go fun a he =>?_
 refine st he rfl rfl rfl (qA he rfl call15 (z4s rpc0_ G yJ hm) (fun q37 y38 w hq39 hG40 hm a he =>?_) (fun q37 w hq39 hm a he =>?_))
 obtain ⟨h0,rfl⟩:=q1b hq39
 replace hm:=hm.nf
 refine go fun a he =>?_
 have hm0_:=hm
 clear hm
 obtain ⟨Ψ42,le43,hm,hrow44⟩:=hm0_.freezeRow (i:=0) rfl
 clear hm0_
 replace rpc0_:=RCore.mono _ _ _ _ le43 rpc0_
 replace G:=G.mono le43
 replace ra:=ra.up le43
 replace rb:=rb.up le43
 replace hm:=hm.nf
 have hsl45:SliceOf RStr Ψ42 1 _ ((cG c)):=SliceOf.strs.2 hrow44
 obtain ⟨p46,c47,hv_,hm48,hn49⟩:=hsl45.form (by decide)
 have hmk_:=hm
 clear hm
 subst hv_
 have hm:=hmk_
 clear hmk_
 refine qV call20 (fun y50 w hG51 hm a he =>?_) (c:=q8z h0 rpc0_ G hm)
 refine Qq (fun a he =>?_) (o:=by exact fun he hs=>qF false he rfl rfl rfl)
 refine go fun a he =>?_
 have hm0_:=hm
 clear hm
 obtain ⟨Ψ56,le57,hm,hrow58⟩:=hm0_.freezeRow (i:=0) rfl
 clear hm0_
 replace rpc0_:=RCore.mono _ _ _ _ le57 rpc0_
 replace G:=G.mono le57
 replace ra:=ra.up le57
 replace rb:=rb.up le57
 replace hsl45:=hsl45.up le57
 replace hm:=hm.nf
 have hsl59:SliceOf RStr Ψ56 1 _ ((cG c)):=SliceOf.strs.2 hrow58
 obtain ⟨p60,c61,hv_,hm62,hn63⟩:=hsl59.form (by decide)
 have hmk_:=hm
 clear hm
 subst hv_
 have hm:=hmk_
 clear hmk_
 refine Qq (fun a he =>?_) (o:=by exact fun he hs=>qF false he rfl rfl rfl)
 refine zT call22 (fun w hm a he =>?_) (c:=(show Calls prog _ _ _ (fun ee w'=>ee=.returned (.bool true)∧_) from (hU (cG c))▸aC hsl45 hsl59 hm))
 refine go fun a he =>?_
 refine st he rfl rfl rfl (qA he rfl call20 (kE rpc0_ ra (by omega) G yJ hm) (fun q65 y66 w hq67 hG68 hm a he =>?_) (fun q65 w hq67 hm a he =>?_))
 obtain ⟨h01_,hin1_,rfl⟩:=mV hq67
 replace hm:=hm.nf
 refine go fun a he =>?_
 refine qL [2,0,1,0,1,0,0,1,1,1,1,1] (.q 0 (.q 2 (.q 4 (.e 1 (.e 3 (.e 5 (.e 6 (.q 7 (.q 8 (.q 9 (.q 10 (.q 11 (.done))))))))))))) [0,1] he hm fun w hm =>?_
 refine go fun a he =>?_
 refine d_e he rfl rfl rfl (kC (sz:=1) (cs:=[]) he hm rfl (y8t runUnderlying25 sizeOf9) rfl (by decide) fun v70 w hm _=>⟨fun _=>hm.sn (Fz.Le.refl _),fun a he =>?_⟩)
 refine wL 0 vV (fun v71 w hm a he =>?_) (hr:=(SliceOf.strs.1 ra).rowIn hm.toSees) (h1:=pM _) (hb:=by simp only [yA,List.length_nil];omega)
 refine wL 0 vV (fun v72 w hm a he =>?_) (hr:=(SliceOf.strs.1 rb).rowIn hm.toSees) (h1:=pM _) (hb:=by simp only [List.length_append,List.length_nil,yA];omega)
 rw [List.nil_append,← yZ] at hm
 have hm0_:=hm
 clear hm
 obtain ⟨Ψ73,le74,hm,hrow75⟩:=hm0_.freezeRow (i:=0) rfl
 clear hm0_
 replace rpc0_:=RCore.mono _ _ _ _ le74 rpc0_
 replace G:=G.mono le74
 replace ra:=ra.up le74
 replace rb:=rb.up le74
 replace hm:=hm.nf
 have hsl76:SliceOf RStr Ψ73 1 _ ((la++lb)):=SliceOf.strs.2 hrow75
 obtain ⟨p77,c78,hv_,hm79,hn80⟩:=hsl76.form (by decide)
 have hmk_:=hm
 clear hm
 subst hv_
 have hm:=hmk_
 clear hmk_
 refine d_e he rfl rfl rfl (qA he rfl call20 (kE rpc0_ hsl76 (by rw [List.length_append];omega) G yJ hm) (fun q81 y82 w hq83 hG84 hm=>⟨zU (by kernel_rfl),fun a he =>?_⟩) (fun q81 w hq83 hm=>⟨zU (by kernel_rfl),fun a he =>?_⟩))
 obtain ⟨h02_,hin2_,rfl⟩:=mV hq83
 replace hm:=hm.nf
 refine go fun a he =>?_
 have hm0_:=hm
 clear hm
 obtain ⟨Ψ87,le88,hm,hrow89⟩:=hm0_.freezeRow (i:=1) rfl
 clear hm0_
 replace rpc0_:=RCore.mono _ _ _ _ le88 rpc0_
 replace G:=G.mono le88
 replace ra:=ra.up le88
 replace rb:=rb.up le88
 replace hm:=hm.nf
 have hsl90:SliceOf RStr Ψ87 1 _ ((zZ c la)):=SliceOf.strs.2 hrow89
 obtain ⟨p91,c92,hv_,hm93,hn94⟩:=hsl90.form (by decide)
 have hmk_:=hm
 clear hm
 subst hv_
 have hm:=hmk_
 clear hmk_
 have hm0_:=hm
 clear hm
 obtain ⟨Ψ95,le96,hm,hrow97⟩:=hm0_.freezeRow (i:=0) rfl
 clear hm0_
 replace rpc0_:=RCore.mono _ _ _ _ le96 rpc0_
 replace G:=G.mono le96
 replace ra:=ra.up le96
 replace rb:=rb.up le96
 replace hsl90:=hsl90.up le96
 replace hm:=hm.nf
 have hsl98:SliceOf RStr Ψ95 1 _ ((zZ c (la++lb))):=SliceOf.strs.2 hrow97
 obtain ⟨p99,c100,hv_,hm101,hn102⟩:=hsl98.form (by decide)
 have hmk_:=hm
 clear hm
 subst hv_
 have hm:=hmk_
 clear hmk_
 refine Qq (fun a he =>?_) (o:=by exact fun he hs=>qF false he rfl rfl rfl)
 refine qV call20 (fun y104 w hG105 hm a he =>?_) (c:=z1b h0 hin1_ rpc0_ hsl90 G hm)
 refine go fun a he =>?_
 have hm0_:=hm
 clear hm
 obtain ⟨Ψ108,le109,hm,hrow110⟩:=hm0_.freezeRow (i:=0) rfl
 clear hm0_
 replace rpc0_:=RCore.mono _ _ _ _ le109 rpc0_
 replace G:=G.mono le109
 replace ra:=ra.up le109
 replace rb:=rb.up le109
 replace hsl90:=hsl90.up le109
 replace hsl98:=hsl98.up le109
 replace hm:=hm.nf
 have hsl111:SliceOf RStr Ψ108 1 _ ((zZ c la)):=SliceOf.strs.2 hrow110
 obtain ⟨p112,c113,hv_,hm114,hn115⟩:=hsl111.form (by decide)
 have hmk_:=hm
 clear hm
 subst hv_
 have hm:=hmk_
 clear hmk_
 refine Qq (fun a he =>?_) (o:=by exact fun he hs=>qF false he rfl rfl rfl)
 refine zT call22 (fun w hm a he =>?_) (c:=(show Calls prog _ _ _ (fun ee w'=>ee=.returned (.bool true)∧_) from (hU (zZ c la))▸aC hsl90 hsl111 hm))
 refine zT call16 (fun w hm a he =>?_) (c:=(nV h0 hin1_▸mU rpc0_ hsl90 G yJ hm))
 refine Qq (fun a he =>?_) (o:=by exact fun he hs=>qF false he rfl rfl rfl)
 refine go fun a he =>?_
 refine yG (he.ks [1,7,12,14,15]) hm (fun R mm a w=>∃(i:Nat),mm=la.length - i∧R Ψ108 [(18,.int .i64 ((i:Nat):Int))] [] a w∧(True)) (la.length - 0) ⟨0,rfl,⟨he.pk,hm⟩,trivial⟩ ?_
 clear hm he
 rintro mm a w ⟨i,hmu,⟨he,hm⟩,hI119⟩ L118 hL118
 by_cases h122:i < la.length
 refine go fun a he =>?_
 have hmk_:=hm
 have hek_:=he
 clear hm he
 obtain ⟨q125,rfl⟩:=hn28 (wO h122)
 have hm:=hmk_
 have he:=hek_
 clear hmk_ hek_
 obtain ⟨x126,hx127⟩:=yF h122
 obtain ⟨cs128,hl129,ha130,hr131⟩:=ra.elem hx127
 obtain rfl:cs128=[.string x126]:=hr131
 refine yH call18 (fun hB132 w hm a he =>?_) (fun hB132 w hm a he =>?_) (c:=z1d (l:=(zZ c la)) hsl90 hm)
 refine go fun a he =>?_
 refine hL118 _ _ _ (by subst hmu;omega) ⟨(i+1),rfl,⟨he.pk,hm⟩,?_⟩
 trivial
 refine zF ?_
 replace hm:=hm.le ((((((le43).trans le57).trans le74).trans le88).trans le96).trans le109)
 replace hm:=hm.dl [0]
 rw [y0d h0 hin1_ hx127] at hB132;cases hB132
 refine go fun a he =>?_
 refine yG (he.ks [7,12,14,15]) hm (fun R mm a w=>∃(i:Nat),mm=(zZ c la).length - i∧R Ψ108 [(19,.int .i64 ((i:Nat):Int))] [] a w∧(True)) ((zZ c la).length - 0) ⟨0,rfl,⟨he.pk,hm⟩,trivial⟩ ?_
 clear hm he
 rintro mm a w ⟨i,hmu,⟨he,hm⟩,hI137⟩ L136 hL136
 by_cases h140:i < ((zZ c la)).length
 refine Qq (fun a he =>?_) (o:=by exact fun he hs=>jR true he rfl rfl rfl)
 refine go fun a he =>?_
 have hmk_:=hm
 have hek_:=he
 clear hm he
 obtain ⟨q143,rfl⟩:=hn94 (wO h140)
 have hm:=hmk_
 have he:=hek_
 clear hmk_ hek_
 obtain ⟨x144,hx145⟩:=yF h140
 obtain ⟨cs146,hl147,ha148,hr149⟩:=hsl90.elem hx145
 obtain rfl:cs146=[.string x144]:=hr149
 refine yH call18 (fun hB150 w hm a he =>?_) (fun hB150 w hm a he =>?_) (c:=z1d (l:=(zZ c (la++lb))) hsl98 hm)
 refine go fun a he =>?_
 refine hL136 _ _ _ (by subst hmu;omega) ⟨(i+1),rfl,⟨he.pk,hm⟩,?_⟩
 trivial
 refine zF ?_
 replace hm:=hm.le ((((((le43).trans le57).trans le74).trans le88).trans le96).trans le109)
 replace hm:=hm.dl [0]
 rw [q5j h0 hin2_ hx145] at hB150;cases hB150
 refine zF ?_
 replace hm:=hm.le ((((((le43).trans le57).trans le74).trans le88).trans le96).trans le109)
 replace hm:=hm.dl [0]
 exact ⟨rfl,hm⟩
 obtain ⟨hbad2_,rfl⟩:=oV h0 hq83
 refine go fun a he =>?_
 have hm0_:=hm
 clear hm
 obtain ⟨Ψ155,le156,hm,hrow157⟩:=hm0_.freezeRow (i:=0) rfl
 clear hm0_
 replace rpc0_:=RCore.mono _ _ _ _ le156 rpc0_
 replace G:=G.mono le156
 replace ra:=ra.up le156
 replace rb:=rb.up le156
 replace hm:=hm.nf
 have hsl158:SliceOf RStr Ψ155 1 _ ((zZ c la)):=SliceOf.strs.2 hrow157
 obtain ⟨p159,c160,hv_,hm161,hn162⟩:=hsl158.form (by decide)
 have hmk_:=hm
 clear hm
 subst hv_
 have hm:=hmk_
 clear hmk_
 refine Qq (fun a he =>?_) (o:=by exact fun he hs=>qF false he rfl rfl rfl)
 refine qV call20 (fun y164 w hG165 hm a he =>?_) (c:=z1b h0 hin1_ rpc0_ hsl158 G hm)
 refine go fun a he =>?_
 have hm0_:=hm
 clear hm
 obtain ⟨Ψ168,le169,hm,hrow170⟩:=hm0_.freezeRow (i:=0) rfl
 clear hm0_
 replace rpc0_:=RCore.mono _ _ _ _ le169 rpc0_
 replace G:=G.mono le169
 replace ra:=ra.up le169
 replace rb:=rb.up le169
 replace hsl158:=hsl158.up le169
 replace hm:=hm.nf
 have hsl171:SliceOf RStr Ψ168 1 _ ((zZ c la)):=SliceOf.strs.2 hrow170
 obtain ⟨p172,c173,hv_,hm174,hn175⟩:=hsl171.form (by decide)
 have hmk_:=hm
 clear hm
 subst hv_
 have hm:=hmk_
 clear hmk_
 refine Qq (fun a he =>?_) (o:=by exact fun he hs=>qF false he rfl rfl rfl)
 refine zT call22 (fun w hm a he =>?_) (c:=(show Calls prog _ _ _ (fun ee w'=>ee=.returned (.bool true)∧_) from (hU (zZ c la))▸aC hsl158 hsl171 hm))
 refine zT call16 (fun w hm a he =>?_) (c:=(nV h0 hin1_▸mU rpc0_ hsl158 G yJ hm))
 refine Qq (fun a he =>?_) (o:=by exact fun he hs=>qF false he rfl rfl rfl)
 refine go fun a he =>?_
 refine yG (he.ks [1,7,12,14,15]) hm (fun R mm a w=>∃(i:Nat),mm=la.length - i∧R Ψ168 [(18,.int .i64 ((i:Nat):Int))] [] a w∧(True)) (la.length - 0) ⟨0,rfl,⟨he.pk,hm⟩,trivial⟩ ?_
 clear hm he
 rintro mm a w ⟨i,hmu,⟨he,hm⟩,hI179⟩ L178 hL178
 by_cases h182:i < la.length
 refine go fun a he =>?_
 have hmk_:=hm
 have hek_:=he
 clear hm he
 obtain ⟨q185,rfl⟩:=hn28 (wO h182)
 have hm:=hmk_
 have he:=hek_
 clear hmk_ hek_
 obtain ⟨x186,hx187⟩:=yF h182
 obtain ⟨cs188,hl189,ha190,hr191⟩:=ra.elem hx187
 obtain rfl:cs188=[.string x186]:=hr191
 refine yH call18 (fun hB192 w hm a he =>?_) (fun hB192 w hm a he =>?_) (c:=z1d (l:=(zZ c la)) hsl158 hm)
 refine go fun a he =>?_
 refine hL178 _ _ _ (by subst hmu;omega) ⟨(i+1),rfl,⟨he.pk,hm⟩,?_⟩
 trivial
 refine zF ?_
 replace hm:=hm.le (((((le43).trans le57).trans le74).trans le156).trans le169)
 replace hm:=hm.dl [0]
 rw [y0d h0 hin1_ hx187] at hB192;cases hB192
 refine go fun a he =>?_
 refine yG (he.ks [7,12,14,15]) hm (fun R mm a w=>∃(i:Nat),mm=(zZ c la).length - i∧R Ψ168 [(19,.int .i64 ((i:Nat):Int))] [] a w∧(True)) ((zZ c la).length - 0) ⟨0,rfl,⟨he.pk,hm⟩,trivial⟩ ?_
 clear hm he
 rintro mm a w ⟨i,hmu,⟨he,hm⟩,hI197⟩ L196 hL196
 by_cases h200:i < ((zZ c la)).length
 refine Qq (fun a he =>?_) (o:=by exact fun he hs=>jR false he rfl rfl rfl)
 refine zF ?_
 replace hm:=hm.le (((((le43).trans le57).trans le74).trans le156).trans le169)
 replace hm:=hm.dl [0]
 exact ⟨rfl,hm⟩
 refine zF ?_
 replace hm:=hm.le (((((le43).trans le57).trans le74).trans le156).trans le169)
 replace hm:=hm.dl [0]
 exact ⟨rfl,hm⟩
 obtain ⟨hbad1_,rfl⟩:=oV h0 hq67
 refine go fun a he =>?_
 refine qL [2,0,1,0,1,0,0,1,1,1,1,1] (.q 0 (.q 2 (.q 4 (.e 1 (.e 3 (.e 5 (.e 6 (.q 7 (.q 8 (.q 9 (.q 10 (.q 11 (.done))))))))))))) [0] he hm fun w hm =>?_
 refine go fun a he =>?_
 refine d_e he rfl rfl rfl (kC (sz:=1) (cs:=[]) he hm rfl (y8t runUnderlying25 sizeOf9) rfl (by decide) fun v204 w hm _=>⟨fun _=>hm.sn (Fz.Le.refl _),fun a he =>?_⟩)
 refine wL 0 vV (fun v205 w hm a he =>?_) (hr:=(SliceOf.strs.1 ra).rowIn hm.toSees) (h1:=pM _) (hb:=by simp only [yA,List.length_nil];omega)
 refine wL 0 vV (fun v206 w hm a he =>?_) (hr:=(SliceOf.strs.1 rb).rowIn hm.toSees) (h1:=pM _) (hb:=by simp only [List.length_append,List.length_nil,yA];omega)
 rw [List.nil_append,← yZ] at hm
 have hm0_:=hm
 clear hm
 obtain ⟨Ψ207,le208,hm,hrow209⟩:=hm0_.freezeRow (i:=0) rfl
 clear hm0_
 replace rpc0_:=RCore.mono _ _ _ _ le208 rpc0_
 replace G:=G.mono le208
 replace hm:=hm.nf
 have hsl210:SliceOf RStr Ψ207 1 _ ((la++lb)):=SliceOf.strs.2 hrow209
 obtain ⟨p211,c212,hv_,hm213,hn214⟩:=hsl210.form (by decide)
 have hmk_:=hm
 clear hm
 subst hv_
 have hm:=hmk_
 clear hmk_
 refine d_e he rfl rfl rfl (qA he rfl call20 (kE rpc0_ hsl210 (by rw [List.length_append];omega) G yJ hm) (fun q215 y216 w hq217 hG218 hm=>⟨zU (by kernel_rfl),fun a he =>?_⟩) (fun q215 w hq217 hm=>⟨zU (by kernel_rfl),fun a he =>?_⟩))
 obtain ⟨h02_,hin2_,rfl⟩:=mV hq217
 replace hm:=hm.nf
 refine go fun a he =>?_
 have hm0_:=hm
 clear hm
 obtain ⟨Ψ221,le222,hm,hrow223⟩:=hm0_.freezeRow (i:=0) rfl
 clear hm0_
 replace rpc0_:=RCore.mono _ _ _ _ le222 rpc0_
 replace G:=G.mono le222
 replace hm:=hm.nf
 have hsl224:SliceOf RStr Ψ221 1 _ ((zZ c (la++lb))):=SliceOf.strs.2 hrow223
 obtain ⟨p225,c226,hv_,hm227,hn228⟩:=hsl224.form (by decide)
 have hmk_:=hm
 clear hm
 subst hv_
 have hm:=hmk_
 clear hmk_
 refine Qq (fun a he =>?_) (o:=by exact fun he hs=>qF true he rfl rfl rfl)
 refine Qq (fun a he =>?_) (o:=by exact fun he hs=>jR false he rfl rfl rfl)
 refine zF ?_
 replace hm:=hm.le ((((le43).trans le57).trans le208).trans le222)
 replace hm:=hm.dl [0]
 exact absurd hin2_ (by rw [y9t,hbad1_];simp)
 obtain ⟨hbad2_,rfl⟩:=oV h0 hq217
 refine Qq (fun a he =>?_) (o:=by exact fun he hs=>qF true he rfl rfl rfl)
 refine Qq (fun a he =>?_) (o:=by exact fun he hs=>jR true he rfl rfl rfl)
 refine zF ?_
 replace hm:=hm.le (((le43).trans le57).trans le208)
 replace hm:=hm.dl [0]
 exact ⟨rfl,hm⟩
 obtain ⟨hz_,rfl⟩:=z5y hq39
 refine zT call20 (fun w hm a he =>?_) (c:=q5h hz_ rpc0_ G hm)
 refine Qq (fun a he =>?_) (o:=by exact fun he hs=>pH he rfl rfl)
 refine zF ?_
 replace hm:=hm.dl [0]
 first | exact ⟨rfl,hm⟩ | (rw [decide_eq_true rfl];exact ⟨rfl,hm⟩)
end Go.Sw

namespace Go.Proofs.YtghdfphedgcpdaaGreatDoor
open Go.ChangeShapes Go.WideShapes Go.ChangeAt Go.RowKit Go.Sw
set_option maxRecDepth 100000
theorem tt {a b:Bool} (ha:a=true) (hb:b=true):(a&&b)=true:=by rw [ha,hb];rfl
theorem y0z:Rows.levelForcedUptoRow.wf (OpenSpec.ofChange Rows.levelForcedSpec)=true:=by kernel_rfl
theorem y1a:laidOutB Tryz.prog=true:=by kernel_rfl
theorem y1b:mapsRowed Tryz.prog=true:=by kernel_rfl
theorem y1c:Tryz.f7.params.all (Tryz.prog.readableRec ·)=true:=by kernel_rfl
theorem y1d:namedTie Tryz.prog Rows.levelForcedUptoRow.named Rows.levelForcedSpec.vars=true:=by kernel_rfl
theorem y1e:(Rows.levelForcedUptoRow.stops==[])=true:=by kernel_rfl
theorem y1f:(Tryz.prog.stops==[])=true:=by kernel_rfl
theorem y1g:(Rows.levelForcedUptoRow.knobs==[])=true:=by kernel_rfl
theorem y1h:(Tryz.prog.stopKnobs==[])=true:=by kernel_rfl
theorem y1i:(Rows.levelForcedUptoRow.inPlace==Tryz.prog.inPlace 7)=true:=by kernel_rfl
theorem z6l:(Rows.levelForcedUptoRow.unfollowed==Tryz.prog.unfollowed 7)=true:=by kernel_rfl
theorem z6m:(Rows.levelForcedUptoRow.recurses==Tryz.prog.recurses 7)=true:=by kernel_rfl
theorem z6n:(Rows.levelForcedUptoRow.named==Tryz.prog.varsNamed 7)=true:=by kernel_rfl
theorem z6o:(Rows.levelForcedUptoRow.maps==(Tryz.f7.params.toList++Rows.levelForcedSpec.plain.varTypes Tryz.prog).any (Tryz.prog.mapsRec ·))=true:=by kernel_rfl
theorem z6p:(Rows.levelForcedUptoRow.ifaces==(Tryz.f7.params.toList++Rows.levelForcedSpec.plain.varTypes Tryz.prog).any (Tryz.prog.ifacesRec ·))=true:=by kernel_rfl
theorem z6q:(Rows.levelForcedUptoRow.mapsOut==Tryz.prog.mapsAmong Tryz.f7.resultTypes.toList)=true:=by kernel_rfl
theorem z6r:(Rows.levelForcedUptoRow.loops==(Tryz.f7.params.toList++Rows.levelForcedSpec.plain.varTypes Tryz.prog).any (Tryz.prog.loopsFrom ·))=true:=by kernel_rfl
theorem z6s:(Rows.levelForcedUptoRow.wideKeys==(Tryz.f7.params.toList++Rows.levelForcedSpec.plain.varTypes Tryz.prog++Tryz.f7.resultTypes.toList).any (Tryz.prog.wideKeysFrom ·))=true:=by kernel_rfl
theorem z6t:Rows.levelForcedSpec.vars.all (Tryz.prog.varReadable ·)=true:=by kernel_rfl
theorem z6u:Tryz.f7.resultTypes.all (fun t=>Tryz.prog.readableRec t&&decide (t < Tryz.prog.types.size))=true:=by kernel_rfl
theorem z6v:(Rows.levelForcedUptoRow.ifacesOut==Tryz.f7.resultTypes.toList.any (Tryz.prog.ifacesRec ·))=true:=by kernel_rfl
theorem z6w:(Rows.levelForcedUptoRow.loopsOut==Tryz.f7.resultTypes.toList.any (Tryz.prog.loopsFrom ·))=true:=by kernel_rfl
theorem z6x:(Rows.levelForcedUptoRow.plainKeys==Tryz.prog.plainKeys)=true:=by kernel_rfl
theorem z6y:Rows.levelForcedUptoRow.shortTexts.isNone=true:=by kernel_rfl
theorem z6z:Tryz.prog.stopsHeard=true:=by kernel_rfl
theorem z7a:Tryz.prog.mayEnter=true:=by kernel_rfl
theorem z7b:(Rows.levelForcedUptoRow.lifted==Tryz.prog.liftsFinal)=true:=by kernel_rfl
theorem z7c:(Tryz.prog.make==some Rows.levelForcedUptoRow.make)=true:=by kernel_rfl
theorem z7d:(Rows.levelForcedUptoRow.kinds==(if Rows.levelForcedUptoRow.domain.isEmpty then [] else Tryz.f7.params.toList.map fun t=>match Tryz.prog.underlying t with | some (.int k)=>some k | _=>Option.none))=true:=by kernel_rfl
theorem z7e:(Rows.levelForcedUptoRow.pinned==Rows.levelForcedUptoRow.pinnedBy)=true:=by kernel_rfl
theorem z7f:(Rows.levelForcedUptoRow.veiled==(Tryz.f7.params.toList++Rows.levelForcedSpec.plain.varTypes Tryz.prog++Tryz.f7.resultTypes.toList).any (Tryz.prog.veiledRec ·))=true:=by kernel_rfl
theorem z7g:Rows.levelForcedUptoRow.veiledFits Tryz.prog Tryz.f7.params.toList (Tryz.f7.params.toList++Rows.levelForcedSpec.plain.varTypes Tryz.prog++Tryz.f7.resultTypes.toList)=true:=by kernel_rfl
theorem uF:joinedFacts Tryz.prog 7 Tryz.f7 Rows.levelForcedSpec Rows.levelForcedUptoRow=true:=(tt (tt (tt (tt (tt (tt (tt (tt (tt (tt (tt (tt (tt (tt (tt (tt (tt (tt (tt (tt (tt (tt (tt (tt (tt (tt (tt (tt (tt (tt (tt y0z y1a) y1b) y1c) y1d) y1e) y1f) y1g) y1h) y1i) z6l) z6m) z6n) z6o) z6p) z6q) z6r) z6s) z6t) z6u) z6v) z6w) z6x) z6y) z6z) z7a) z7b) z7c) z7d) z7e) z7f) z7g)
theorem levelForced_named:Tryz.prog.funcNamed "restitch/restitchlaw11.LevelForced" = some 7:=by kernel_rfl
theorem uH:Tryz.checked.prog.inits.idxOf? 7=none:=by kernel_rfl
theorem tR:Tryz.f7.resultTypes=#[4]:=by kernel_rfl
theorem z4a:([27,25,25].all fun t=>Tryz.prog.readableRec t&&decide (t < Tryz.prog.types.size))=true:=by kernel_rfl
theorem uI:Rows.levelForcedUptoRow.wfByText (Rows.OpenSpec.upto Rows.levelForcedSpec)=true:=by kernel_rfl
theorem z3z:false=Rows.levelForcedUptoRow.goesBy Tryz.prog:=by kernel_rfl
theorem z1m:([27,25,25].all fun u => !Tryz.prog.wantsStandIn u)=true:=by kernel_rfl
abbrev levelForced_args:Array Value:=#[.agg #[.slice none 0 0,.slice none 0 0,.slice none 0 0,.slice none 0 0],.slice none 0 0,.slice none 0 0]
section
variable {H:Type} {enc:TypeId×Value→H}
theorem j7z (d:DataW H):1≤Rows.uptoBulk d:=by
 unfold Rows.uptoBulk
 split <;> omega
theorem q4j:∀l:List (DataW H),l.length≤Rows.uptoBulkAll l
 | []=>Nat.zero_le _
 | d::l=>by
  have h1:=j7z d;have h2:=q4j l
  rw [Rows.uptoBulkAll,List.length_cons];omega
theorem j0v {W:World} {t e:TypeId} {n fuel cap:Nat} {p:Option Addr} {x:DataW H×List MemPlace} (ht:Tryz.prog.underlying t=some (.slice e)) (h:trd enc W fuel t [.slice p n cap]=some x):n≤Rows.uptoBulk x.1:=by
 rcases DataW.trod_slice ht h with ⟨h1,_⟩ | ⟨a,len,cap',elems,rest,m,_,h1,rfl,_,_,_,hlen,_⟩
 ·simp only [List.cons.injEq,Value.slice.injEq] at h1
  obtain ⟨⟨_,rfl,_⟩,_⟩:=h1
  exact Nat.zero_le _
 ·simp only [List.cons.injEq,and_true,Value.slice.injEq] at h1
  obtain ⟨_,rfl,_⟩:=h1
  have:=q4j (elems.map (·.1))
  rw [List.length_map] at this
  show _≤Rows.uptoBulk (DataW.slice (elems.map (·.1)) (rest.map (·.1)))
  rw [Rows.uptoBulk];omega
theorem q1d {W:World} {v:Value} {l:List Bs} {d:DataW H} {p:List MemPlace} (hl:SliceOf RStr (Fz.whole W) 1 v l) (h:DataW.Trod enc Tryz.prog W 0 (fun _=>true) true 25 v d p) (hb:Rows.uptoBulk d≤1048576):l.length≤1048576:=by
 obtain ⟨fuel,hf⟩:=h
 obtain ⟨q,c,rfl,_,_⟩:=hl.form (by decide)
 exact Nat.le_trans (j0v (enc:=enc) (W:=W) Tryz.underlying25 (n:=l.length) hf) hb
end
theorem oJ (os:Os):Input.okWideB Tryz.checked.prog ((World.laidAll Tryz.prog os laidAll).forCall (fun _ _=>0) ⟨#[],levelForced_args,[]⟩) 7 ⟨#[],levelForced_args,[]⟩=true:=by as_aux_lemma=>kernel_rfl
theorem z7h (os:Os) {H:Type} (enc:TypeId×Value→H):(Rows.OpenSpec.upto Rows.levelForcedSpec).preRow enc Tryz.prog Tryz.f7 [] false laidAll ((World.laidAll Tryz.prog os laidAll).forCall (fun _ _=>0) ⟨#[],levelForced_args,[]⟩).memory levelForced_args:=by
 have hw:(DataW.whole enc Tryz.prog ((World.laidAll Tryz.prog os laidAll).forCall (fun _ _=>0) ⟨#[],levelForced_args,[]⟩).memory Tryz.f7.params.toList (Rows.OpenSpec.upto Rows.levelForcedSpec).vars false levelForced_args.toList 8).map (fun x=>Rows.uptoSmall H (x.1++x.2.1))=some true:=by as_aux_lemma=>kernel_rfl
 obtain ⟨x,hx,hx1⟩:=Option.map_eq_some_iff.1 hw
 exact OpenSpec.preRow_of_cond 8 hx rfl (fun k hk=>by cases hk;exact hx1) (by as_aux_lemma=>kernel_rfl) (by rw [xL];exact sD os _)
theorem uG (os:Os) (started:os.Started) (H:Type) (enc:TypeId×Value→H) (F:Stop.Interp) :
  ReturnsInHanded {} Tryz.checked os 7 .any ((Rows.OpenSpec.upto Rows.levelForcedSpec).preRow enc Tryz.prog Tryz.f7 [] false laidAll) (((Rows.OpenSpec.upto Rows.levelForcedSpec).at F).post enc Tryz.prog Tryz.f7 false true false false):=by
 refine returnsInHanded_of_row (C:=Tryz.checked) (s:=(Rows.OpenSpec.upto Rows.levelForcedSpec)) own started uH Tryz.func7
  ⟨World.laidAll Tryz.prog os laidAll,fun _ _=>0,⟨#[],levelForced_args,[]⟩,World.laidAll_os _ _ _,World.shaped_of_ZipB (by as_aux_lemma=>kernel_rfl) (by as_aux_lemma=>kernel_rfl),(Input.okWide_of_okWideB (base:=0) (oJ os)).1,(Input.okWide_of_okWideB (oJ os)).2,
   z7h os enc,by simp only [Assume.holds];exact ⟨by simp,by simp,fun _=>Modest.zero,by simp,by simp⟩⟩ ?_
 intro W base args ds gs before hval0 hW _ hk _ hL hsh _
 have hval:∀(j:Nat) t v,Tryz.f7.params[j]? = some t→args[j]? = some v→Value.okWide Tryz.prog W .any base t v:=hval0
 have hW':=hW
 obtain ⟨p,q,hA0,hV,rfl,_,_⟩:=hW
 have hA:DataW.TrodAll enc Tryz.prog W 0 (fun _=>true) true Tryz.f7.params.toList args.toList ds p:=hA0
 rw [Tryz.params7] at hA hval
 obtain ⟨v0,v1,v2,d0,d1,d2,p0,p1,p2,rfl,rfl,rfl,h0,h1,h2⟩:=trodAll_three hA
 replace hL:=(show laidMetH Tryz.prog laidAll W from hL)
 rw [xL] at hL
 have hb:=of_decide_eq_true (hk _ rfl)
 simp only [List.cons_append,List.nil_append,Rows.uptoBulkAll] at hb
 obtain ⟨cs,c,rfl,rpc⟩:=oQ (hval 0 27 v0 rfl rfl) h0
 obtain ⟨l1,rl1⟩:=sO (hval 1 25 v1 rfl rfl) h1
 obtain ⟨l2,rl2⟩:=sO (hval 2 25 v2 rfl rfl) h2
 have k1:=q1d rl1 h1 (by omega)
 have k2:=q1d rl2 h2 (by omega)
 refine (y1j rpc rl1 rl2 k1 k2 (z1c hsh hL) (Mem.whole W)).mono fun e W' ⟨he,hm⟩ =>?_
 subst he
 exact ⟨_,rfl,sF hW' rfl (fun gs hg=>by subst hg;rfl) tR (by rw [Tryz.params7];exact fun t ht=>z2o z4a ht) hm⟩
theorem z1l:Rows.LevelForcedUptoSaid :=
 OpenClaim.holds_of_cond 7 Tryz.f7 rfl rfl rfl rfl rfl rfl rfl ⟨rfl,rfl,rfl,rfl,rfl⟩ rfl rfl rfl rfl rfl levelForced_named Tryz.func7 uF
  (of_decide_eq_true (by as_aux_lemma=>kernel_rfl)) (by unfold Func.isWrapper;first | (rw [if_pos (by decide +kernel)];as_aux_lemma=>kernel_rfl) | (rw [if_neg (by decide +kernel)];exact ⟨rfl,rfl⟩))
  (fun os started H enc _ F=>by rw [OpenClaim.pre_eq_preRow];exact uG os started H enc F)
theorem levelForced_card:Rows.LevelForcedUptoCardSaid :=
 Claim7.holds_tied_plain_at .later [] [.data,.data,.data,.data,.sentinel,.sentinel,.pinned] true (true,"8dfb172be620e644952a3b3fbef38f53abbde8464159391a13788f707abd56a4") true z1l (fun _ h=>by cases h) uI (fun _ h=>by cases h) levelForcedUpto_row_tie rfl ⟨rfl,rfl⟩ z2d rfl
  (fun f fn hf hfn=>by
   obtain rfl:f=7:=Option.some.inj (levelForced_named.symm.trans hf) |>.symm
   obtain rfl:fn=Tryz.f7:=(Option.some.inj (Tryz.func7.symm.trans hfn)).symm
   exact ⟨sI,fun j t ht=>by
    rw [Tryz.params7] at ht
    have hm:t∈[27,25,25]:=by simpa using Array.mem_of_getElem? ht
    exact (show Tryz.prog.wantsStandIn t=false by simpa using List.all_eq_true.1 z1m t hm)⟩)
  z3z
#print axioms levelForced_card
end Go.Proofs.YtghdfphedgcpdaaGreatDoor
