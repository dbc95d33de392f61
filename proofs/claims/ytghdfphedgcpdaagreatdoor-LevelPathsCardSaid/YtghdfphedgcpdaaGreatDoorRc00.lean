/- LevelPaths: for every program the law returns true: each node that is changeable has a path that CheckPath accepts, and no other node has one; the statement levelPathsCardSaid, as it is given; nothing is assumed beyond it. -/
import Derived.Test.YtghdfphedgcpdaaGreatDoorProg
import Derived.Test.YtghdfphedgcpdaaGreatDoorX03
import Derived.Test.YtghdfphedgcpdaaGreatDoorX08
import Derived.Test.YtghdfphedgcpdaaGreatDoorX12
import Derived.Test.YtghdfphedgcpdaaGreatDoorX13
set_option linter.unusedVariables false
set_option linter.unusedSimpArgs false
namespace Go.Sw
open Go.Proofs
set_option maxRecDepth 20000
set_option maxHeartbeats 4000000
end Go.Sw

namespace Go.Sw
section
variable {c:Core} {a b l:List Bs} {s x:Bs} {i:Nat}
theorem hasB_in:∀{l:List Bs} {s:Bs},tQ l s=true↔s∈l
 | [],s=>by simp [tQ]
 | y::l,s=>by
  rw [z3r,List.mem_cons]
  by_cases h:y=s
  ·simp [h]
  ·have h2:¬s=y:=fun e=>h e.symm
   simp [h,h2,hasB_in (l:=l)]
theorem gok (h0:zP c=0):GOk (zD c) (zY c):=(yJ h0).gok
end
end Go.Sw

namespace Go.Sw
open Go.Proofs
set_option maxRecDepth 20000
set_option maxHeartbeats 4000000
end Go.Sw

namespace Go.Sw
open Go.Proofs
set_option maxRecDepth 20000
set_option maxHeartbeats 4000000
def anyF (x y:Bs) (l:List Flow):Bool:=l.any fun f=>decide (f.1=x)&&decide (f.2=y)
theorem q1u {x y:Bs} {l:List Flow} {i:Nat} {f:Flow} (h:l[i]? = some f):anyF x y (l.drop i)=(decide (f.1=x)&&decide (f.2=y) || anyF x y (l.drop (i+1))):=by rw [zA h];rfl
theorem j7p {x y:Bs} {l:List Flow} {i:Nat} (h:¬i < l.length):anyF x y (l.drop i)=false:=by rw [zH h];rfl
theorem anyF_in {x y:Bs} {l:List Flow} (h:(x,y)∈l):anyF x y l=true:=List.any_eq_true.2 ⟨_,h,by simp⟩
theorem q5t (s:Bs):(inN s).extract 0 3=⟨#[105,110,46]⟩:=by
 apply ByteArray.ext
 simp [inN,ByteArray.data_append,ByteArray.data_extract]
theorem x1w {s:Bs} (h:yU s=true):0 < s.size :=
 Nat.pos_of_ne_zero fun h0=>q5n (.inl (of_decide_eq_true h)) (by apply ByteArray.ext;exact Array.eq_empty_of_size_eq_zero h0)
section
variable {c:Core} {n x y:Bs} {p:List Bs} {i:Nat}
theorem j6q (h:PathOk (yY (zY c)) (zO c) n p) (hx:p[i]? = some x) (hy:p[i+1]? = some y):anyF x y (zY c)=true:=by
 obtain ⟨_,_,h2,_⟩:=h
 exact anyF_in ((tI _ _ _).1 (h2 i x y hx hy))
theorem z4p (h:PathOk (yY (zY c)) (zO c) n p) (hx:p[p.length - 1]? = some x):x=n:=by
 obtain ⟨q,rfl,_⟩:=h
 simp at hx;exact hx.symm
theorem gZ (hR:Right c) (h:PathOk (yY (zY c)) (zO c) n p) (hx:p[0]? = some x):∃s,x=inN s∧0 < s.size:=by
 obtain ⟨_,_,_,h3,_⟩:=h
 obtain ⟨q,hq,rfl⟩:=List.mem_map.1 (h3 x hx)
 exact ⟨_,rfl,x1w (hR.iN q hq)⟩
end
theorem x1l {Φ:Fz} {K:List Res} {w:World} {c:Core} {n:Bs} {p:List Bs} {vf vp:Value} (hR:Right c) (rf:SliceOf RFlow Φ 2 vf (zY c)) (rp:SliceOf RStr Φ 1 vp p) (hpo:PathOk (yY (zY c)) (zO c) n p) (hm:Mem Φ K w) :
  Calls Tryz.prog 32 (List.toArray [vf,vp,.string n]) w (fun ee w'=>ee=.returned (.bool true)∧Mem Φ K w'):=by
 obtain ⟨p1,c2,rfl,hmx3,hn4⟩:=rf.fm
 obtain ⟨p5,c6,rfl,hmx7,hn8⟩:=rp.fm
 have hp_:=PathOk.pos hpo
 refine zN Tryz.func32 Tryz.ntmps32 fun Q hQ a he =>?_
 by_cases h12:p.length=0
 refine zF ?_
 first | exact absurd h12 (by omega)
 refine Qq (fun a he =>?_) (o:=by exact fun he hs=>pE ((p.length - 1:Nat):Int) he rfl rfl (by rw [xH (by omega)];omega))
 have hb14:p.length - 1 < p.length:=by omega
 obtain ⟨q15,rfl,x16,hx17,cs18,hl19,ha20,hr21⟩:=rp.el hn8 hb14
 obtain rfl:cs18=[.string x16]:=hr21
 refine go fun a he =>?_
 by_cases h22:x16=n
 refine go fun a he =>?_
 obtain ⟨x23,hx24⟩:=yF hp_
 obtain ⟨cs25,hl26,ha27,hr28⟩:=rp.elem hx24
 obtain rfl:cs25=[.string x23]:=hr28
 by_cases h29:x23.size < 4
 refine zF ?_
 first | exact absurd h29 (by omega) | exact absurd (z4p hpo hx17) h29 | (obtain ⟨s_,e_,hs_⟩:=gZ hR hpo hx24;rw [e_,q5s] at h29;omega) | (obtain ⟨s_,e_,hs_⟩:=gZ hR hpo hx24;rw [e_] at h29;exact absurd (q5t s_) h29)
 refine Qq (fun a he =>?_) (o:=by exact fun he hs=>jU 0 (3) he rfl Tryz.runUnderlying9 rfl ⟨_,rfl⟩ (by omega) (by omega))
 by_cases h31:(x23.extract 0 3)=(⟨#[105,110,46]⟩:ByteArray)
 refine go fun a he =>?_
 refine yG (he.ks [0,1]) hm (fun R mm a w=>∃(i:Nat),mm=p.length - i∧R Φ [(7,.int .i64 ((i:Nat):Int))] [] a w∧(1≤i)) (p.length - 1) ⟨1,rfl,⟨he.pk,hm⟩,Nat.le_refl 1⟩ ?_
 clear hm he
 rintro mm a w ⟨i,hmu,⟨he,hm⟩,hI35⟩ L34 hL34
 have hi1_:=hI35
 by_cases h38:i < p.length
 refine go fun a he =>?_
 obtain ⟨xa_,hxa_⟩:=yF (l:=p) (i:=i - 1) (by omega)
 obtain ⟨ya_,hya_⟩:=yF (l:=p) (i:=i) (by omega)
 refine yG (he.ks [0,1,7]) hm (fun R mm a w=>∃(k:Nat) (o:Bool),mm=(zY c).length - k∧R Φ [(8,.bool o),(9,.int .i64 ((k:Nat):Int))] [] a w∧(anyF xa_ ya_ (zY c)=(o || anyF xa_ ya_ ((zY c).drop k)))) ((zY c).length - 0) ⟨0,false,rfl,⟨he.pk,hm⟩,rfl⟩ ?_
 clear hm he
 rintro mm a w ⟨k,o,hmu,⟨he,hm⟩,hI44⟩ L43 hL43
 by_cases h47:k < (zY c).length
 refine Reg [1,1,1,1,1,1,2,1,1,1,1,2,1,1,1,1,1,1,2,1,1,1,2,1,1,1,1] [] fun w hm a he =>?_
 refine go fun a he =>?_
 cases o
 refine go fun a he =>?_
 obtain ⟨q49,rfl,x50,hx51,cs52,hl53,ha54,hr55⟩:=rf.el hn4 h47
 obtain rfl:=id hr55
 refine Qq (fun a he =>?_) (o:=by exact fun he hs=>pE ((i - 1:Nat):Int) he rfl rfl (by rw [xH (by omega)];omega))
 have hb56:i - 1 < p.length:=by omega
 obtain ⟨x57,hx58⟩:=yF hb56
 obtain ⟨cs59,hl60,ha61,hr62⟩:=rp.elem hx58
 obtain rfl:cs59=[.string x57]:=hr62
 refine go fun a he =>?_
 by_cases h63:x50.1=x57
 refine go fun a he =>?_
 obtain ⟨x64,hx65⟩:=yF h38
 obtain ⟨cs66,hl67,ha68,hr69⟩:=rp.elem hx65
 obtain rfl:cs66=[.string x64]:=hr69
 by_cases h70:x50.2=x64
 refine go fun a he =>?_
 refine hL43 _ _ _ (by subst hmu;omega) ⟨(k+1),(true),rfl,⟨he.pk,hm⟩,?_⟩
 have ex_:x57=xa_:=Option.some.inj (hx58.symm.trans hxa_)
 have ey_:x64=ya_:=Option.some.inj (hx65.symm.trans hya_)
 rw [hI44,q1u hx51,decide_eq_true (h63.trans ex_),decide_eq_true (h70.trans ey_)];rfl
 refine go fun a he =>?_
 refine hL43 _ _ _ (by subst hmu;omega) ⟨(k+1),(false),rfl,⟨he.pk,hm⟩,?_⟩
 have ex_:x57=xa_:=Option.some.inj (hx58.symm.trans hxa_)
 have ey_:x64=ya_:=Option.some.inj (hx65.symm.trans hya_)
 rw [hI44,q1u hx51,decide_eq_true (h63.trans ex_),decide_eq_false (fun e_=>h70 (e_.trans ey_.symm))];rfl
 refine go fun a he =>?_
 refine hL43 _ _ _ (by subst hmu;omega) ⟨(k+1),(false),rfl,⟨he.pk,hm⟩,?_⟩
 have ex_:x57=xa_:=Option.some.inj (hx58.symm.trans hxa_)
 rw [hI44,q1u hx51,decide_eq_false (fun e_=>h63 (e_.trans ex_.symm))];rfl
 refine go fun a he =>?_
 refine hL43 _ _ _ (by subst hmu;omega) ⟨(k+1),(true),rfl,⟨he.pk,hm⟩,?_⟩
 rw [hI44];simp
 refine go fun a he =>?_
 cases o
 refine zF ?_
 have h_:=hI44
 rw [j7p h47,Bool.or_false,j6q hpo hxa_ (by rw [Nat.sub_add_cancel hi1_];exact hya_)] at h_;cases h_
 refine go fun a he =>?_
 refine hL34 _ _ _ (by subst hmu;omega) ⟨(i+1),rfl,⟨he.pk,hm⟩,?_⟩
 omega
 refine zF ?_
 exact ⟨rfl,hm⟩
 refine zF ?_
 first | exact absurd h31 (by omega) | exact absurd (z4p hpo hx17) h31 | (obtain ⟨s_,e_,hs_⟩:=gZ hR hpo hx24;rw [e_,q5s] at h31;omega) | (obtain ⟨s_,e_,hs_⟩:=gZ hR hpo hx24;rw [e_] at h31;exact absurd (q5t s_) h31)
 refine zF ?_
 first | exact absurd h22 (by omega) | exact absurd (z4p hpo hx17) h22
end Go.Sw

namespace Go.Sw
open Go.Proofs.Tryz
open Go.Proofs
set_option maxRecDepth 20000
set_option maxHeartbeats 4000000
section
variable {Φ:Fz} {K:List Res} {w:World} {d0:List Value} {c:Core} {n:Bs} {v:Value} {p:List Bs}
theorem j8w (h0:zP c=0) (rpc:RCore Φ d0 c) (G:Glob Φ) (hm:Mem Φ K w) :
  Calls prog 31 (List.toArray [.agg d0.toArray]) w (fun ee w'=>∃y:Fz×Value,ee=.returned (.tuple (List.toArray [y.2,.int .i64 0]))∧(Φ.Le y.1∧SliceOf RFlow y.1 2 y.2 (zY c))∧Mem y.1 K w'):=by
 have h:=y9m rpc G yJ hm
 rw [y4l h0] at h;exact h
theorem j8x (h0:¬zP c=0) (rpc:RCore Φ d0 c) (G:Glob Φ) (hm:Mem Φ K w) :
  Calls prog 31 (List.toArray [.agg d0.toArray]) w (fun ee w'=>ee=.returned (.tuple (List.toArray [.slice none 0 0,.int .i64 (zP c)]))∧Mem Φ K w'):=by
 have h:=y9m rpc G yJ hm
 rw [z4j h0] at h;exact h
theorem PathOk.cp {nx:Next} {rs:List Bs} (h:PathOk nx rs n p):z8y nx rs n p:=by
 refine ⟨⟨p,h,rfl⟩,?_,let ⟨_,_,_,h3,_⟩:=h;h3,let ⟨_,_,h2,_⟩:=h;h2⟩
 obtain ⟨q,rfl,_⟩:=h
 simp
theorem q1z (h0:zP c=0) (hn:n∈zD c) (hpo:PathOk (yY (zY c)) (zO c) n p) (rpc:RCore Φ d0 c) (rl:SliceOf RStr Φ 1 v p) (G:Glob Φ) (hm:Mem Φ K w) :
  Calls prog 29 (List.toArray [.agg d0.toArray,.string n,v]) w (fun ee w'=>ee=.returned (.int .i64 0)∧Mem Φ K w'):=by
 refine (y6s (n:=n) rpc rl G yJ hm).mono fun ee w' ⟨y,h1,h2,h3⟩ =>?_
 rw [CPRes,kL h0 hn] at h2
 rcases h2 with ⟨rfl,_⟩ | ⟨_,h2⟩
 exact ⟨h1,h3⟩
 exact absurd hpo.cp h2
theorem j3x {x:Unit} (h0:zP c=0) (hn:n∈zD c) (h:gJ c n=.ok x):(zK (yB (yY (zY c)) (zO c)) n).isSome=true:=by
 cases hb:(zK (yB (yY (zY c)) (zO c)) n).isSome with
 | true=>rfl
 | false=>rw [tC h0 hn hb] at h;cases h
theorem q4h {e:Int} (h0:zP c=0) (hn:n∈zD c) (h:gJ c n=.error e):(zK (yB (yY (zY c)) (zO c)) n).isSome=false∧(3:Int)=e:=by
 cases hb:(zK (yB (yY (zY c)) (zO c)) n).isSome with
 | false=>rw [tC h0 hn hb] at h;cases h;exact ⟨rfl,rfl⟩
 | true=>rw [z3f h0 hn hb] at h;cases h
end
theorem y8j {Φ:Fz} {K:List Res} {w:World} {d0:List Value} {c:Core} (rpc:RCore Φ d0 c) (G:Glob Φ) (hm:Mem Φ K w) :
  Calls prog 9 (List.toArray [.agg d0.toArray]) w (fun ee w'=>ee=.returned (.bool true)∧Mem Φ K w'):=by
 have rpc0_:=rpc
 obtain ⟨p3,c4,p9,c10,p15,c16,p21,c22,rfl,h2,h8,h14,h20,hm5,hn6,hm11,hn12,hm17,hn18,hm23,hn24⟩:=RCore.fm rpc
 refine zN func9 ntmps9 fun Q hQ a he =>?_
 refine Bx fun b26 w hm a he =>?_
 refine zT call11 (fun w hm a he =>?_) (c:=z2s G (fun _=>yJ) hm)
 refine go fun a he =>?_
 refine st he rfl rfl rfl (qA he rfl call12 (z4n rpc0_ G yJ hm) (fun q29 y30 w hq31 hG32 hm a he =>?_) (fun q29 w hq31 hm a he =>?_))
 obtain ⟨h0,rfl⟩:=q0m hq31
 replace hm:=hm.nf
 refine go fun a he =>?_
 have hm0_:=hm
 clear hm
 obtain ⟨Ψ34,le35,hm,hrow36⟩:=hm0_.freezeRow (i:=0) rfl
 clear hm0_
 replace rpc0_:=RCore.mono _ _ _ _ le35 rpc0_
 replace G:=G.mono le35
 replace hm:=hm.nf
 have hsl37:SliceOf RStr Ψ34 1 _ ((zD c)):=SliceOf.strs.2 hrow36
 obtain ⟨p38,c39,hv_,hm40,hn41⟩:=hsl37.form (by decide)
 have hmk_:=hm
 clear hm
 subst hv_
 have hm:=hmk_
 clear hmk_
 refine qV call31 (fun y42 w hG43 hm a he =>?_) (c:=j8w h0 rpc0_ G hm)
 obtain ⟨Ψf,vf⟩:=y42
 obtain ⟨lef,hrf_⟩:=hG43
 simp only at lef hrf_ hm he
 replace rpc0_:=RCore.mono _ _ _ _ lef rpc0_
 replace G:=G.mono lef
 replace hsl37:=hsl37.up lef
 replace hm:=hm.nf
 obtain ⟨p44,c45,rfl,hmx46,hn47⟩:=hrf_.fm
 refine Qq (fun a he =>?_) (o:=by exact fun he hs=>qF false he rfl rfl rfl)
 refine Qq (fun a he =>?_) (o:=by exact fun he hs=>qF false he rfl rfl rfl)
 refine go fun a he =>?_
 refine yG (he.ks [1,3,4,6]) hm (fun R mm a w=>∃(i:Nat),mm=(zD c).length - i∧R Ψf [(8,.int .i64 ((i:Nat):Int))] [] a w∧(True)) ((zD c).length - 0) ⟨0,rfl,⟨he.pk,hm⟩,trivial⟩ ?_
 clear hm he
 rintro mm a w ⟨i,hmu,⟨he,hm⟩,hI53⟩ L52 hL52
 by_cases h56:i < ((zD c)).length
 by_cases h57:i < 60
 refine Reg [2,1,1,1,2,0,1,1,1,1,1] [0] fun w hm a he =>?_
 refine go fun a he =>?_
 have hmk_:=hm
 have hek_:=he
 clear hm he
 obtain ⟨q60,rfl⟩:=hn41 (wO h56)
 have hm:=hmk_
 have he:=hek_
 clear hmk_ hek_
 obtain ⟨x61,hx62⟩:=yF h56
 obtain ⟨cs63,hl64,ha65,hr66⟩:=hsl37.elem hx62
 obtain rfl:cs63=[.string x61]:=hr66
 refine zT call13 (fun w hm a he =>?_) (c:=tU h0 (List.mem_of_getElem? hx62) rpc0_ G hm)
 refine Reg [2,1,1,1,2,0,1,1,1,1,1] [0] fun w hm a he =>?_
 refine go fun a he =>?_
 refine d_e he rfl rfl rfl (qA he rfl call26 (z3g (n:=x61) rpc0_ G yJ hm) (fun q68 y69 w hq70 hG71 hm=>⟨zU (by kernel_rfl),fun a he =>?_⟩) (fun q68 w hq70 hm=>⟨zU (by kernel_rfl),fun a he =>?_⟩))
 obtain ⟨pv,pl⟩:=y69
 have hpo_:=hG71
 simp only at hpo_ hm he
 have hre_:=j3x h0 (List.mem_of_getElem? hx62) hq70
 rw [hre_] at he
 replace hm:=hm.nf
 refine Qq (fun a he =>?_) (o:=by exact fun he hs=>qF false he rfl rfl rfl)
 refine Qq (fun a he =>?_) (o:=by exact fun he hs=>jR true he rfl rfl rfl)
 refine Qq (fun a he =>?_) (o:=by exact fun he hs=>pX (v:=.bool false) he rfl rfl rfl (by kernel_rfl))
 refine go fun a he =>?_
 have hm0_:=hm
 clear hm
 obtain ⟨Ψ75,le76,hm,hrow77⟩:=hm0_.freezeRow (i:=0) rfl
 clear hm0_
 replace rpc0_:=RCore.mono _ _ _ _ le76 rpc0_
 replace G:=G.mono le76
 replace hrf_:=hrf_.mono RFlow.mono le76
 replace ha65:=ha65.mono le76
 replace hm:=hm.nf
 have hsl78:SliceOf RStr Ψ75 1 _ (pl):=SliceOf.strs.2 hrow77
 obtain ⟨p79,c80,hv_,hm81,hn82⟩:=hsl78.form (by decide)
 have hmk_:=hm
 clear hm
 subst hv_
 have hm:=hmk_
 clear hmk_
 refine Reg [1,1,2,1,1,1,2,1,0,1,1,1,1,1,1,1,2,0,1,1,1] [0] fun w hm a he =>?_
 refine zT call29 (fun w hm a he =>?_) (c:=q1z h0 (List.mem_of_getElem? hx62) hpo_ rpc0_ hsl78 G hm)
 refine Qq (fun a he =>?_) (o:=by exact fun he hs=>qF false he rfl rfl rfl)
 refine zT call32 (fun w hm a he =>?_) (c:=x1l (gS h0) hrf_ hsl78 hpo_ hm)
 refine go fun a he =>?_
 replace hm:=hm.le (le76)
 refine hL52 _ _ _ (by subst hmu;omega) ⟨(i+1),rfl,⟨he.pk,hm⟩,?_⟩
 trivial
 obtain ⟨hre_,rfl⟩:=q4h h0 (List.mem_of_getElem? hx62) hq70
 rw [hre_] at he
 refine Qq (fun a he =>?_) (o:=by exact fun he hs=>qF false he rfl rfl rfl)
 refine Qq (fun a he =>?_) (o:=by exact fun he hs=>jR false he rfl rfl rfl)
 refine Qq (fun a he =>?_) (o:=by exact fun he hs=>pX (v:=.bool false) he rfl rfl rfl (by kernel_rfl))
 refine Qq (fun a he =>?_) (o:=by exact fun he hs=>qF false he rfl rfl rfl)
 refine Reg [1,1,2,1,1,1,2,1,0,1,1,1,1,1,1,1,2,0,1,1,1] [0] fun w hm a he =>?_
 refine go fun a he =>?_
 refine hL52 _ _ _ (by subst hmu;omega) ⟨(i+1),rfl,⟨he.pk,hm⟩,?_⟩
 trivial
 refine zF ?_
 replace hm:=hm.le ((le35).trans lef)
 replace hm:=hm.dl [0]
 exact ⟨rfl,hm⟩
 refine zF ?_
 replace hm:=hm.le ((le35).trans lef)
 replace hm:=hm.dl [0]
 exact ⟨rfl,hm⟩
 obtain ⟨hz_,rfl⟩:=z5s hq31
 refine zT call31 (fun w hm a he =>?_) (c:=j8x hz_ rpc0_ G hm)
 refine zF ?_
 replace hm:=hm.dl [0]
 exact ⟨rfl,hm⟩
end Go.Sw

namespace Go.Proofs.YtghdfphedgcpdaaGreatDoor
open Go.ChangeShapes Go.WideShapes Go.ChangeAt Go.RowKit Go.Sw
set_option maxRecDepth 100000
theorem tt {a b:Bool} (ha:a=true) (hb:b=true):(a&&b)=true:=by rw [ha,hb];rfl
theorem y7x:Rows.levelPathsRow.wf (OpenSpec.ofChange Rows.levelPathsSpec)=true:=by kernel_rfl
theorem y7y:laidOutB Tryz.prog=true:=by kernel_rfl
theorem y7z:mapsRowed Tryz.prog=true:=by kernel_rfl
theorem y8c:Tryz.f9.params.all (Tryz.prog.readableRec ·)=true:=by kernel_rfl
theorem y8d:namedTie Tryz.prog Rows.levelPathsRow.named Rows.levelPathsSpec.vars=true:=by kernel_rfl
theorem y8e:(Rows.levelPathsRow.stops==[])=true:=by kernel_rfl
theorem y8f:(Tryz.prog.stops==[])=true:=by kernel_rfl
theorem y8g:(Rows.levelPathsRow.knobs==[])=true:=by kernel_rfl
theorem y8h:(Tryz.prog.stopKnobs==[])=true:=by kernel_rfl
theorem y8i:(Rows.levelPathsRow.inPlace==Tryz.prog.inPlace 9)=true:=by kernel_rfl
theorem y3n:(Rows.levelPathsRow.unfollowed==Tryz.prog.unfollowed 9)=true:=by kernel_rfl
theorem y3o:(Rows.levelPathsRow.recurses==Tryz.prog.recurses 9)=true:=by kernel_rfl
theorem y3p:(Rows.levelPathsRow.named==Tryz.prog.varsNamed 9)=true:=by kernel_rfl
theorem y3q:(Rows.levelPathsRow.maps==(Tryz.f9.params.toList++Rows.levelPathsSpec.plain.varTypes Tryz.prog).any (Tryz.prog.mapsRec ·))=true:=by kernel_rfl
theorem y3r:(Rows.levelPathsRow.ifaces==(Tryz.f9.params.toList++Rows.levelPathsSpec.plain.varTypes Tryz.prog).any (Tryz.prog.ifacesRec ·))=true:=by kernel_rfl
theorem y3s:(Rows.levelPathsRow.mapsOut==Tryz.prog.mapsAmong Tryz.f9.resultTypes.toList)=true:=by kernel_rfl
theorem y3t:(Rows.levelPathsRow.loops==(Tryz.f9.params.toList++Rows.levelPathsSpec.plain.varTypes Tryz.prog).any (Tryz.prog.loopsFrom ·))=true:=by kernel_rfl
theorem y3u:(Rows.levelPathsRow.wideKeys==(Tryz.f9.params.toList++Rows.levelPathsSpec.plain.varTypes Tryz.prog++Tryz.f9.resultTypes.toList).any (Tryz.prog.wideKeysFrom ·))=true:=by kernel_rfl
theorem y3v:Rows.levelPathsSpec.vars.all (Tryz.prog.varReadable ·)=true:=by kernel_rfl
theorem y3w:Tryz.f9.resultTypes.all (fun t=>Tryz.prog.readableRec t&&decide (t < Tryz.prog.types.size))=true:=by kernel_rfl
theorem y3x:(Rows.levelPathsRow.ifacesOut==Tryz.f9.resultTypes.toList.any (Tryz.prog.ifacesRec ·))=true:=by kernel_rfl
theorem y3y:(Rows.levelPathsRow.loopsOut==Tryz.f9.resultTypes.toList.any (Tryz.prog.loopsFrom ·))=true:=by kernel_rfl
theorem y3z:(Rows.levelPathsRow.plainKeys==Tryz.prog.plainKeys)=true:=by kernel_rfl
theorem y4a:Rows.levelPathsRow.shortTexts.isNone=true:=by kernel_rfl
theorem y4b:Tryz.prog.stopsHeard=true:=by kernel_rfl
theorem y4c:Tryz.prog.mayEnter=true:=by kernel_rfl
theorem y4d:(Rows.levelPathsRow.lifted==Tryz.prog.liftsFinal)=true:=by kernel_rfl
theorem y4e:(Tryz.prog.make==some Rows.levelPathsRow.make)=true:=by kernel_rfl
theorem y4f:(Rows.levelPathsRow.kinds==(if Rows.levelPathsRow.domain.isEmpty then [] else Tryz.f9.params.toList.map fun t=>match Tryz.prog.underlying t with | some (.int k)=>some k | _=>Option.none))=true:=by kernel_rfl
theorem y4g:(Rows.levelPathsRow.pinned==Rows.levelPathsRow.pinnedBy)=true:=by kernel_rfl
theorem y4h:(Rows.levelPathsRow.veiled==(Tryz.f9.params.toList++Rows.levelPathsSpec.plain.varTypes Tryz.prog++Tryz.f9.resultTypes.toList).any (Tryz.prog.veiledRec ·))=true:=by kernel_rfl
theorem y4i:Rows.levelPathsRow.veiledFits Tryz.prog Tryz.f9.params.toList (Tryz.f9.params.toList++Rows.levelPathsSpec.plain.varTypes Tryz.prog++Tryz.f9.resultTypes.toList)=true:=by kernel_rfl
theorem z1x:joinedFacts Tryz.prog 9 Tryz.f9 Rows.levelPathsSpec Rows.levelPathsRow=true:=(tt (tt (tt (tt (tt (tt (tt (tt (tt (tt (tt (tt (tt (tt (tt (tt (tt (tt (tt (tt (tt (tt (tt (tt (tt (tt (tt (tt (tt (tt (tt y7x y7y) y7z) y8c) y8d) y8e) y8f) y8g) y8h) y8i) y3n) y3o) y3p) y3q) y3r) y3s) y3t) y3u) y3v) y3w) y3x) y3y) y3z) y4a) y4b) y4c) y4d) y4e) y4f) y4g) y4h) y4i)
theorem levelPaths_named:Tryz.prog.funcNamed "restitch/restitchlaw11.LevelPaths" = some 9:=by kernel_rfl
theorem z1z:Tryz.checked.prog.inits.idxOf? 9=none:=by kernel_rfl
theorem uP:Tryz.f9.resultTypes=#[4]:=by kernel_rfl
theorem z8j:([27].all fun t=>Tryz.prog.readableRec t&&decide (t < Tryz.prog.types.size))=true:=by kernel_rfl
theorem z2a:Rows.levelPathsRow.wfByText (OpenSpec.ofChange Rows.levelPathsSpec)=true:=by kernel_rfl
theorem z8i:false=Rows.levelPathsRow.goesBy Tryz.prog:=by kernel_rfl
theorem z4i:([27].all fun u => !Tryz.prog.wantsStandIn u)=true:=by kernel_rfl
abbrev levelPaths_args:Array Value:=#[.agg #[.slice none 0 0,.slice none 0 0,.slice none 0 0,.slice none 0 0]]
theorem z1y (os:Os) (started:os.Started) (H:Type) (enc:TypeId×Value→H) :
  ReturnsInHanded {} Tryz.checked os 9 .any (fun w args=>(Rows.levelPathsSpec.pre enc Tryz.prog Tryz.f9 [] false w args∧laidMetH Tryz.prog laidAll w)∧sizedMet enc Tryz.prog Tryz.f9 (OpenSpec.ofChange Rows.levelPathsSpec) false w args)
   (Rows.levelPathsSpec.post enc Tryz.prog Tryz.f9 false true false false):=by
 refine sX (C:=Tryz.checked) (X:=fun w _=>laidMetH Tryz.prog laidAll w) (fun _ _ _ hh h=>h.of_heap hh) own started z1z Tryz.func9
  (ChangeSpec.witness_shaped (enc:=enc) (C:=Tryz.checked) (os:=os) (X:=fun w _=>laidMetH Tryz.prog laidAll w) false (World.laidAll Tryz.prog os laidAll) levelPaths_args 8 (World.laidAll_os _ _ _)
   (World.shaped_of_ZipB (by as_aux_lemma=>kernel_rfl) (by as_aux_lemma=>kernel_rfl)) (by as_aux_lemma=>kernel_rfl) (by as_aux_lemma=>kernel_rfl) (by as_aux_lemma=>kernel_rfl)
   (by rw [xL];exact sD os _)) ?_
 intro W base args ds gs before hval0 hW hL hsh
 have hval:∀(j:Nat) t v,Tryz.f9.params[j]? = some t→args[j]? = some v→Value.okWide Tryz.prog W .any base t v:=hval0
 have hW':=hW
 obtain ⟨p,q,hA0,hV,rfl,_,_⟩:=hW
 have hA:DataW.TrodAll enc Tryz.prog W 0 (fun _=>true) true Tryz.f9.params.toList args.toList ds p:=hA0
 rw [Tryz.params9] at hA hval
 obtain ⟨v0,d0,rfl,rfl,h0⟩:=trodAll_one hA
 rw [xL] at hL
 obtain ⟨cs,c,rfl,rpc⟩:=oQ (hval 0 27 v0 rfl rfl) h0
 refine (y8j rpc (z1c hsh hL) (Mem.whole W)).mono fun e W' ⟨he,hm⟩ =>?_
 subst he
 exact ⟨_,rfl,sF hW' rfl (fun gs hg=>by subst hg;rfl) uP (by rw [Tryz.params9];exact fun t ht=>z2o z8j ht) hm⟩
theorem z4h:Rows.LevelPathsSaid :=
 OpenClaim.holds_of_wide 9 Tryz.f9 rfl rfl rfl rfl rfl rfl rfl ⟨rfl,rfl,rfl,rfl,rfl⟩ rfl rfl rfl rfl rfl levelPaths_named Tryz.func9 z1x
  (of_decide_eq_true (by as_aux_lemma=>kernel_rfl)) (by unfold Func.isWrapper;first | (rw [if_pos (by decide +kernel)];as_aux_lemma=>kernel_rfl) | (rw [if_neg (by decide +kernel)];exact ⟨rfl,rfl⟩))
  (fun os started H enc _=>z1y os started H enc)
theorem levelPaths_card:Rows.LevelPathsCardSaid :=
 Claim7.holds_tied_plain_at .later [] [.data,.data,.data,.data,.sentinel,.sentinel,.pinned] true (true,"8dfb172be620e644952a3b3fbef38f53abbde8464159391a13788f707abd56a4") true z4h (fun _ h=>by cases h) z2a (fun _ h=>by cases h) levelPaths_row_tie rfl ⟨rfl,rfl⟩ z2d rfl
  (fun f fn hf hfn=>by
   obtain rfl:f=9:=Option.some.inj (levelPaths_named.symm.trans hf) |>.symm
   obtain rfl:fn=Tryz.f9:=(Option.some.inj (Tryz.func9.symm.trans hfn)).symm
   exact ⟨sI,fun j t ht=>by
    rw [Tryz.params9] at ht
    have hm:t∈[27]:=by simpa using Array.mem_of_getElem? ht
    exact (show Tryz.prog.wantsStandIn t=false by simpa using List.all_eq_true.1 z4i t hm)⟩)
  z8i
#print axioms levelPaths_card
end Go.Proofs.YtghdfphedgcpdaaGreatDoor
