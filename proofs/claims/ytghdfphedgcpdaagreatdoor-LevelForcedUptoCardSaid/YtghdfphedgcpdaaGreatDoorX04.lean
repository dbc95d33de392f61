import Derived.Test.YtghdfphedgcpdaaGreatDoorProg
import Derived.Shelf.Strings.Builder1
import Derived.Shelf.LaysM
import Derived.Shelf.LaysC
import Derived.Shelf.Strconv.Itoa3
import Derived.Shelf.Strconv.AtoiAll
import Derived.Shelf.Strings.Search1
import Derived.Shelf.Strings.Replace
import Derived.Shelf.Strings.IndexAny
import Derived.Shelf.Strings.IndexAnyAll
import Derived.Test.YtghdfphedgcpdaaGreatDoorX00
import Derived.Test.YtghdfphedgcpdaaGreatDoorX01
import Derived.Test.YtghdfphedgcpdaaGreatDoorX02
import Derived.Test.YtghdfphedgcpdaaGreatDoorX03
set_option linter.unusedVariables false
set_option linter.unusedSimpArgs false
namespace Go.Sw
open Go.Proofs.Tryz
open Go.Proofs
set_option maxRecDepth 20000
set_option maxHeartbeats 4000000
variable {Φ:Fz} {K:List Res} {w:World}
theorem q2n {Φ:Fz} {w:World} {σ:Type} {step:σ→Ex→Bool×σ} {Kf:σ→List Res} {g:Nat} {fs cs:List Value} {s0:σ} {v0:Value} {l:List Ex} (hl:SliceOf REx Φ 5 v0 l)
  (hg:∀args w,(callFunc g args).run prog w=.ok (.enter g args) w)
  (hf:∀s x c w,x∈l→REx Φ c x→Mem Φ (Kf s) w→Calls prog g (fs++[Value.agg c.toArray]++cs).toArray w (fun e w'=>e=.returned (.bool (step s x).1)∧Mem Φ (Kf (step s x).2) w'))
  (hm:Mem Φ (Kf s0) w):Calls prog 154 (List.toArray [v0,.func (.func g) fs.toArray cs.toArray]) w (fun e w'=>e=.returned (.int .i64 (yM step s0 l 0).1)∧Mem Φ (Kf (yM step s0 l 0).2) w'):=by
 obtain ⟨p0,c0,rfl,hm0,hn0⟩:=hl.fm
 refine zN func154 ntmps154 fun Q hQ a he =>?_
 refine go fun a he =>?_
 refine xB (fun mm a w=>∃(i:Nat) (s:σ),mm=l.length - i∧EnvR 19 [(0,.slice p0 l.length c0),(1,.func (.func g) (List.toArray fs) (List.toArray cs)),(7,.int .i64 ((l.length:Nat):Int)),(8,.int .i64 ((i:Nat):Int))] [] a∧Mem Φ (Kf s) w∧(yM step s0 l 0=yM step s (l.drop i) i)) (l.length - 0) ⟨0,s0,rfl,he.pk,hm,rfl⟩ ?_
 clear hm he
 rintro mm a w ⟨i,s,hmu,he,hm,hI5⟩ L4 hL4
 by_cases h7:i < l.length
 refine go fun a he =>?_
 obtain ⟨q12,rfl,x13,hx14,cs15,hl16,ha17,hr18⟩:=hl.el hn0 h7
 obtain ⟨p21,c22,p27,c28,rfl,hi31,h20,h26,hm23,hn24,hm29,hn30⟩:=REx.fm hr18
 refine q1r hg (fun hB32 w hm a he =>?_) (fun hB32 w hm a he =>?_) (c:=by exact hf s _ _ _ (List.mem_of_getElem? hx14) hr18 hm)
 refine zF ?_
 have hf_:=hI5
 rw [zA hx14] at hf_
 simp only [yM,hB32,if_true] at hf_
 rw [hf_]
 exact ⟨rfl,hm⟩
 refine go fun a he =>?_
 refine hL4 _ _ _ (by subst hmu;omega) ⟨(i+1),((step s x13).2),rfl,he.pk,hm,?_⟩
 rw [hI5,zA hx14];simp [yM,hB32]
 refine zF ?_
 have hf_:=hI5
 rw [zH h7] at hf_
 simp only [yM] at hf_
 rw [hf_]
 exact ⟨rfl,hm⟩
theorem z6i {Φ:Fz} {w:World} {σ:Type} {step:σ→Ex→Bool×σ} {Kf:σ→List Res} {g:Nat} {fs cs:List Value} {s0:σ} {v0:Value} {l:List Ex} (hl:SliceOf REx Φ 5 v0 l)
  (hg:∀args w,(callFunc g args).run prog w=.ok (.enter g args) w)
  (hf:∀s x c w,x∈l→REx Φ c x→Mem Φ (Kf s) w→Calls prog g (fs++[Value.agg c.toArray]++cs).toArray w (fun e w'=>e=.returned (.bool (step s x).1)∧Mem Φ (Kf (step s x).2) w'))
  (hm:Mem Φ (Kf s0) w):Calls prog 119 (List.toArray [v0,.func (.func g) fs.toArray cs.toArray]) w (fun e w'=>e=.returned (.bool (z3s step s0 l))∧Mem Φ (Kf (yM step s0 l 0).2) w'):=by
 obtain ⟨p0,c0,rfl,hm0,hn0⟩:=hl.fm
 refine Calls.mono (R:=fun e w'=>e=.returned (.bool (decide (0≤(yM step s0 l 0).1)))∧Mem Φ (Kf (yM step s0 l 0).2) w') ?_ (fun e w' h=>by rw [vG] at h;exact h)
 refine zN func119 ntmps119 fun Q hQ a he =>?_
 refine zT call154 (fun w hm a he =>?_) (c:=q2n (Φ:=Φ) (step:=step) (Kf:=Kf) (s0:=s0) (l:=l) hl hg hf hm)
 refine Qq (fun a he =>?_) (o:=by exact fun he hs=>sZ he rfl rfl)
 refine zF ?_
 exact ⟨rfl,hm⟩
theorem q8c {p:Ex→Bool} {g:Nat} {fs cs:List Value} {v0:Value} {l:List Ex} (hl:SliceOf REx Φ 5 v0 l)
  (hg:∀args w,(callFunc g args).run prog w=.ok (.enter g args) w)
  (hf:∀x c w,x∈l→REx Φ c x→Mem Φ K w→Calls prog g (fs++[Value.agg c.toArray]++cs).toArray w (fun e w'=>e=.returned (.bool (p x))∧Mem Φ K w'))
  (hm:Mem Φ K w):Calls prog 119 (List.toArray [v0,.func (.func g) fs.toArray cs.toArray]) w (fun e w'=>e=.returned (.bool (l.any p))∧Mem Φ K w') :=
 (z6i (σ:=Unit) (step:=fun s x=>(p x,s)) (Kf:=fun _=>K) (s0:=()) hl hg (fun _ x c w hx hc hm=>hf x c w hx hc hm) hm).mono (fun e w' h=>by rw [pT] at h;exact h)
theorem y6w {Φ:Fz} {w:World} {σ:Type} {step:σ→Arm→Bool×σ} {Kf:σ→List Res} {g:Nat} {fs cs:List Value} {s0:σ} {v0:Value} {l:List Arm} (hl:SliceOf RArm Φ 7 v0 l)
  (hg:∀args w,(callFunc g args).run prog w=.ok (.enter g args) w)
  (hf:∀s x c w,x∈l→RArm Φ c x→Mem Φ (Kf s) w→Calls prog g (fs++[Value.agg c.toArray]++cs).toArray w (fun e w'=>e=.returned (.bool (step s x).1)∧Mem Φ (Kf (step s x).2) w'))
  (hm:Mem Φ (Kf s0) w):Calls prog 155 (List.toArray [v0,.func (.func g) fs.toArray cs.toArray]) w (fun e w'=>e=.returned (.int .i64 (yM step s0 l 0).1)∧Mem Φ (Kf (yM step s0 l 0).2) w'):=by
 obtain ⟨p0,c0,rfl,hm0,hn0⟩:=hl.fm
 refine zN func155 ntmps155 fun Q hQ a he =>?_
 refine go fun a he =>?_
 refine xB (fun mm a w=>∃(i:Nat) (s:σ),mm=l.length - i∧EnvR 19 [(0,.slice p0 l.length c0),(1,.func (.func g) (List.toArray fs) (List.toArray cs)),(7,.int .i64 ((l.length:Nat):Int)),(8,.int .i64 ((i:Nat):Int))] [] a∧Mem Φ (Kf s) w∧(yM step s0 l 0=yM step s (l.drop i) i)) (l.length - 0) ⟨0,s0,rfl,he.pk,hm,rfl⟩ ?_
 clear hm he
 rintro mm a w ⟨i,s,hmu,he,hm,hI5⟩ L4 hL4
 by_cases h7:i < l.length
 refine go fun a he =>?_
 obtain ⟨q12,rfl,x13,hx14,cs15,hl16,ha17,hr18⟩:=hl.el hn0 h7
 obtain ⟨s19,b25,rfl,h20,h26⟩:=RArm.iff.1 hr18
 obtain ⟨p21,c22,rfl,hm23,hn24⟩:=h20.fm
 obtain ⟨p29,c30,p35,c36,rfl,hi39,h28,h34,hm31,hn32,hm37,hn38⟩:=REx.fm h26
 refine q1r hg (fun hB40 w hm a he =>?_) (fun hB40 w hm a he =>?_) (c:=by exact hf s _ _ _ (List.mem_of_getElem? hx14) hr18 hm)
 refine zF ?_
 have hf_:=hI5
 rw [zA hx14] at hf_
 simp only [yM,hB40,if_true] at hf_
 rw [hf_]
 exact ⟨rfl,hm⟩
 refine go fun a he =>?_
 refine hL4 _ _ _ (by subst hmu;omega) ⟨(i+1),((step s x13).2),rfl,he.pk,hm,?_⟩
 rw [hI5,zA hx14];simp [yM,hB40]
 refine zF ?_
 have hf_:=hI5
 rw [zH h7] at hf_
 simp only [yM] at hf_
 rw [hf_]
 exact ⟨rfl,hm⟩
theorem z3h {Φ:Fz} {w:World} {σ:Type} {step:σ→Arm→Bool×σ} {Kf:σ→List Res} {g:Nat} {fs cs:List Value} {s0:σ} {v0:Value} {l:List Arm} (hl:SliceOf RArm Φ 7 v0 l)
  (hg:∀args w,(callFunc g args).run prog w=.ok (.enter g args) w)
  (hf:∀s x c w,x∈l→RArm Φ c x→Mem Φ (Kf s) w→Calls prog g (fs++[Value.agg c.toArray]++cs).toArray w (fun e w'=>e=.returned (.bool (step s x).1)∧Mem Φ (Kf (step s x).2) w'))
  (hm:Mem Φ (Kf s0) w):Calls prog 121 (List.toArray [v0,.func (.func g) fs.toArray cs.toArray]) w (fun e w'=>e=.returned (.bool (z3s step s0 l))∧Mem Φ (Kf (yM step s0 l 0).2) w'):=by
 obtain ⟨p0,c0,rfl,hm0,hn0⟩:=hl.fm
 refine Calls.mono (R:=fun e w'=>e=.returned (.bool (decide (0≤(yM step s0 l 0).1)))∧Mem Φ (Kf (yM step s0 l 0).2) w') ?_ (fun e w' h=>by rw [vG] at h;exact h)
 refine zN func121 ntmps121 fun Q hQ a he =>?_
 refine zT call155 (fun w hm a he =>?_) (c:=y6w (Φ:=Φ) (step:=step) (Kf:=Kf) (s0:=s0) (l:=l) hl hg hf hm)
 refine Qq (fun a he =>?_) (o:=by exact fun he hs=>sZ he rfl rfl)
 refine zF ?_
 exact ⟨rfl,hm⟩
theorem q3z {p:Arm→Bool} {g:Nat} {fs cs:List Value} {v0:Value} {l:List Arm} (hl:SliceOf RArm Φ 7 v0 l)
  (hg:∀args w,(callFunc g args).run prog w=.ok (.enter g args) w)
  (hf:∀x c w,x∈l→RArm Φ c x→Mem Φ K w→Calls prog g (fs++[Value.agg c.toArray]++cs).toArray w (fun e w'=>e=.returned (.bool (p x))∧Mem Φ K w'))
  (hm:Mem Φ K w):Calls prog 121 (List.toArray [v0,.func (.func g) fs.toArray cs.toArray]) w (fun e w'=>e=.returned (.bool (l.any p))∧Mem Φ K w') :=
 (z3h (σ:=Unit) (step:=fun s x=>(p x,s)) (Kf:=fun _=>K) (s0:=()) hl hg (fun _ x c w hx hc hm=>hf x c w hx hc hm) hm).mono (fun e w' h=>by rw [pT] at h;exact h)
theorem y6y {Φ:Fz} {w:World} {σ:Type} {step:σ→Fun→Bool×σ} {Kf:σ→List Res} {g:Nat} {fs cs:List Value} {s0:σ} {v0:Value} {l:List Fun} (hl:SliceOf RFun Φ 8 v0 l)
  (hg:∀args w,(callFunc g args).run prog w=.ok (.enter g args) w)
  (hf:∀s x c w,x∈l→RFun Φ c x→Mem Φ (Kf s) w→Calls prog g (fs++[Value.agg c.toArray]++cs).toArray w (fun e w'=>e=.returned (.bool (step s x).1)∧Mem Φ (Kf (step s x).2) w'))
  (hm:Mem Φ (Kf s0) w):Calls prog 118 (List.toArray [v0,.func (.func g) fs.toArray cs.toArray]) w (fun e w'=>e=.returned (.int .i64 (yM step s0 l 0).1)∧Mem Φ (Kf (yM step s0 l 0).2) w'):=by
 obtain ⟨p0,c0,rfl,hm0,hn0⟩:=hl.fm
 refine zN func118 ntmps118 fun Q hQ a he =>?_
 refine go fun a he =>?_
 refine xB (fun mm a w=>∃(i:Nat) (s:σ),mm=l.length - i∧EnvR 19 [(0,.slice p0 l.length c0),(1,.func (.func g) (List.toArray fs) (List.toArray cs)),(7,.int .i64 ((l.length:Nat):Int)),(8,.int .i64 ((i:Nat):Int))] [] a∧Mem Φ (Kf s) w∧(yM step s0 l 0=yM step s (l.drop i) i)) (l.length - 0) ⟨0,s0,rfl,he.pk,hm,rfl⟩ ?_
 clear hm he
 rintro mm a w ⟨i,s,hmu,he,hm,hI5⟩ L4 hL4
 by_cases h7:i < l.length
 refine go fun a he =>?_
 obtain ⟨q12,rfl,x13,hx14,cs15,hl16,ha17,hr18⟩:=hl.el hn0 h7
 obtain ⟨s19,b25,rfl,h20,h26⟩:=id hr18
 obtain ⟨p21,c22,rfl,hm23,hn24⟩:=h20.fm
 obtain ⟨p29,c30,p35,c36,rfl,hi39,h28,h34,hm31,hn32,hm37,hn38⟩:=REx.fm h26
 refine q1r hg (fun hB40 w hm a he =>?_) (fun hB40 w hm a he =>?_) (c:=by exact hf s _ _ _ (List.mem_of_getElem? hx14) hr18 hm)
 refine zF ?_
 have hf_:=hI5
 rw [zA hx14] at hf_
 simp only [yM,hB40,if_true] at hf_
 rw [hf_]
 exact ⟨rfl,hm⟩
 refine go fun a he =>?_
 refine hL4 _ _ _ (by subst hmu;omega) ⟨(i+1),((step s x13).2),rfl,he.pk,hm,?_⟩
 rw [hI5,zA hx14];simp [yM,hB40]
 refine zF ?_
 have hf_:=hI5
 rw [zH h7] at hf_
 simp only [yM] at hf_
 rw [hf_]
 exact ⟨rfl,hm⟩
theorem z3j {Φ:Fz} {w:World} {σ:Type} {step:σ→Fun→Bool×σ} {Kf:σ→List Res} {g:Nat} {fs cs:List Value} {s0:σ} {v0:Value} {l:List Fun} (hl:SliceOf RFun Φ 8 v0 l)
  (hg:∀args w,(callFunc g args).run prog w=.ok (.enter g args) w)
  (hf:∀s x c w,x∈l→RFun Φ c x→Mem Φ (Kf s) w→Calls prog g (fs++[Value.agg c.toArray]++cs).toArray w (fun e w'=>e=.returned (.bool (step s x).1)∧Mem Φ (Kf (step s x).2) w'))
  (hm:Mem Φ (Kf s0) w):Calls prog 86 (List.toArray [v0,.func (.func g) fs.toArray cs.toArray]) w (fun e w'=>e=.returned (.bool (z3s step s0 l))∧Mem Φ (Kf (yM step s0 l 0).2) w'):=by
 obtain ⟨p0,c0,rfl,hm0,hn0⟩:=hl.fm
 refine Calls.mono (R:=fun e w'=>e=.returned (.bool (decide (0≤(yM step s0 l 0).1)))∧Mem Φ (Kf (yM step s0 l 0).2) w') ?_ (fun e w' h=>by rw [vG] at h;exact h)
 refine zN func86 ntmps86 fun Q hQ a he =>?_
 refine zT call118 (fun w hm a he =>?_) (c:=y6y (Φ:=Φ) (step:=step) (Kf:=Kf) (s0:=s0) (l:=l) hl hg hf hm)
 refine Qq (fun a he =>?_) (o:=by exact fun he hs=>sZ he rfl rfl)
 refine zF ?_
 exact ⟨rfl,hm⟩
theorem q4b {p:Fun→Bool} {g:Nat} {fs cs:List Value} {v0:Value} {l:List Fun} (hl:SliceOf RFun Φ 8 v0 l)
  (hg:∀args w,(callFunc g args).run prog w=.ok (.enter g args) w)
  (hf:∀x c w,x∈l→RFun Φ c x→Mem Φ K w→Calls prog g (fs++[Value.agg c.toArray]++cs).toArray w (fun e w'=>e=.returned (.bool (p x))∧Mem Φ K w'))
  (hm:Mem Φ K w):Calls prog 86 (List.toArray [v0,.func (.func g) fs.toArray cs.toArray]) w (fun e w'=>e=.returned (.bool (l.any p))∧Mem Φ K w') :=
 (z3j (σ:=Unit) (step:=fun s x=>(p x,s)) (Kf:=fun _=>K) (s0:=()) hl hg (fun _ x c w hx hc hm=>hf x c w hx hc hm) hm).mono (fun e w' h=>by rw [pT] at h;exact h)
theorem y6x {Φ:Fz} {w:World} {σ:Type} {step:σ→Con→Bool×σ} {Kf:σ→List Res} {g:Nat} {fs cs:List Value} {s0:σ} {v0:Value} {l:List Con} (hl:SliceOf RCon Φ 2 v0 l)
  (hg:∀args w,(callFunc g args).run prog w=.ok (.enter g args) w)
  (hf:∀s x c w,x∈l→RCon Φ c x→Mem Φ (Kf s) w→Calls prog g (fs++[Value.agg c.toArray]++cs).toArray w (fun e w'=>e=.returned (.bool (step s x).1)∧Mem Φ (Kf (step s x).2) w'))
  (hm:Mem Φ (Kf s0) w):Calls prog 156 (List.toArray [v0,.func (.func g) fs.toArray cs.toArray]) w (fun e w'=>e=.returned (.int .i64 (yM step s0 l 0).1)∧Mem Φ (Kf (yM step s0 l 0).2) w'):=by
 obtain ⟨p0,c0,rfl,hm0,hn0⟩:=hl.fm
 refine zN func156 ntmps156 fun Q hQ a he =>?_
 refine go fun a he =>?_
 refine xB (fun mm a w=>∃(i:Nat) (s:σ),mm=l.length - i∧EnvR 19 [(0,.slice p0 l.length c0),(1,.func (.func g) (List.toArray fs) (List.toArray cs)),(7,.int .i64 ((l.length:Nat):Int)),(8,.int .i64 ((i:Nat):Int))] [] a∧Mem Φ (Kf s) w∧(yM step s0 l 0=yM step s (l.drop i) i)) (l.length - 0) ⟨0,s0,rfl,he.pk,hm,rfl⟩ ?_
 clear hm he
 rintro mm a w ⟨i,s,hmu,he,hm,hI5⟩ L4 hL4
 by_cases h7:i < l.length
 refine go fun a he =>?_
 obtain ⟨q12,rfl,x13,hx14,cs15,hl16,ha17,hr18⟩:=hl.el hn0 h7
 obtain ⟨s19,rfl,h20⟩:=id hr18
 obtain ⟨p21,c22,rfl,hm23,hn24⟩:=h20.fm
 refine q1r hg (fun hB25 w hm a he =>?_) (fun hB25 w hm a he =>?_) (c:=by exact hf s _ _ _ (List.mem_of_getElem? hx14) hr18 hm)
 refine zF ?_
 have hf_:=hI5
 rw [zA hx14] at hf_
 simp only [yM,hB25,if_true] at hf_
 rw [hf_]
 exact ⟨rfl,hm⟩
 refine go fun a he =>?_
 refine hL4 _ _ _ (by subst hmu;omega) ⟨(i+1),((step s x13).2),rfl,he.pk,hm,?_⟩
 rw [hI5,zA hx14];simp [yM,hB25]
 refine zF ?_
 have hf_:=hI5
 rw [zH h7] at hf_
 simp only [yM] at hf_
 rw [hf_]
 exact ⟨rfl,hm⟩
theorem z3i {Φ:Fz} {w:World} {σ:Type} {step:σ→Con→Bool×σ} {Kf:σ→List Res} {g:Nat} {fs cs:List Value} {s0:σ} {v0:Value} {l:List Con} (hl:SliceOf RCon Φ 2 v0 l)
  (hg:∀args w,(callFunc g args).run prog w=.ok (.enter g args) w)
  (hf:∀s x c w,x∈l→RCon Φ c x→Mem Φ (Kf s) w→Calls prog g (fs++[Value.agg c.toArray]++cs).toArray w (fun e w'=>e=.returned (.bool (step s x).1)∧Mem Φ (Kf (step s x).2) w'))
  (hm:Mem Φ (Kf s0) w):Calls prog 123 (List.toArray [v0,.func (.func g) fs.toArray cs.toArray]) w (fun e w'=>e=.returned (.bool (z3s step s0 l))∧Mem Φ (Kf (yM step s0 l 0).2) w'):=by
 obtain ⟨p0,c0,rfl,hm0,hn0⟩:=hl.fm
 refine Calls.mono (R:=fun e w'=>e=.returned (.bool (decide (0≤(yM step s0 l 0).1)))∧Mem Φ (Kf (yM step s0 l 0).2) w') ?_ (fun e w' h=>by rw [vG] at h;exact h)
 refine zN func123 ntmps123 fun Q hQ a he =>?_
 refine zT call156 (fun w hm a he =>?_) (c:=y6x (Φ:=Φ) (step:=step) (Kf:=Kf) (s0:=s0) (l:=l) hl hg hf hm)
 refine Qq (fun a he =>?_) (o:=by exact fun he hs=>sZ he rfl rfl)
 refine zF ?_
 exact ⟨rfl,hm⟩
theorem q4a {p:Con→Bool} {g:Nat} {fs cs:List Value} {v0:Value} {l:List Con} (hl:SliceOf RCon Φ 2 v0 l)
  (hg:∀args w,(callFunc g args).run prog w=.ok (.enter g args) w)
  (hf:∀x c w,x∈l→RCon Φ c x→Mem Φ K w→Calls prog g (fs++[Value.agg c.toArray]++cs).toArray w (fun e w'=>e=.returned (.bool (p x))∧Mem Φ K w'))
  (hm:Mem Φ K w):Calls prog 123 (List.toArray [v0,.func (.func g) fs.toArray cs.toArray]) w (fun e w'=>e=.returned (.bool (l.any p))∧Mem Φ K w') :=
 (z3i (σ:=Unit) (step:=fun s x=>(p x,s)) (Kf:=fun _=>K) (s0:=()) hl hg (fun _ x c w hx hc hm=>hf x c w hx hc hm) hm).mono (fun e w' h=>by rw [pT] at h;exact h)
theorem z6j {Φ:Fz} {w:World} {σ:Type} {step:σ→Param→Bool×σ} {Kf:σ→List Res} {g:Nat} {fs cs:List Value} {s0:σ} {v0:Value} {l:List Param} (hl:SliceOf RParam Φ 2 v0 l)
  (hg:∀args w,(callFunc g args).run prog w=.ok (.enter g args) w)
  (hf:∀s x c w,x∈l→RParam Φ c x→Mem Φ (Kf s) w→Calls prog g (fs++[Value.agg c.toArray]++cs).toArray w (fun e w'=>e=.returned (.bool (step s x).1)∧Mem Φ (Kf (step s x).2) w'))
  (hm:Mem Φ (Kf s0) w):Calls prog 164 (List.toArray [v0,.func (.func g) fs.toArray cs.toArray]) w (fun e w'=>e=.returned (.int .i64 (yM step s0 l 0).1)∧Mem Φ (Kf (yM step s0 l 0).2) w'):=by
 obtain ⟨p0,c0,rfl,hm0,hn0⟩:=hl.fm
 refine zN func164 ntmps164 fun Q hQ a he =>?_
 refine go fun a he =>?_
 refine xB (fun mm a w=>∃(i:Nat) (s:σ),mm=l.length - i∧EnvR 19 [(0,.slice p0 l.length c0),(1,.func (.func g) (List.toArray fs) (List.toArray cs)),(7,.int .i64 ((l.length:Nat):Int)),(8,.int .i64 ((i:Nat):Int))] [] a∧Mem Φ (Kf s) w∧(yM step s0 l 0=yM step s (l.drop i) i)) (l.length - 0) ⟨0,s0,rfl,he.pk,hm,rfl⟩ ?_
 clear hm he
 rintro mm a w ⟨i,s,hmu,he,hm,hI5⟩ L4 hL4
 by_cases h7:i < l.length
 refine go fun a he =>?_
 obtain ⟨q12,rfl,x13,hx14,cs15,hl16,ha17,hr18⟩:=hl.el hn0 h7
 obtain rfl:=id hr18
 refine q1r hg (fun hB19 w hm a he =>?_) (fun hB19 w hm a he =>?_) (c:=by exact hf s _ _ _ (List.mem_of_getElem? hx14) hr18 hm)
 refine zF ?_
 have hf_:=hI5
 rw [zA hx14] at hf_
 simp only [yM,hB19,if_true] at hf_
 rw [hf_]
 exact ⟨rfl,hm⟩
 refine go fun a he =>?_
 refine hL4 _ _ _ (by subst hmu;omega) ⟨(i+1),((step s x13).2),rfl,he.pk,hm,?_⟩
 rw [hI5,zA hx14];simp [yM,hB19]
 refine zF ?_
 have hf_:=hI5
 rw [zH h7] at hf_
 simp only [yM] at hf_
 rw [hf_]
 exact ⟨rfl,hm⟩
theorem uB {Φ:Fz} {w:World} {σ:Type} {step:σ→Param→Bool×σ} {Kf:σ→List Res} {g:Nat} {fs cs:List Value} {s0:σ} {v0:Value} {l:List Param} (hl:SliceOf RParam Φ 2 v0 l)
  (hg:∀args w,(callFunc g args).run prog w=.ok (.enter g args) w)
  (hf:∀s x c w,x∈l→RParam Φ c x→Mem Φ (Kf s) w→Calls prog g (fs++[Value.agg c.toArray]++cs).toArray w (fun e w'=>e=.returned (.bool (step s x).1)∧Mem Φ (Kf (step s x).2) w'))
  (hm:Mem Φ (Kf s0) w):Calls prog 129 (List.toArray [v0,.func (.func g) fs.toArray cs.toArray]) w (fun e w'=>e=.returned (.bool (z3s step s0 l))∧Mem Φ (Kf (yM step s0 l 0).2) w'):=by
 obtain ⟨p0,c0,rfl,hm0,hn0⟩:=hl.fm
 refine Calls.mono (R:=fun e w'=>e=.returned (.bool (decide (0≤(yM step s0 l 0).1)))∧Mem Φ (Kf (yM step s0 l 0).2) w') ?_ (fun e w' h=>by rw [vG] at h;exact h)
 refine zN func129 ntmps129 fun Q hQ a he =>?_
 refine zT call164 (fun w hm a he =>?_) (c:=z6j (Φ:=Φ) (step:=step) (Kf:=Kf) (s0:=s0) (l:=l) hl hg hf hm)
 refine Qq (fun a he =>?_) (o:=by exact fun he hs=>sZ he rfl rfl)
 refine zF ?_
 exact ⟨rfl,hm⟩
theorem y6q {p:Param→Bool} {g:Nat} {fs cs:List Value} {v0:Value} {l:List Param} (hl:SliceOf RParam Φ 2 v0 l)
  (hg:∀args w,(callFunc g args).run prog w=.ok (.enter g args) w)
  (hf:∀x c w,x∈l→RParam Φ c x→Mem Φ K w→Calls prog g (fs++[Value.agg c.toArray]++cs).toArray w (fun e w'=>e=.returned (.bool (p x))∧Mem Φ K w'))
  (hm:Mem Φ K w):Calls prog 129 (List.toArray [v0,.func (.func g) fs.toArray cs.toArray]) w (fun e w'=>e=.returned (.bool (l.any p))∧Mem Φ K w') :=
 (uB (σ:=Unit) (step:=fun s x=>(p x,s)) (Kf:=fun _=>K) (s0:=()) hl hg (fun _ x c w hx hc hm=>hf x c w hx hc hm) hm).mono (fun e w' h=>by rw [pT] at h;exact h)
theorem q2m {Φ:Fz} {w:World} {σ:Type} {step:σ→Bs→Bool×σ} {Kf:σ→List Res} {g:Nat} {fs cs:List Value} {s0:σ} {v0:Value} {l:List Bs} (hl:SliceOf RStr Φ 1 v0 l)
  (hg:∀args w,(callFunc g args).run prog w=.ok (.enter g args) w)
  (hf:∀s x c w,x∈l→RStr Φ c x→Mem Φ (Kf s) w→Calls prog g (fs++[Value.string x]++cs).toArray w (fun e w'=>e=.returned (.bool (step s x).1)∧Mem Φ (Kf (step s x).2) w'))
  (hm:Mem Φ (Kf s0) w):Calls prog 105 (List.toArray [v0,.func (.func g) fs.toArray cs.toArray]) w (fun e w'=>e=.returned (.int .i64 (yM step s0 l 0).1)∧Mem Φ (Kf (yM step s0 l 0).2) w'):=by
 obtain ⟨p0,c0,rfl,hm0,hn0⟩:=hl.fm
 refine zN func105 ntmps105 fun Q hQ a he =>?_
 refine go fun a he =>?_
 refine xB (fun mm a w=>∃(i:Nat) (s:σ),mm=l.length - i∧EnvR 19 [(0,.slice p0 l.length c0),(1,.func (.func g) (List.toArray fs) (List.toArray cs)),(7,.int .i64 ((l.length:Nat):Int)),(8,.int .i64 ((i:Nat):Int))] [] a∧Mem Φ (Kf s) w∧(yM step s0 l 0=yM step s (l.drop i) i)) (l.length - 0) ⟨0,s0,rfl,he.pk,hm,rfl⟩ ?_
 clear hm he
 rintro mm a w ⟨i,s,hmu,he,hm,hI5⟩ L4 hL4
 by_cases h7:i < l.length
 refine go fun a he =>?_
 obtain ⟨q12,rfl,x13,hx14,cs15,hl16,ha17,hr18⟩:=hl.el hn0 h7
 obtain rfl:cs15=[.string x13]:=hr18
 refine q1r hg (fun hB19 w hm a he =>?_) (fun hB19 w hm a he =>?_) (c:=by exact hf s _ _ _ (List.mem_of_getElem? hx14) rfl hm)
 refine zF ?_
 have hf_:=hI5
 rw [zA hx14] at hf_
 simp only [yM,hB19,if_true] at hf_
 rw [hf_]
 exact ⟨rfl,hm⟩
 refine go fun a he =>?_
 refine hL4 _ _ _ (by subst hmu;omega) ⟨(i+1),((step s x13).2),rfl,he.pk,hm,?_⟩
 rw [hI5,zA hx14];simp [yM,hB19]
 refine zF ?_
 have hf_:=hI5
 rw [zH h7] at hf_
 simp only [yM] at hf_
 rw [hf_]
 exact ⟨rfl,hm⟩
theorem z6h {Φ:Fz} {w:World} {σ:Type} {step:σ→Bs→Bool×σ} {Kf:σ→List Res} {g:Nat} {fs cs:List Value} {s0:σ} {v0:Value} {l:List Bs} (hl:SliceOf RStr Φ 1 v0 l)
  (hg:∀args w,(callFunc g args).run prog w=.ok (.enter g args) w)
  (hf:∀s x c w,x∈l→RStr Φ c x→Mem Φ (Kf s) w→Calls prog g (fs++[Value.string x]++cs).toArray w (fun e w'=>e=.returned (.bool (step s x).1)∧Mem Φ (Kf (step s x).2) w'))
  (hm:Mem Φ (Kf s0) w):Calls prog 69 (List.toArray [v0,.func (.func g) fs.toArray cs.toArray]) w (fun e w'=>e=.returned (.bool (z3s step s0 l))∧Mem Φ (Kf (yM step s0 l 0).2) w'):=by
 obtain ⟨p0,c0,rfl,hm0,hn0⟩:=hl.fm
 refine Calls.mono (R:=fun e w'=>e=.returned (.bool (decide (0≤(yM step s0 l 0).1)))∧Mem Φ (Kf (yM step s0 l 0).2) w') ?_ (fun e w' h=>by rw [vG] at h;exact h)
 refine zN func69 ntmps69 fun Q hQ a he =>?_
 refine zT call105 (fun w hm a he =>?_) (c:=q2m (Φ:=Φ) (step:=step) (Kf:=Kf) (s0:=s0) (l:=l) hl hg hf hm)
 refine Qq (fun a he =>?_) (o:=by exact fun he hs=>sZ he rfl rfl)
 refine zF ?_
 exact ⟨rfl,hm⟩
theorem uA {p:Bs→Bool} {g:Nat} {fs cs:List Value} {v0:Value} {l:List Bs} (hl:SliceOf RStr Φ 1 v0 l)
  (hg:∀args w,(callFunc g args).run prog w=.ok (.enter g args) w)
  (hf:∀x c w,x∈l→RStr Φ c x→Mem Φ K w→Calls prog g (fs++[Value.string x]++cs).toArray w (fun e w'=>e=.returned (.bool (p x))∧Mem Φ K w'))
  (hm:Mem Φ K w):Calls prog 69 (List.toArray [v0,.func (.func g) fs.toArray cs.toArray]) w (fun e w'=>e=.returned (.bool (l.any p))∧Mem Φ K w') :=
 (z6h (σ:=Unit) (step:=fun s x=>(p x,s)) (Kf:=fun _=>K) (s0:=()) hl hg (fun _ x c w hx hc hm=>hf x c w hx hc hm) hm).mono (fun e w' h=>by rw [pT] at h;exact h)
end Go.Sw

namespace Go.Sw
open Go.Proofs.Tryz
open Go.Proofs
set_option maxRecDepth 20000
set_option maxHeartbeats 4000000
variable {Φ:Fz} {K:List Res} {w:World}
theorem j8j {m:Nat} {d0:List Value} {e:Ex} {b:Nat} (rpe:REx Φ d0 e) (hmb:m < 100000) (ih:∀{Φ:Fz} {K:List Res} {w:World} {d:List Value} {e:Ex},REx Φ d e→Mem Φ K w→Calls prog 88 (List.toArray [.agg d.toArray,.int .i64 ((m:Nat):Int)]) w (fun ee w'=>ee=.returned (.bool (wS m e))∧Mem Φ K w')) (hm:Mem Φ (.blk b (ob [.int .i64 ((m+1:Nat):Int)] 3)::K) w) :
  Calls prog 120 (List.toArray [.agg d0.toArray,.pointer (some ⟨b,0,none⟩)]) w (fun ee w'=>ee=.returned (.bool (wS m e))∧Mem Φ (.blk b (ob [.int .i64 ((m+1:Nat):Int)] 3)::K) w'):=by
 obtain ⟨p3,c4,p9,c10,rfl,hi13,h2,h8,hm5,hn6,hm11,hn12⟩:=REx.fm rpe
 refine zN func120 ntmps120 fun Q hQ a he =>?_
 refine Bx fun b15 w hm a he =>?_
 refine Qq (fun a he =>?_) (o:=by exact fun he hs=>pE ((m:Nat):Int) he rfl rfl (by rw [xH (by omega)];omega))
 refine zT call88 (fun w hm a he =>?_) (c:=ih rpe hm)
 refine zF ?_
 replace hm:=hm.dl [0]
 exact yE hm (by rfl)
theorem j8k {m:Nat} {d0:List Value} {e:Arm} {b:Nat} (rpe:RArm Φ d0 e) (hmb:m < 100000) (ih:∀{Φ:Fz} {K:List Res} {w:World} {d:List Value} {e:Ex},REx Φ d e→Mem Φ K w→Calls prog 88 (List.toArray [.agg d.toArray,.int .i64 ((m:Nat):Int)]) w (fun ee w'=>ee=.returned (.bool (wS m e))∧Mem Φ K w')) (hm:Mem Φ (.blk b (ob [.int .i64 ((m+1:Nat):Int)] 3)::K) w) :
  Calls prog 122 (List.toArray [.agg d0.toArray,.pointer (some ⟨b,0,none⟩)]) w (fun ee w'=>ee=.returned (.bool (wS m e.body))∧Mem Φ (.blk b (ob [.int .i64 ((m+1:Nat):Int)] 3)::K) w'):=by
 obtain ⟨s1,b7,rfl,h2,h8⟩:=RArm.iff.1 rpe
 obtain ⟨p3,c4,rfl,hm5,hn6⟩:=h2.fm
 obtain ⟨p11,c12,p17,c18,rfl,hi21,h10,h16,hm13,hn14,hm19,hn20⟩:=REx.fm h8
 refine zN func122 ntmps122 fun Q hQ a he =>?_
 refine Bx fun b23 w hm a he =>?_
 refine Qq (fun a he =>?_) (o:=by exact fun he hs=>pE ((m:Nat):Int) he rfl rfl (by rw [xH (by omega)];omega))
 refine zT call88 (fun w hm a he =>?_) (c:=ih h8 hm)
 refine zF ?_
 replace hm:=hm.dl [0]
 exact yE hm (by rfl)
theorem j4m {d0:List Value} {e:Ex} (rpe:REx Φ d0 e) (hm:Mem Φ K w) :
  Calls prog 88 (List.toArray [.agg d0.toArray,.int .i64 ((0:Nat):Int)]) w (fun ee w'=>ee=.returned (.bool (wS 0 e))∧Mem Φ K w'):=by
 obtain ⟨p3,c4,p9,c10,rfl,hi13,h2,h8,hm5,hn6,hm11,hn12⟩:=REx.fm rpe
 refine zN func88 ntmps88 fun Q hQ a he =>?_
 refine Bx fun b15 w hm a he =>?_
 refine Bx fun b16 w hm a he =>?_
 refine Qq (fun a he =>?_) (o:=by exact fun he hs=>jR true he rfl rfl rfl)
 refine zF ?_
 replace hm:=hm.dl [1,0]
 exact yE hm (by rw [q8q])
theorem j4l {d0:List Value} {e:Ex} {m:Nat} (rpe:REx Φ d0 e) (hmb:m < 100000) (ih:∀{Φ:Fz} {K:List Res} {w:World} {d:List Value} {e:Ex},REx Φ d e→Mem Φ K w→Calls prog 88 (List.toArray [.agg d.toArray,.int .i64 ((m:Nat):Int)]) w (fun ee w'=>ee=.returned (.bool (wS m e))∧Mem Φ K w')) (hm:Mem Φ K w) :
  Calls prog 88 (List.toArray [.agg d0.toArray,.int .i64 ((m+1:Nat):Int)]) w (fun ee w'=>ee=.returned (.bool (wS (m+1) e))∧Mem Φ K w'):=by
 obtain ⟨p3,c4,p9,c10,rfl,hi13,h2,h8,hm5,hn6,hm11,hn12⟩:=REx.fm rpe
 refine zN func88 ntmps88 fun Q hQ a he =>?_
 refine Bx fun b15 w hm a he =>?_
 refine Bx fun b16 w hm a he =>?_
 by_cases h19:m+1=0
 refine zF ?_
 replace hm:=hm.dl [1,0]
 exact yE hm (by exact absurd h19 (by omega))
 refine yH call119 (fun hB22 w hm a he =>?_) (fun hB22 w hm a he =>?_) (c:=q8c (Φ:=Φ) (K:=.blk b16 (ob [.int .i64 ((m+1:Nat):Int)] 3)::.blk b15 (ob [.int .i64 (e.kind),.int .i64 (e.num),.string e.name,.slice p3 e.args.length c4,.slice p9 e.arms.length c10] 110)::K) (p:=wS m) (fs:=[]) (cs:=[.pointer (some ⟨b16,0,none⟩)]) h2 call120 (fun x c w hx hc hm=>j8j hc hmb ih hm) hm)
 refine zF ?_
 replace hm:=hm.dl [1,0]
 exact yE hm (by rw [z9m];simp [*])
 refine zT call121 (fun w hm a he =>?_) (c:=q3z (Φ:=Φ) (K:=.blk b16 (ob [.int .i64 ((m+1:Nat):Int)] 3)::.blk b15 (ob [.int .i64 (e.kind),.int .i64 (e.num),.string e.name,.slice p3 e.args.length c4,.slice p9 e.arms.length c10] 110)::K) (p:=fun a=>wS m a.body) (fs:=[]) (cs:=[.pointer (some ⟨b16,0,none⟩)]) h8 call122 (fun x c w hx hc hm=>j8k hc hmb ih hm) hm)
 refine zF ?_
 replace hm:=hm.dl [1,0]
 exact yE hm (by rw [z9m];simp [*])
end Go.Sw

namespace Go.Sw
open Go.Proofs.Tryz
open Go.Proofs
set_option maxRecDepth 20000
set_option maxHeartbeats 4000000
theorem q2t {Φ:Fz} {K:List Res} {w:World} {left:Int} {d0:List Value} {e:Ex} {b:Nat} (rpe:REx Φ d0 e) (h0:0≤left) (h1:left≤1000000) (ih:∀x:Ex,x.sz < e.sz→∀{Φ:Fz} {K:List Res} {w:World} {d:List Value} {b:Nat} {left:Int},0≤left→left≤1000000→REx Φ d x→Mem Φ (.blk b (ob [.int .i64 left] 3)::K) w→Calls prog 125 (List.toArray [.agg d.toArray,.pointer (some ⟨b,0,none⟩)]) w (fun ee w'=>ee=.returned (.bool (jD x left).1)∧Mem Φ (.blk b (ob [.int .i64 (jD x left).2] 3)::K) w')) (hm:Mem Φ (.blk b (ob [.int .i64 (left)] 3)::K) w) :
  Calls prog 125 (List.toArray [.agg d0.toArray,.pointer (some ⟨b,0,none⟩)]) w (fun ee w'=>ee=.returned (.bool ((jD e left).1))∧Mem Φ (.blk b (ob [.int .i64 ((jD e left).2)] 3)::K) w'):=by
 obtain ⟨p3,c4,p9,c10,rfl,hi13,h2,h8,hm5,hn6,hm11,hn12⟩:=REx.fm rpe
 refine zN func125 ntmps125 fun Q hQ a he =>?_
 refine Bx fun b15 w hm a he =>?_
 refine Qq (fun a he =>?_) (o:=by exact fun he hs=>pE (left - 1) he rfl rfl (by rw [xH (by omega)]))
 refine Sto 1 fun w hm a he =>?_
 by_cases h19:left - 1 < 0
 refine zF ?_
 replace hm:=hm.dl [0]
 have hr_:jD e left=(true,left - 1):=by rw [q2s,if_pos h19]
 show _∧_;rw [hr_];exact ⟨rfl,hm⟩
 refine go fun a he =>?_
 refine yG (he.ks [1,2,19,20]) hm (fun R mm a w=>∃(i:Nat) (q:Int),mm=e.args.length - i∧R Φ [(21,.int .i64 ((i:Nat):Int))] [(1,.blk b (ob [.int .i64 (q)] 3))] a w∧(0≤q∧q≤1000000∧jD e left=y4m e.arms (meass (e.args.drop i) q))) (e.args.length - 0) ⟨0,left - 1,rfl,⟨he.pk,hm⟩,by refine ⟨by omega,by omega,?_⟩;rw [q2s,if_neg (by omega)];rfl⟩ ?_
 clear hm he
 rintro mm a w ⟨i,q,hmu,⟨he,hm⟩,hI24⟩ L23 hL23
 replace hm:=hm.nf
 obtain ⟨hq0,hq1,hq2⟩:=hI24
 by_cases h26:i < e.args.length
 refine go fun a he =>?_
 obtain ⟨q30,rfl,x31,hx32,cs33,hl34,ha35,hr36⟩:=h2.el hn6 h26
 obtain ⟨p39,c40,p45,c46,rfl,hi49,h38,h44,hm41,hn42,hm47,hn48⟩:=REx.fm hr36
 refine Alc fun b50 w hm a he =>?_
 refine Sto 0 fun w hm a he =>?_
 replace hm:=hm.pl 2
 refine yH call125 (fun hB52 w hm a he =>?_) (fun hB52 w hm a he =>?_) (c:=ih _ (by first | exact Ex.lt_args (List.mem_of_getElem? hx32) | exact Ex.lt_arms (List.mem_of_getElem? hx32)) (by omega) (by omega) hr36 hm)
 refine zF ?_
 replace hm:=hm.dl [2,1]
 have hr_:jD e left=(true,(jD x31 q).2):=by rw [hq2,zA hx32,uS,hB52];rfl
 show _∧_;rw [hr_];exact ⟨rfl,hm⟩
 refine go fun a he =>?_
 replace hm:=hm.ar [1] [1]
 refine hL23 _ _ _ (by subst hmu;omega) ⟨(i+1),((jD x31 q).2),rfl,⟨he.pk,hm⟩,?_⟩
 have hle:=nF x31 q hB52
 refine ⟨hle.1,by omega,?_⟩
 rw [hq2,zA hx32,uS,hB52];rfl
 refine go fun a he =>?_
 refine yG (he.ks [1,30,31]) hm (fun R mm a w=>∃(i:Nat) (q:Int),mm=e.arms.length - i∧R Φ [(32,.int .i64 ((i:Nat):Int))] [(1,.blk b (ob [.int .i64 (q)] 3))] a w∧(0≤q∧q≤1000000∧jD e left=measa (e.arms.drop i) q)) (e.arms.length - 0) ⟨0,q,rfl,⟨he.pk,hm⟩,by refine ⟨hq0,hq1,?_⟩;rw [hq2,zH h26];rfl⟩ ?_
 clear hm he
 rintro mm a w ⟨i,q,hmu,⟨he,hm⟩,hI58⟩ L57 hL57
 replace hm:=hm.nf
 clear hq0 hq1 hq2
 obtain ⟨hq0,hq1,hq2⟩:=hI58
 by_cases h60:i < e.arms.length
 refine go fun a he =>?_
 obtain ⟨q64,rfl,x65,hx66,cs67,hl68,ha69,hr70⟩:=h8.el hn12 h60
 obtain ⟨s71,b77,rfl,h72,h78⟩:=RArm.iff.1 hr70
 obtain ⟨p73,c74,rfl,hm75,hn76⟩:=h72.fm
 obtain ⟨p81,c82,p87,c88,rfl,hi91,h80,h86,hm83,hn84,hm89,hn90⟩:=REx.fm h78
 refine Alc fun b92 w hm a he =>?_
 refine Sto 0 fun w hm a he =>?_
 refine go fun a he =>?_
 by_cases h94:16 < x65.vars.length
 refine zF ?_
 replace hm:=hm.dl [1,0]
 have hr_:jD e left=(true,q):=by rw [hq2,zA hx66,gU,if_pos h94]
 show _∧_;rw [hr_];exact ⟨rfl,hm⟩
 replace hm:=hm.pl 2
 refine yH call125 (fun hB96 w hm a he =>?_) (fun hB96 w hm a he =>?_) (c:=ih _ (by first | exact Ex.lt_args (List.mem_of_getElem? hx66) | exact Ex.lt_arms (List.mem_of_getElem? hx66)) (by omega) (by omega) h78 hm)
 refine zF ?_
 replace hm:=hm.dl [2,1]
 have hr_:jD e left=(true,(jD x65.body q).2):=by rw [hq2,zA hx66,gU,if_neg h94,hB96];rfl
 show _∧_;rw [hr_];exact ⟨rfl,hm⟩
 refine go fun a he =>?_
 replace hm:=hm.ar [1] [1]
 refine hL57 _ _ _ (by subst hmu;omega) ⟨(i+1),((jD x65.body q).2),rfl,⟨he.pk,hm⟩,?_⟩
 have hle:=nF x65.body q hB96
 refine ⟨hle.1,by omega,?_⟩
 rw [hq2,zA hx66,gU,if_neg h94,hB96];rfl
 refine zF ?_
 replace hm:=hm.dl [0]
 have hr_:jD e left=(false,q):=by rw [hq2,zH h60];rfl
 show _∧_;rw [hr_];exact ⟨rfl,hm⟩
theorem q9t {Φ:Fz} {K:List Res} {w:World} {d:List Value} {e:Ex} {b:Nat} {left:Int} (h0:0≤left) (h1:left≤1000000) (re:REx Φ d e) (hm:Mem Φ (.blk b (ob [.int .i64 left] 3)::K) w) :
  Calls prog 125 (List.toArray [.agg d.toArray,.pointer (some ⟨b,0,none⟩)]) w (fun ee w'=>ee=.returned (.bool (jD e left).1)∧Mem Φ (.blk b (ob [.int .i64 (jD e left).2] 3)::K) w'):=by
 suffices H:∀n (e:Ex),e.sz < n→∀{Φ:Fz} {K:List Res} {w:World} {d:List Value} {b:Nat} {left:Int},0≤left→left≤1000000→REx Φ d e→Mem Φ (.blk b (ob [.int .i64 left] 3)::K) w→Calls prog 125 (List.toArray [.agg d.toArray,.pointer (some ⟨b,0,none⟩)]) w (fun ee w'=>ee=.returned (.bool (jD e left).1)∧Mem Φ (.blk b (ob [.int .i64 (jD e left).2] 3)::K) w') from H _ e (Nat.lt_succ_self _) h0 h1 re hm
 intro n
 induction n with
 | zero=>intro e h;omega
 | succ n ih=>intro e h Φ K w d b left h0 h1 re hm;exact q2t re h0 h1 (fun x hx _ _ _ _ _ _ g0 g1 r m=>ih x (by omega) g0 g1 r m) hm
end Go.Sw

namespace Go.Sw
open Go.Proofs.Tryz
open Go.Proofs
set_option maxRecDepth 20000
set_option maxHeartbeats 4000000
theorem deep_ok {m:Nat} (hmb:m < 100000):∀{Φ:Fz} {K:List Res} {w:World} {d:List Value} {e:Ex},REx Φ d e→Mem Φ K w→Calls prog 88 (List.toArray [.agg d.toArray,.int .i64 ((m:Nat):Int)]) w (fun ee w'=>ee=.returned (.bool (wS m e))∧Mem Φ K w'):=by
 induction m with
 | zero=>intro Φ K w d e re hm;exact j4m re hm
 | succ m ih=>intro Φ K w d e re hm;exact j4l re (by omega) (fun r h=>ih (by omega) r h) hm
theorem x1q {Φ:Fz} {K:List Res} {w:World} {d0:List Value} {f:Fun} (rpf:RFun Φ d0 f) (hm:Mem Φ K w) :
  Calls prog 87 (List.toArray [.agg d0.toArray]) w (fun ee w'=>ee=.returned (.bool (wS 250 f.body))∧Mem Φ K w'):=by
 obtain ⟨s1,b7,rfl,h2,h8⟩:=id rpf
 obtain ⟨p3,c4,rfl,hm5,hn6⟩:=h2.fm
 obtain ⟨p11,c12,p17,c18,rfl,hi21,h10,h16,hm13,hn14,hm19,hn20⟩:=REx.fm h8
 refine zN func87 ntmps87 fun Q hQ a he =>?_
 refine Bx fun b23 w hm a he =>?_
 refine zT call88 (fun w hm a he =>?_) (c:=deep_ok (m:=250) (by omega) h8 hm)
 refine zF ?_
 replace hm:=hm.dl [0]
 exact yE hm (by rfl)
theorem x1o {Φ:Fz} {K:List Res} {w:World} {d0:List Value} {x:Con} (rpx:RCon Φ d0 x) (hm:Mem Φ K w) :
  Calls prog 124 (List.toArray [.agg d0.toArray]) w (fun ee w'=>ee=.returned (.bool (decide (16 < x.fields.length)))∧Mem Φ K w'):=by
 obtain ⟨s1,rfl,h2⟩:=id rpx
 obtain ⟨p3,c4,rfl,hm5,hn6⟩:=h2.fm
 refine zN func124 ntmps124 fun Q hQ a he =>?_
 refine Bx fun b8 w hm a he =>?_
 refine Qq (fun a he =>?_) (o:=by exact fun he hs=>j1n (i:=x.fields.length) (j:=16) he rfl rfl)
 refine zF ?_
 replace hm:=hm.dl [0]
 exact yE hm (by exact decide_eq_decide.2 (by omega))
end Go.Sw

namespace Go.Sw
open Go.Proofs.Tryz
open Go.Proofs
set_option maxRecDepth 20000
set_option maxHeartbeats 4000000
theorem x1p {Φ:Fz} {K:List Res} {w:World} {d0:List Value} {c:Core} {vx:Value} (rpc:RCoreX Φ d0 c vx) (hm:Mem Φ K w) :
  Calls prog 89 (List.toArray [.agg d0.toArray]) w (fun ee w'=>ee=.returned (.bool (xF c))∧Mem Φ K w'):=by
 obtain ⟨s1,s2,s3,q4,cc5,rfl,rfl,h6,h7,h8⟩:=id rpc
 obtain ⟨p9,c10,rfl,hm11,hn12⟩:=h6.fm
 obtain ⟨p13,c14,rfl,hm15,hn16⟩:=h7.fm
 obtain ⟨p17,c18,rfl,hm19,hn20⟩:=h8.fm
 refine zN func89 ntmps89 fun Q hQ a he =>?_
 refine Bx fun b22 w hm a he =>?_
 by_cases h25:60 < c.datas.length
 refine zF ?_
 replace hm:=hm.dl [0]
 exact yE hm (by simp [xF,h25])
 by_cases h27:6 < c.inputs.length
 refine zF ?_
 replace hm:=hm.dl [0]
 exact yE hm (by simp [xF,h27])
 by_cases h29:300 < c.funs.length
 refine zF ?_
 replace hm:=hm.dl [0]
 exact yE hm (by simp [xF,h29])
 refine go fun a he =>?_
 by_cases h31:6 < c.outputs.length
 refine zF ?_
 replace hm:=hm.dl [0]
 exact yE hm (by simp [xF,h31])
 refine go fun a he =>?_
 refine yG (he.ks [1,31,32]) hm (fun R mm a w=>∃(i:Nat),mm=c.datas.length - i∧R Φ [(33,.int .i64 ((i:Nat):Int))] [] a w∧(xF c=((c.datas.drop i).any z5o || sJ c.funs 6000))) (c.datas.length - 0) ⟨0,rfl,⟨he.pk,hm⟩,by simp [xF, *]⟩ ?_
 clear hm he
 rintro mm a w ⟨i,hmu,⟨he,hm⟩,hI36⟩ L35 hL35
 by_cases h38:i < c.datas.length
 refine go fun a he =>?_
 obtain ⟨q42,rfl,x43,hx44,cs45,hl46,ha47,hr48⟩:=h6.el hn12 h38
 obtain ⟨s49,rfl,h50⟩:=id hr48
 obtain ⟨p51,c52,rfl,hm53,hn54⟩:=h50.fm
 refine Alc fun b55 w hm a he =>?_
 refine Sto 0 fun w hm a he =>?_
 by_cases h57:16 < x43.cons.length
 refine zF ?_
 replace hm:=hm.dl [1,0]
 exact yE hm (by rw [hI36,zA hx44];simp [z5o, *])
 refine yH call123 (fun hB59 w hm a he =>?_) (fun hB59 w hm a he =>?_) (c:=q4a (Φ:=Φ) (K:=.blk b55 (ob [.string x43.name,.slice p51 x43.cons.length c52] 126)::.blk b22 (ob [.slice (some q42) c.datas.length c10,.slice p13 c.inputs.length c14,.slice p17 c.funs.length c18,.slice q4 c.outputs.length cc5] 27)::K) (p:=fun x=>decide (16 < x.fields.length)) (fs:=[]) (cs:=[]) h50 call124 (fun x c w hx hc hm=>x1o hc hm) hm)
 refine zF ?_
 replace hm:=hm.dl [1,0]
 exact yE hm (by rw [hI36,zA hx44];simp [z5o, *])
 refine go fun a he =>?_
 replace hm:=hm.dl [0]
 refine hL35 _ _ _ (by subst hmu;omega) ⟨(i+1),rfl,⟨he.pk,hm⟩,?_⟩
 rw [hI36,zA hx44];simp [z5o, *]
 refine Alc fun b63 w hm a he =>?_
 refine Sto 0 fun w hm a he =>?_
 refine go fun a he =>?_
 refine yG (he.ks [5,48,49]) hm (fun R mm a w=>∃(i:Nat) (q:Int),mm=c.funs.length - i∧R Φ [(50,.int .i64 ((i:Nat):Int))] [(0,.blk b63 (ob [.int .i64 (q)] 3))] a w∧(0≤q∧q≤1000000∧xF c=sJ (c.funs.drop i) q)) (c.funs.length - 0) ⟨0,6000,rfl,⟨he.pk,hm⟩,by refine ⟨by omega,by omega,?_⟩;rw [hI36,zH h38];rfl⟩ ?_
 clear hm he
 rintro mm a w ⟨i,q,hmu,⟨he,hm⟩,hI67⟩ L66 hL66
 replace hm:=hm.nf
 obtain ⟨hq0,hq1,hq2⟩:=hI67
 by_cases h69:i < c.funs.length
 refine go fun a he =>?_
 obtain ⟨q73,rfl,x74,hx75,cs76,hl77,ha78,hr79⟩:=h8.el hn20 h69
 obtain ⟨s80,b86,rfl,h81,h87⟩:=id hr79
 obtain ⟨p82,c83,rfl,hm84,hn85⟩:=h81.fm
 obtain ⟨p90,c91,p96,c97,rfl,hi100,h89,h95,hm92,hn93,hm98,hn99⟩:=REx.fm h87
 refine Alc fun b101 w hm a he =>?_
 refine Sto 0 fun w hm a he =>?_
 refine go fun a he =>?_
 by_cases h103:16 < x74.params.length
 refine zF ?_
 replace hm:=hm.dl [2,1,0]
 exact yE hm (by rw [hq2,zA hx75];simp [sJ, *])
 replace hm:=hm.pl 1
 refine yH call125 (fun hB105 w hm a he =>?_) (fun hB105 w hm a he =>?_) (c:=q9t (by omega) (by omega) h87 hm)
 refine zF ?_
 replace hm:=hm.dl [2,1,0]
 exact yE hm (by rw [hq2,zA hx75];simp [sJ, *])
 refine go fun a he =>?_
 replace hm:=hm.dl [1]
 refine hL66 _ _ _ (by subst hmu;omega) ⟨(i+1),((jD x74.body q).2),rfl,⟨he.pk,hm⟩,?_⟩
 have hle:=nF x74.body q hB105
 refine ⟨hle.1,by omega,?_⟩
 rw [hq2,zA hx75];simp [sJ, *]
 refine zF ?_
 replace hm:=hm.dl [1,0]
 exact yE hm (by rw [hq2,zH h69];rfl)
end Go.Sw

namespace Go.Sw
open Go.Proofs.Tryz
open Go.Proofs
set_option maxRecDepth 20000
set_option maxHeartbeats 4000000
theorem y7a {Φ:Fz} {K:List Res} {w:World} {name:Bs} {s:Bs} {b:Nat}  (hm:Mem Φ (.blk b (ob [.string name] 9)::K) w) :
  Calls prog 165 (List.toArray [.string s,.pointer (some ⟨b,0,none⟩)]) w (fun ee w'=>ee=.returned (.bool (inF name s))∧Mem Φ (.blk b (ob [.string name] 9)::K) w'):=by
 refine zN func165 ntmps165 fun Q hQ a he =>?_
 by_cases h3:s=(⟨#[73,110,116]⟩:ByteArray)
 refine zF ?_
 exact yE hm (by simp [inF,qY, *])
 refine Qq (fun a he =>?_) (o:=by exact fun he hs=>y_sneqD he rfl rfl)
 refine zF ?_
 exact yE hm (by simp [inF,qY, *])
theorem q2o {Φ:Fz} {K:List Res} {w:World} {v0:Value} {ds:List Data} {name:Bs} (rpds:SliceOf RData Φ 2 v0 ds) (hm:Mem Φ K w) :
  Calls prog 131 (List.toArray [v0,.string name]) w (fun ee w'=>ee=.returned (.bool (kF ds name))∧Mem Φ K w'):=by
 obtain ⟨p0,c0,rfl,hm0,hn0⟩:=rpds.fm
 refine zN func131 ntmps131 fun Q hQ a he =>?_
 refine Bx fun b2 w hm a he =>?_
 by_cases h5:name=(⟨#[73,110,116]⟩:ByteArray)
 refine zF ?_
 replace hm:=hm.dl [0]
 exact yE hm (by simp [kF,qY,h5])
 refine go fun a he =>?_
 refine yG (he.ks [3,13,14]) hm (fun R mm a w=>∃(i:Nat) (nn:Int) (o:Bool),mm=ds.length - i∧R Φ [(5,.int .i64 (nn)),(6,.bool o),(15,.int .i64 ((i:Nat):Int))] [] a w∧(nE name ds 0 true=nE name (ds.drop i) nn o)) (ds.length - 0) ⟨0,0,true,rfl,⟨he.pk,hm⟩,rfl⟩ ?_
 clear hm he
 rintro mm a w ⟨i,nn,o,hmu,⟨he,hm⟩,hI12⟩ L11 hL11
 by_cases h14:i < ds.length
 refine go fun a he =>?_
 obtain ⟨q18,rfl,x19,hx20,cs21,hl22,ha23,hr24⟩:=rpds.el hn0 h14
 obtain ⟨s25,rfl,h26⟩:=id hr24
 obtain ⟨p27,c28,rfl,hm29,hn30⟩:=h26.fm
 refine Alc fun b31 w hm a he =>?_
 refine Sto 0 fun w hm a he =>?_
 by_cases h34:x19.name=name
 refine Qq (fun a he =>?_) (o:=by exact fun he hs=>j3n _ he rfl rfl rfl)
 refine go fun a he =>?_
 refine yG (he.ks [3,5,13,14,15,26,27]) hm (fun R mm a w=>∃(k:Nat) (q:Bool),mm=x19.cons.length - k∧R Φ [(6,.bool q),(28,.int .i64 ((k:Nat):Int))] [] a w∧(gO name x19.cons o=gO name (x19.cons.drop k) q)) (x19.cons.length - 0) ⟨0,o,rfl,⟨he.pk,hm⟩,rfl⟩ ?_
 clear hm he
 rintro mm a w ⟨k,q,hmu,⟨he,hm⟩,hI38⟩ L37 hL37
 by_cases h40:k < x19.cons.length
 refine go fun a he =>?_
 obtain ⟨q44,rfl,x45,hx46,cs47,hl48,ha49,hr50⟩:=h26.el hn30 h40
 obtain ⟨s51,rfl,h52⟩:=id hr50
 obtain ⟨p53,c54,rfl,hm55,hn56⟩:=h52.fm
 refine Alc fun b57 w hm a he =>?_
 refine Sto 0 fun w hm a he =>?_
 refine go fun a he =>?_
 cases q
 refine go fun a he =>?_
 replace hm:=hm.dl [0]
 refine hL37 _ _ _ (by subst hmu;omega) ⟨(k+1),(false),rfl,⟨he.pk,hm⟩,?_⟩
 rw [hI38,zA hx46];simp [gO, *]
 replace hm:=hm.pl 2
 refine yH call69 (fun hB58 w hm a he =>?_) (fun hB58 w hm a he =>?_) (c:=uA (Φ:=Φ) (K:=.blk b2 (ob [.string name] 9)::.blk b57 (ob [.string x45.name,.slice p53 x45.fields.length c54] 128)::.blk b31 (ob [.string x19.name,.slice (some q44) x19.cons.length c28] 126)::K) (p:=inF name) (fs:=[]) (cs:=[.pointer (some ⟨b2,0,none⟩)]) h52 call165 (fun x c w hx hc hm=>y7a hm) hm)
 refine go fun a he =>?_
 replace hm:=hm.ar [1] [1]
 refine hL37 _ _ _ (by subst hmu;omega) ⟨(k+1),(false),rfl,⟨he.pk,hm⟩,?_⟩
 rw [hI38,zA hx46];simp [gO, *]
 refine go fun a he =>?_
 replace hm:=hm.ar [1] [1]
 refine hL37 _ _ _ (by subst hmu;omega) ⟨(k+1),(true),rfl,⟨he.pk,hm⟩,?_⟩
 rw [hI38,zA hx46];simp [gO, *]
 refine go fun a he =>?_
 replace hm:=hm.dl [0]
 refine hL11 _ _ _ (by subst hmu;omega) ⟨(i+1),(IntKind.i64.wrap (nn+1)),(q),rfl,⟨he.pk,hm⟩,?_⟩
 rw [hI12,zA hx20];simp [zH,nE,gO, *]
 refine go fun a he =>?_
 replace hm:=hm.dl [0]
 refine hL11 _ _ _ (by subst hmu;omega) ⟨(i+1),(nn),(o),rfl,⟨he.pk,hm⟩,?_⟩
 rw [hI12,zA hx20];simp [zH,nE,gO, *]
 by_cases h62:nn=1
 refine zF ?_
 replace hm:=hm.dl [0]
 exact yE hm (by rw [zH h14] at hI12;simp [kF,qY,nE, *])
 refine zF ?_
 replace hm:=hm.dl [0]
 exact yE hm (by rw [zH h14] at hI12;simp [kF,qY,nE, *])
end Go.Sw

namespace Go.Sw
open Go.Proofs.Tryz
open Go.Proofs
set_option maxRecDepth 20000
set_option maxHeartbeats 4000000
theorem q1w {Φ:Fz} {K:List Res} {w:World} {l:List Bs} {d0:List Value} {e:Ex} {v:Value} (rpe:REx Φ d0 e) (hb:l.length+(yC e).length≤8796093000000) (ih:∀x:Ex,x.sz < e.sz→∀{Φ:Fz} {K:List Res} {w:World} {d:List Value} {v:Value} {l:List Bs},l.length+(yC x).length≤8796093000000→REx Φ d x→Mem Φ (.gs v 9 1 (strs l)::K) w→Calls prog 133 (List.toArray [.agg d.toArray,v]) w (fun ee w'=>∃v,ee=.returned v∧Mem Φ (.gs v 9 1 (strs (l++yC x))::K) w')) (hm:Mem Φ (.gs v 9 1 (strs l)::K) w) :
  Calls prog 133 (List.toArray [.agg d0.toArray,v]) w (fun ee w'=>∃v,ee=.returned v∧Mem Φ (.gs v 9 1 (strs (l++yC e))::K) w'):=by
 obtain ⟨p3,c4,p9,c10,rfl,hi13,h2,h8,hm5,hn6,hm11,hn12⟩:=REx.fm rpe
 refine zN func133 ntmps133 fun Q hQ a he =>?_
 refine Bx fun b15 w hm a he =>?_
 by_cases h18:e.kind=6
 refine kW fun v19 w hm a he =>?_
 refine wL 2 vV (fun v20 w hm a he =>?_) (hb:=by simp [yA];omega)
 first | rw [qK] at hm | rw [← yZ] at hm
 refine go fun a he =>?_
 refine xB (fun mm a w=>∃(i:Nat) (u:Value) (m:List Bs),mm=e.args.length - i∧EnvR 44 [(1,u),(2,.pointer (some ⟨b15,0,none⟩)),(18,.slice p3 e.args.length c4),(19,.int .i64 ((e.args.length:Nat):Int)),(20,.int .i64 ((i:Nat):Int))] [] a∧Mem Φ (.gs (v19) 9 1 [.string e.name]::.blk b15 (ob [.int .i64 (e.kind),.int .i64 (e.num),.string e.name,.slice p3 e.args.length c4,.slice p9 e.arms.length c10] 110)::.gs (u) 9 1 (strs m)::K) w∧(l++yC e=m++bindPs (e.args.drop i)++bindPa e.arms)) (e.args.length - 0) ⟨0,v20,(l++[e.name]),rfl,he.pk,hm,by rw [nI];simp [*]⟩ ?_
 clear hm he
 rintro mm a w ⟨i,u,m,hmu,he,hm,hI24⟩ L23 hL23
 by_cases h26:i < e.args.length
 refine go fun a he =>?_
 obtain ⟨q30,rfl,x31,hx32,cs33,hl34,ha35,hr36⟩:=h2.el hn6 h26
 obtain ⟨p39,c40,p45,c46,rfl,hi49,h38,h44,hm41,hn42,hm47,hn48⟩:=REx.fm hr36
 refine Alc fun b50 w hm a he =>?_
 refine Sto 0 fun w hm a he =>?_
 refine go fun a he =>?_
 replace hm:=hm.pl 3
 refine st he rfl rfl rfl (dK he rfl call133 (ih _ (by first | exact Ex.lt_args (List.mem_of_getElem? hx32) | exact Ex.lt_arms (List.mem_of_getElem? hx32)) (l:=m) (by have hq:=congrArg List.length hI24;rw [zA hx32] at hq;simp only [bindPs,jS,List.length_append] at hq hb ⊢;omega) hr36 hm) fun v51 w hm a he =>?_)
 replace hm:=hm.nf
 refine go fun a he =>?_
 replace hm:=hm.ar [1] [2,2]
 refine hL23 _ _ _ (by subst hmu;omega) ⟨(i+1),(v51),((m++yC x31)),rfl,he.pk,hm,?_⟩
 rw [hI24,zA hx32];simp [bindPs]
 refine go fun a he =>?_
 refine xB (fun mm a w=>∃(j:Nat) (u2:Value) (m2:List Bs),mm=e.arms.length - j∧EnvR 44 [(1,u2),(29,.slice p9 e.arms.length c10),(30,.int .i64 ((e.arms.length:Nat):Int)),(31,.int .i64 ((j:Nat):Int))] [] a∧Mem Φ (.gs (v19) 9 1 [.string e.name]::.blk b15 (ob [.int .i64 (e.kind),.int .i64 (e.num),.string e.name,.slice p3 e.args.length c4,.slice p9 e.arms.length c10] 110)::.gs (u2) 9 1 (strs m2)::K) w∧(l++yC e=m2++bindPa (e.arms.drop j))) (e.arms.length - 0) ⟨0,u,m,rfl,he.pk,hm,by rw [hI24,zH h26];simp [bindPs]⟩ ?_
 clear hm he
 rintro mm a w ⟨j,u2,m2,hmu,he,hm,hI56⟩ L55 hL55
 by_cases h58:j < e.arms.length
 refine go fun a he =>?_
 obtain ⟨q62,rfl,x63,hx64,cs65,hl66,ha67,hr68⟩:=h8.el hn12 h58
 obtain ⟨s69,b75,rfl,h70,h76⟩:=RArm.iff.1 hr68
 obtain ⟨p71,c72,rfl,hm73,hn74⟩:=h70.fm
 obtain ⟨p79,c80,p85,c86,rfl,hi89,h78,h84,hm81,hn82,hm87,hn88⟩:=REx.fm h76
 refine Alc fun b90 w hm a he =>?_
 refine Sto 0 fun w hm a he =>?_
 refine Reg [1,2,1,1,2,0,0,1] [0,1,2] fun w hm a he =>?_
 refine wL 3 vV (fun v91 w hm a he =>?_) (hr:=(SliceOf.strs.1 h70).rowIn hm.toSees) (h1:=pM _) (hb:=by have hq:=congrArg List.length hI56;rw [zA hx64,jS] at hq;simp only [List.length_append,yA] at hq hb ⊢;omega)
 first | rw [qK] at hm | rw [← yZ] at hm
 replace hm:=hm.pl 3
 refine d_e he rfl rfl rfl (dK he rfl call133 (ih _ (by first | exact Ex.lt_args (List.mem_of_getElem? hx64) | exact Ex.lt_arms (List.mem_of_getElem? hx64)) (l:=(m2++x63.vars)) (by have hq:=congrArg List.length hI56;rw [zA hx64] at hq;simp only [bindPs,jS,List.length_append] at hq hb ⊢;omega) h76 hm) fun v92 w hm=>⟨fun _=>hm.sn (Fz.Le.refl _),fun a he =>?_⟩)
 replace hm:=hm.nf
 refine go fun a he =>?_
 replace hm:=hm.ar [1] [2,2]
 refine hL55 _ _ _ (by subst hmu;omega) ⟨(j+1),(v92),(((m2++x63.vars)++yC x63.body)),rfl,he.pk,hm,?_⟩
 rw [hI56,zA hx64,jS];simp
 refine zF ?_
 replace hm:=hm.dl [1,0]
 refine ⟨_,rfl,?_⟩
 rw [show (strs (l++yC e))=(strs m2) by rw [hI56,zH h58];simp [bindPa]];exact hm
 refine go fun a he =>?_
 refine xB (fun mm a w=>∃(i:Nat) (u:Value) (m:List Bs),mm=e.args.length - i∧EnvR 44 [(1,u),(2,.pointer (some ⟨b15,0,none⟩)),(18,.slice p3 e.args.length c4),(19,.int .i64 ((e.args.length:Nat):Int)),(20,.int .i64 ((i:Nat):Int))] [] a∧Mem Φ (.blk b15 (ob [.int .i64 (e.kind),.int .i64 (e.num),.string e.name,.slice p3 e.args.length c4,.slice p9 e.arms.length c10] 110)::.gs (u) 9 1 (strs m)::K) w∧(l++yC e=m++bindPs (e.args.drop i)++bindPa e.arms)) (e.args.length - 0) ⟨0,v,l,rfl,he.pk,hm,by rw [nI];simp [*]⟩ ?_
 clear hm he
 rintro mm a w ⟨i,u,m,hmu,he,hm,hI98⟩ L97 hL97
 by_cases h100:i < e.args.length
 refine go fun a he =>?_
 obtain ⟨q104,rfl,x105,hx106,cs107,hl108,ha109,hr110⟩:=h2.el hn6 h100
 obtain ⟨p113,c114,p119,c120,rfl,hi123,h112,h118,hm115,hn116,hm121,hn122⟩:=REx.fm hr110
 refine Alc fun b124 w hm a he =>?_
 refine Sto 0 fun w hm a he =>?_
 refine go fun a he =>?_
 replace hm:=hm.pl 2
 refine st he rfl rfl rfl (dK he rfl call133 (ih _ (by first | exact Ex.lt_args (List.mem_of_getElem? hx106) | exact Ex.lt_arms (List.mem_of_getElem? hx106)) (l:=m) (by have hq:=congrArg List.length hI98;rw [zA hx106] at hq;simp only [bindPs,jS,List.length_append] at hq hb ⊢;omega) hr110 hm) fun v125 w hm a he =>?_)
 replace hm:=hm.nf
 refine go fun a he =>?_
 replace hm:=hm.ar [1] [1]
 refine hL97 _ _ _ (by subst hmu;omega) ⟨(i+1),(v125),((m++yC x105)),rfl,he.pk,hm,?_⟩
 rw [hI98,zA hx106];simp [bindPs]
 refine go fun a he =>?_
 refine xB (fun mm a w=>∃(j:Nat) (u2:Value) (m2:List Bs),mm=e.arms.length - j∧EnvR 44 [(1,u2),(29,.slice p9 e.arms.length c10),(30,.int .i64 ((e.arms.length:Nat):Int)),(31,.int .i64 ((j:Nat):Int))] [] a∧Mem Φ (.blk b15 (ob [.int .i64 (e.kind),.int .i64 (e.num),.string e.name,.slice p3 e.args.length c4,.slice p9 e.arms.length c10] 110)::.gs (u2) 9 1 (strs m2)::K) w∧(l++yC e=m2++bindPa (e.arms.drop j))) (e.arms.length - 0) ⟨0,u,m,rfl,he.pk,hm,by rw [hI98,zH h100];simp [bindPs]⟩ ?_
 clear hm he
 rintro mm a w ⟨j,u2,m2,hmu,he,hm,hI130⟩ L129 hL129
 by_cases h132:j < e.arms.length
 refine go fun a he =>?_
 obtain ⟨q136,rfl,x137,hx138,cs139,hl140,ha141,hr142⟩:=h8.el hn12 h132
 obtain ⟨s143,b149,rfl,h144,h150⟩:=RArm.iff.1 hr142
 obtain ⟨p145,c146,rfl,hm147,hn148⟩:=h144.fm
 obtain ⟨p153,c154,p159,c160,rfl,hi163,h152,h158,hm155,hn156,hm161,hn162⟩:=REx.fm h150
 refine Alc fun b164 w hm a he =>?_
 refine Sto 0 fun w hm a he =>?_
 refine Reg [1,2,1,1,2,0,0,1] [0,1] fun w hm a he =>?_
 refine wL 2 vV (fun v165 w hm a he =>?_) (hr:=(SliceOf.strs.1 h144).rowIn hm.toSees) (h1:=pM _) (hb:=by have hq:=congrArg List.length hI130;rw [zA hx138,jS] at hq;simp only [List.length_append,yA] at hq hb ⊢;omega)
 first | rw [qK] at hm | rw [← yZ] at hm
 replace hm:=hm.pl 2
 refine d_e he rfl rfl rfl (dK he rfl call133 (ih _ (by first | exact Ex.lt_args (List.mem_of_getElem? hx138) | exact Ex.lt_arms (List.mem_of_getElem? hx138)) (l:=(m2++x137.vars)) (by have hq:=congrArg List.length hI130;rw [zA hx138] at hq;simp only [bindPs,jS,List.length_append] at hq hb ⊢;omega) h150 hm) fun v166 w hm=>⟨fun _=>hm.sn (Fz.Le.refl _),fun a he =>?_⟩)
 replace hm:=hm.nf
 refine go fun a he =>?_
 replace hm:=hm.ar [1] [1]
 refine hL129 _ _ _ (by subst hmu;omega) ⟨(j+1),(v166),(((m2++x137.vars)++yC x137.body)),rfl,he.pk,hm,?_⟩
 rw [hI130,zA hx138,jS];simp
 refine zF ?_
 replace hm:=hm.dl [0]
 refine ⟨_,rfl,?_⟩
 rw [show (strs (l++yC e))=(strs m2) by rw [hI130,zH h132];simp [bindPa]];exact hm
theorem q8g {Φ:Fz} {K:List Res} {w:World} {d:List Value} {e:Ex} {v:Value} {l:List Bs} (hb:l.length+(yC e).length≤8796093000000) (re:REx Φ d e) (hm:Mem Φ (.gs v 9 1 (strs l)::K) w) :
  Calls prog 133 (List.toArray [.agg d.toArray,v]) w (fun ee w'=>∃v,ee=.returned v∧Mem Φ (.gs v 9 1 (strs (l++yC e))::K) w'):=by
 suffices H:∀n (e:Ex),e.sz < n→∀{Φ:Fz} {K:List Res} {w:World} {d:List Value} {v:Value} {l:List Bs},l.length+(yC e).length≤8796093000000→REx Φ d e→Mem Φ (.gs v 9 1 (strs l)::K) w→Calls prog 133 (List.toArray [.agg d.toArray,v]) w (fun ee w'=>∃v,ee=.returned v∧Mem Φ (.gs v 9 1 (strs (l++yC e))::K) w') from H _ e (Nat.lt_succ_self _) hb re hm
 intro n
 induction n with
 | zero=>intro e h;omega
 | succ n ih=>intro e h Φ K w d v l hb re hm;exact q1w re hb (fun x hx _ _ _ _ _ _ g0 r m=>ih x (by omega) g0 r m) hm
end Go.Sw

namespace Go.Sw
open Go.Proofs.Tryz
open Go.Proofs
set_option maxRecDepth 20000
set_option maxHeartbeats 4000000
variable {Φ:Fz} {K:List Res} {w:World}
theorem y0r {c:UInt8}  (hm:Mem Φ K w) :
  Calls prog 235 (List.toArray [.int .u8 ((c.toNat:Nat):Int)]) w (fun ee w'=>ee=.returned (.bool (nB c.toNat))∧Mem Φ K w'):=by
 refine zN func235 ntmps235 fun Q hQ a he =>?_
 by_cases h3:97≤c.toNat
 refine Qq (fun a he =>?_) (o:=by exact fun he hs=>j1o (i:=c.toNat) (j:=122) he rfl rfl)
 refine zF ?_
 exact yE hm (by simp [nB, *])
 refine zF ?_
 exact yE hm (by simp [nB, *])
theorem y0q {c:UInt8}  (hm:Mem Φ K w) :
  Calls prog 237 (List.toArray [.int .u8 ((c.toNat:Nat):Int)]) w (fun ee w'=>ee=.returned (.bool (nP c.toNat))∧Mem Φ K w'):=by
 refine zN func237 ntmps237 fun Q hQ a he =>?_
 by_cases h3:65≤c.toNat
 refine Qq (fun a he =>?_) (o:=by exact fun he hs=>j1o (i:=c.toNat) (j:=90) he rfl rfl)
 refine zF ?_
 exact yE hm (by simp [nP, *])
 refine zF ?_
 exact yE hm (by simp [nP, *])
theorem aW {c:UInt8}  (hm:Mem Φ K w) :
  Calls prog 233 (List.toArray [.int .u8 ((c.toNat:Nat):Int)]) w (fun ee w'=>ee=.returned (.bool (yW c.toNat))∧Mem Φ K w'):=by
 refine zN func233 ntmps233 fun Q hQ a he =>?_
 by_cases h3:48≤c.toNat
 refine Qq (fun a he =>?_) (o:=by exact fun he hs=>j1o (i:=c.toNat) (j:=57) he rfl rfl)
 refine zF ?_
 exact yE hm (by simp [yW, *])
 refine zF ?_
 exact yE hm (by simp [yW, *])
theorem z3w {c:UInt8}  (hm:Mem Φ K w) :
  Calls prog 239 (List.toArray [.int .u8 ((c.toNat:Nat):Int)]) w (fun ee w'=>ee=.returned (.bool (qE c.toNat))∧Mem Φ K w'):=by
 refine zN func239 ntmps239 fun Q hQ a he =>?_
 refine yH call235 (fun hB3 w hm a he =>?_) (fun hB3 w hm a he =>?_) (c:=y0r hm)
 refine zF ?_
 exact yE hm (by simp [qE, *])
 refine yH call237 (fun hB4 w hm a he =>?_) (fun hB4 w hm a he =>?_) (c:=y0q hm)
 refine zF ?_
 exact yE hm (by simp [qE, *])
 refine yH call233 (fun hB5 w hm a he =>?_) (fun hB5 w hm a he =>?_) (c:=aW hm)
 refine zF ?_
 exact yE hm (by simp [qE, *])
 refine Qq (fun a he =>?_) (o:=by exact fun he hs=>q3t (i:=c.toNat) (j:=95) he rfl rfl)
 refine zF ?_
 exact yE hm (by simp [qE, *])
theorem q9l {c:UInt8}  (hm:Mem Φ K w) :
  Calls prog 229 (List.toArray [.int .u8 ((c.toNat:Nat):Int)]) w (fun ee w'=>ee=.returned (.bool (xV c.toNat))∧Mem Φ K w'):=by
 refine zN func229 ntmps229 fun Q hQ a he =>?_
 by_cases h3:c.toNat=32
 refine zF ?_
 exact yE hm (by simp [xV, *])
 by_cases h4:c.toNat=9
 refine zF ?_
 exact yE hm (by simp [xV, *])
 by_cases h5:c.toNat=10
 refine zF ?_
 exact yE hm (by simp [xV, *])
 refine Qq (fun a he =>?_) (o:=by exact fun he hs=>q3t (i:=c.toNat) (j:=13) he rfl rfl)
 refine zF ?_
 exact yE hm (by simp [xV, *])
theorem y6v {s:Bs} {p:Bs}  (hm:Mem Φ K w) :
  Calls prog 247 (List.toArray [.string s,.string p]) w (fun ee w'=>ee=.returned (.bool (kH s p))∧Mem Φ K w'):=by
 refine zN func247 ntmps247 fun Q hQ a he =>?_
 by_cases h3:p.size≤s.size
 refine Qq (fun a he =>?_) (o:=by exact fun he hs=>jU 0 (p.size) he rfl runUnderlying9 rfl ⟨_,rfl⟩ (by omega) (by omega))
 refine Qq (fun a he =>?_) (o:=by exact fun he hs=>z8x he rfl rfl)
 refine zF ?_
 exact yE hm (by simp [kH, *])
 refine zF ?_
 exact yE hm (by simp [kH, *])
theorem q2i {s:Bs} {p:Bs}  (hm:Mem Φ K w) :
  Calls prog 243 (List.toArray [.string s,.string p]) w (fun ee w'=>ee=.returned (.bool (kH s p))∧Mem Φ K w'):=by
 refine zN func243 ntmps243 fun Q hQ a he =>?_
 refine zT call247 (fun w hm a he =>?_) (c:=y6v hm)
 refine zF ?_
 exact yE hm (by rfl)
theorem z2i {t:Bs} {pos:Nat} {b:Nat} {rest:List Value} {T0:TypeId} {k:Nat}  (hk:pos+k≤1000000000) (hm:Mem Φ (.blk b (ob (.string t::.int .i64 ((pos:Nat):Int)::rest) T0)::K) w) :
  Calls prog 232 (List.toArray [.pointer (some ⟨b,0,none⟩),.int .i64 (k:Int)]) w (fun ee w'=>ee=.returned (.int .u8 ((zJ t (pos+k):Nat):Int))∧Mem Φ (.blk b (ob (.string t::.int .i64 ((pos:Nat):Int)::rest) T0)::K) w'):=by
 refine zN func232 ntmps232 fun Q hQ a he =>?_
 refine Reg [1,1,1,2,1,1,1,1,1,2,1,1] [0] fun w hm a he =>?_
 refine Qq (fun a he =>?_) (o:=by exact fun he hs=>kV (i:=pos) (j:=k) he rfl rfl (by omega))
 by_cases h4:t.size≤(pos+k)
 refine zF ?_
 exact ⟨congrArg (fun x=>Ending.returned (.int .u8 ((x:Nat):Int))) (show 0=zJ t (pos+k) by rw [z5h (by omega)]),hm⟩
 refine Reg [1,1,1,2,1,1,1,2,1,1,1,1] [0] fun w hm a he =>?_
 refine Qq (fun a he =>?_) (o:=by exact fun he hs=>kV (i:=pos) (j:=k) he rfl rfl (by omega))
 have hb7:(pos+k) < t.size:=by omega
 obtain ⟨c8,hc9⟩:=pI hb7
 refine Qq (fun a he =>?_) (o:=by exact fun he hs=>wK (pos+k) c8 he rfl rfl runUnderlying9 hc9)
 refine zF ?_
 exact ⟨congrArg (fun x=>Ending.returned (.int .u8 ((x:Nat):Int))) (show c8.toNat=zJ t (pos+k) by rw [qR hc9]),hm⟩
theorem nC {t:Bs} {pos:Nat} {b:Nat} {rest:List Value} {T0:TypeId} {s:Bs}  (hk:pos≤t.size) (hm:Mem Φ (.blk b (ob (.string t::.int .i64 ((pos:Nat):Int)::rest) T0)::K) w) :
  Calls prog 230 (List.toArray [.pointer (some ⟨b,0,none⟩),.string s]) w (fun ee w'=>ee=.returned (.bool (kH (t.extract pos t.size) s))∧Mem Φ (.blk b (ob (.string t::.int .i64 ((pos:Nat):Int)::rest) T0)::K) w'):=by
 refine zN func230 ntmps230 fun Q hQ a he =>?_
 refine Reg [1,1,1,2,1,1,1,2,1,1,0,1] [0] fun w hm a he =>?_
 refine Qq (fun a he =>?_) (o:=by exact fun he hs=>jU pos (t.size) he rfl runUnderlying9 ⟨_,rfl⟩ rfl (by omega) (by exact Nat.le_refl _))
 refine zT call243 (fun w hm a he =>?_) (c:=q2i hm)
 refine zF ?_
 exact yE hm (by rfl)
end Go.Sw

namespace Go.Sw
open Go.Proofs.Tryz
open Go.Proofs
set_option maxRecDepth 20000
set_option maxHeartbeats 4000000
theorem q3j {Φ:Fz} {K:List Res} {w:World} {t:Bs} {pos b k g:Nat} {rest fs cs:List Value} {T0:TypeId} {p:Nat→Bool} (hg:∀args w,(callFunc g args).run prog w=.ok (.enter g args) w)
  (hf:∀{w:World} (c:UInt8),Mem Φ (.blk b (ob (.string t::.int .i64 ((pos:Nat):Int)::rest) T0)::K) w→Calls prog g (fs++[Value.int .u8 ((c.toNat:Nat):Int)]++cs).toArray w (fun ee w'=>ee=.returned (.bool (p c.toNat))∧Mem Φ (.blk b (ob (.string t::.int .i64 ((pos:Nat):Int)::rest) T0)::K) w'))
  (h1:pos+k≤t.size) (h2:t.size≤1000000) (hm:Mem Φ (.blk b (ob (.string t::.int .i64 ((pos:Nat):Int)::rest) T0)::K) w) :
  Calls prog 228 (List.toArray [.pointer (some ⟨b,0,none⟩),.int .i64 ((k:Nat):Int),.func (.func g) fs.toArray cs.toArray]) w (fun ee w'=>ee=.returned (.int .i64 ((yQ p t t.size (pos+k):Nat):Int))∧Mem Φ (.blk b (ob (.string t::.int .i64 ((pos:Nat):Int)::rest) T0)::K) w'):=by
 refine zN func228 ntmps228 fun Q hQ a he =>?_
 refine go fun a he =>?_
 refine yG (he.ks [0,1,2]) hm (fun R mm a w=>∃(j:Nat),mm=t.size - (pos+k+j)∧R Φ [(7,.int .i64 ((j:Nat):Int))] [] a w∧(pos+k+j≤t.size∧yQ p t t.size (pos+k)=yQ p t t.size (pos+k+j)+j)) (t.size - (pos+k+0)) ⟨0,rfl,⟨he.pk,hm⟩,by exact ⟨by omega,rfl⟩⟩ ?_
 clear hm he
 rintro mm a w ⟨j,hmu,⟨he,hm⟩,hI5⟩ L4 hL4
 obtain ⟨hj0,hj1⟩:=hI5
 refine Reg [1,1,1,2,1,1,1,1,1,1,1,2,1,1,1,1,1,1,1,2,1,1,1,2,1,1,1,1,1,0,1] [0] fun w hm a he =>?_
 refine Qq (fun a he =>?_) (o:=by exact fun he hs=>kV (i:=pos) (j:=k) he rfl rfl (by omega))
 refine Qq (fun a he =>?_) (o:=by exact fun he hs=>kV (i:=(pos+k)) (j:=j) he rfl rfl (by omega))
 by_cases h8:((pos+k)+j) < t.size
 refine Qq (fun a he =>?_) (o:=by exact fun he hs=>kV (i:=pos) (j:=k) he rfl rfl (by omega))
 refine Qq (fun a he =>?_) (o:=by exact fun he hs=>kV (i:=(pos+k)) (j:=j) he rfl rfl (by omega))
 obtain ⟨c9,hc10⟩:=pI h8
 refine Qq (fun a he =>?_) (o:=by exact fun he hs=>wK ((pos+k)+j) c9 he rfl rfl runUnderlying9 hc10)
 refine q1r hg (fun hB11 w hm a he =>?_) (fun hB11 w hm a he =>?_) (c:=by exact hf _ hm)
 refine go fun a he =>?_
 refine hL4 _ _ _ (by subst hmu;omega) ⟨(j+1),rfl,⟨he.pk,hm⟩,?_⟩
 refine ⟨by omega,?_⟩
 rw [hj1,gD p t (pos+k+j),if_pos ⟨by omega,by rw [qR hc10];exact hB11⟩,show pos+k+(j+1)=pos+k+j+1 from rfl];omega
 refine zF ?_
 exact j3c hm (by rw [hj1,gD,if_neg (by rintro ⟨_,h⟩;rw [qR hc10,hB11] at h;cases h)];omega)
 refine zF ?_
 exact j3c hm (by rw [hj1,gD,if_neg (by omega)];omega)
theorem q3i {Φ:Fz} {K:List Res} {w:World} {t:Bs} {pos b g:Nat} {rest fs cs:List Value} {T0:TypeId} {p:Nat→Bool} (hg:∀args w,(callFunc g args).run prog w=.ok (.enter g args) w)
  (hf:∀{w:World} (c:UInt8),Mem Φ (.blk b (ob (.string t::.int .i64 ((pos:Nat):Int)::rest) T0)::K) w→Calls prog g (fs++[Value.int .u8 ((c.toNat:Nat):Int)]++cs).toArray w (fun ee w'=>ee=.returned (.bool (p c.toNat))∧Mem Φ (.blk b (ob (.string t::.int .i64 ((pos:Nat):Int)::rest) T0)::K) w'))
  (h1:pos≤t.size) (h2:t.size≤1000000) (hm:Mem Φ (.blk b (ob (.string t::.int .i64 ((pos:Nat):Int)::rest) T0)::K) w) :
  Calls prog 228 (List.toArray [.pointer (some ⟨b,0,none⟩),.int .i64 ((0:Nat):Int),.func (.func g) fs.toArray cs.toArray]) w (fun ee w'=>ee=.returned (.int .i64 ((yQ p t t.size pos:Nat):Int))∧Mem Φ (.blk b (ob (.string t::.int .i64 ((pos:Nat):Int)::rest) T0)::K) w') :=
 q3j (k:=0) hg hf (by omega) h2 hm
end Go.Sw

namespace Go.Sw
open Go.Proofs.Tryz
open Go.Proofs
set_option maxRecDepth 20000
set_option maxHeartbeats 4000000
theorem q8j {Φ:Fz} {K:List Res} {w:World} {t:Bs} {pos b:Nat} {rest:List Value} {T0:TypeId} (h1:pos≤t.size) (h2:t.size≤1000000) (hm:Mem Φ (.blk b (ob (.string t::.int .i64 ((pos:Nat):Int)::rest) T0)::K) w) :
  Calls prog 231 (List.toArray [.pointer (some ⟨b,0,none⟩)]) w (fun ee w'=>Out (xR t pos pos 0)
   (fun q=>ee=.returned (.tuple #[])∧Mem Φ (.blk b (ob (.string t::.int .i64 ((q:Nat):Int)::rest) T0)::K) w')
   (fun c=>ee=.panicked (dI c)∧Mem Φ K w')):=by
 refine zN func231 ntmps231 fun Q hQ a he =>?_
 refine go fun a he =>?_
 refine yG (he.ks [0,2]) hm (fun R mm a w=>∃(i:Nat) (o:Int),mm=t.size - i∧R Φ [(3,.int .i64 (o))] [(0,.blk b (ob (.string t::.int .i64 ((i:Nat):Int)::rest) T0))] a w∧(i≤t.size∧-(i:Int)≤o∧o≤100∧xR t pos pos 0=xR t pos i o)) (t.size - pos) ⟨pos,0,rfl,⟨he.pk,hm⟩,by exact ⟨h1,by omega,by omega,rfl⟩⟩ ?_
 clear hm he
 rintro mm a w ⟨i,o,hmu,⟨he,hm⟩,hI3⟩ L2 hL2
 replace hm:=hm.nf
 obtain ⟨hi0,hi1,hi2,hi3⟩:=hI3
 refine Reg [1,1,1,1,2,1,1,1,1,2,1,1,1] [0] fun w hm a he =>?_
 by_cases h5:t.size≤i
 refine qH fun a he =>?_
 refine Qq (fun a he =>?_) (o:=by exact fun he hs=>qD he rfl runUnderlying257 (by intro ms h;cases h))
 refine st0 he rfl rfl (vA he rfl (vB _) (fun a hd=>hQ _ _ _ (yV hd ?_)))
 replace hm:=hm.dl [0]
 show Out (xR t pos pos 0) _ _
 rw [hi3,pR,if_pos h5];exact ⟨rfl,hm⟩
 refine yH call230 (fun hB7 w hm a he =>?_) (fun hB7 w hm a he =>?_) (c:=nC (by omega) hm)
 by_cases h10:100≤o
 refine qH fun a he =>?_
 refine Qq (fun a he =>?_) (o:=by exact fun he hs=>qD he rfl runUnderlying257 (by intro ms h;cases h))
 refine st0 he rfl rfl (vA he rfl (vB _) (fun a hd=>hQ _ _ _ (yV hd ?_)))
 replace hm:=hm.dl [0]
 show Out (xR t pos pos 0) _ _
 rw [hi3,pR,if_neg h5,if_pos hB7,if_pos h10];exact ⟨rfl,hm⟩
 refine Qq (fun a he =>?_) (o:=by exact fun he hs=>j3n (o+1) he rfl rfl (by rw [xH (by omega)]))
 refine Qq (fun a he =>?_) (o:=by exact fun he hs=>kV (i:=i) (j:=2) he rfl rfl (by omega))
 refine Sto 0 fun w hm a he =>?_
 refine go fun a he =>?_
 refine hL2 (t.size - ((i+2))) _ _ (by subst hmu;first | omega | (have h:=jH hB7;have:(⟨#[40,42]⟩:ByteArray).size=2:=rfl;have:(⟨#[42,41]⟩:ByteArray).size=2:=rfl;omega)) ⟨((i+2)),(o+1),rfl,⟨he.pk,hm⟩,?_⟩
 refine ⟨by first | omega | (have h:=jH hB7;have:(⟨#[40,42]⟩:ByteArray).size=2:=rfl;have:(⟨#[42,41]⟩:ByteArray).size=2:=rfl;omega),by omega,by omega,?_⟩
 rw [hi3,pR,if_neg h5]
 simp [*]
 refine yH call230 (fun hB13 w hm a he =>?_) (fun hB13 w hm a he =>?_) (c:=nC (by omega) hm)
 refine Qq (fun a he =>?_) (o:=by exact fun he hs=>pE (o - 1) he rfl rfl (by rw [xH (by omega)]))
 refine Qq (fun a he =>?_) (o:=by exact fun he hs=>kV (i:=i) (j:=2) he rfl rfl (by omega))
 refine Sto 0 fun w hm a he =>?_
 by_cases h17:o - 1=0
 refine go fun a he =>?_
 refine hQ _ _ _ (ret0 he results231 ?_)
 show Out (xR t pos pos 0) _ _
 rw [hi3,pR,if_neg h5,if_neg (by simp [*]),if_pos hB13,if_pos h17];exact ⟨rfl,hm⟩
 refine go fun a he =>?_
 refine hL2 (t.size - ((i+2))) _ _ (by subst hmu;first | omega | (have h:=jH hB13;have:(⟨#[40,42]⟩:ByteArray).size=2:=rfl;have:(⟨#[42,41]⟩:ByteArray).size=2:=rfl;omega)) ⟨((i+2)),(o - 1),rfl,⟨he.pk,hm⟩,?_⟩
 refine ⟨by first | omega | (have h:=jH hB13;have:(⟨#[40,42]⟩:ByteArray).size=2:=rfl;have:(⟨#[42,41]⟩:ByteArray).size=2:=rfl;omega),by omega,by omega,?_⟩
 rw [hi3,pR,if_neg h5]
 simp [*]
 refine Sto 0 fun w hm a he =>?_
 refine go fun a he =>?_
 refine hL2 (t.size - ((i+1))) _ _ (by subst hmu;first | omega | (have h:=jH hB13;have:(⟨#[40,42]⟩:ByteArray).size=2:=rfl;have:(⟨#[42,41]⟩:ByteArray).size=2:=rfl;omega)) ⟨((i+1)),(o),rfl,⟨he.pk,hm⟩,?_⟩
 refine ⟨by first | omega | (have h:=jH hB13;have:(⟨#[40,42]⟩:ByteArray).size=2:=rfl;have:(⟨#[42,41]⟩:ByteArray).size=2:=rfl;omega),by omega,by omega,?_⟩
 rw [hi3,pR,if_neg h5]
 simp [*]
end Go.Sw

namespace Go.Sw
open Go.Proofs.Tryz
open Go.Proofs
set_option maxRecDepth 20000
set_option maxHeartbeats 4000000
theorem j2z {Φ:Fz} {K:List Res} {w:World} {t:Bs} {pos b:Nat} {mv cv:Value} {cs:List Value} (h1:pos≤t.size) (h2:t.size≤1000000) (h3:cs.length≤2 * pos) (hm:Mem Φ (.blk b (ob [.string t,.int .i64 ((pos:Nat):Int),mv,cv] 289)::.gs cv 303 2 cs::K) w) :
  Calls prog 220 (List.toArray [.pointer (some ⟨b,0,none⟩)]) w (fun ee w'=>Out (cX t pos)
   (fun q=>∃y:Value×List Value,ee=.returned (.tuple #[])∧y.2.length≤2 * q∧Mem Φ (.blk b (ob [.string t,.int .i64 ((q:Nat):Int),mv,y.1] 289)::.gs y.1 303 2 y.2::K) w')
   (fun c=>ee=.panicked (dI c)∧Mem Φ K w')):=by
 refine zN func220 ntmps220 fun Q hQ a he =>?_
 refine go fun a he =>?_
 refine yG (he.ks [0]) hm (fun R mm a w=>∃(i:Nat) (u:Value) (ds:List Value),mm=t.size - i∧R Φ [] [(0,.blk b (ob [.string t,.int .i64 ((i:Nat):Int),mv,u] 289)),(1,.gs (u) 303 2 ds)] a w∧(i≤t.size∧ds.length≤2 * i∧cX t pos=cX t i)) (t.size - pos) ⟨pos,cv,cs,rfl,⟨he.pk,hm⟩,by exact ⟨h1,h3,rfl⟩⟩ ?_
 clear hm he
 rintro mm a w ⟨i,u,ds,hmu,⟨he,hm⟩,hI2⟩ L1 hL1
 replace hm:=hm.nf
 obtain ⟨hi0,hi1,hi2⟩:=hI2
 have hrl:=vQ xV t t.size i hi0
 refine Reg [1,1,1,1,2,1,1,1,0,1,1,1,1,0] [0,1] fun w hm a he =>?_
 refine zT call228 (fun w hm a he =>?_) (c:=q3i (p:=xV) (pos:=i) (fs:=[]) (cs:=[]) call229 (fun c hm=>q9l hm) (by omega) (by omega) hm)
 refine Qq (fun a he =>?_) (o:=by exact fun he hs=>kV (i:=i) (j:=(yQ xV t t.size i)) he rfl rfl (by omega))
 refine Sto 0 fun w hm a he =>?_
 refine yH call230 (fun hB6 w hm a he =>?_) (fun hB6 w hm a he =>?_) (c:=nC (by omega) hm)
 refine qT call231 (fun q9 w hq10 hm a he =>?_) (fun q9 w hq10 hm =>?_) (c:=q8j (pos:=((i+(yQ xV t t.size i)))) (by omega) (by omega) hm)
 refine Reg [1,1,1,1,2,1,1,1,1,1,2,1,0,0,1,1,0] [0] fun w hm a he =>?_
 refine qH fun a he =>?_
 refine kW fun v11 w hm a he =>?_
 refine wL 2 rt_287 (fun v12 w hm a he =>?_)
 refine Sto 1 fun w hm a he =>?_
 refine go fun a he =>?_
 replace hm:=hm.dl [0]
 refine hL1 (t.size - q9) _ _ (by subst hmu;have hgt:=wC _ _ _ _ _ _ hq10;omega) ⟨(q9),(v12),((ds++[.int .i64 ((((i+(yQ xV t t.size i))):Nat):Int),.int .i64 ((q9:Nat):Int)])),rfl,⟨he.pk,by exact hm⟩,?_⟩
 have hgt:=wC _ _ _ _ _ _ hq10
 refine ⟨hgt.2,by simp only [List.length_append,List.length_cons,List.length_nil];omega,?_⟩
 rw [hi2,y4x t i hi0,if_pos hB6,hq10]
 replace hm:=hm.dl [0]
 show Out (cX t pos) _ _
 rw [hi2,y4x t i hi0,if_pos hB6,hq10];exact ⟨rfl,hm⟩
 refine go fun a he =>?_
 refine hQ _ _ _ (ret0 he results220 ?_)
 show Out (cX t pos) _ _
 rw [hi2,y4x t i hi0,if_neg (by simp [*])];exact ⟨⟨u,ds⟩,rfl,by simp only;omega,hm⟩
end Go.Sw

namespace Go.Sw
open Go.Proofs.Tryz
open Go.Proofs
set_option maxRecDepth 20000
set_option maxHeartbeats 4000000
theorem nX {Φ:Fz} {K:List Res} {w:World} {t:Bs} {pos b:Nat} {rest:List Value} {T0:TypeId} {kd:Int} {n:Nat} (h1:pos+n≤t.size) (h2:t.size≤1000000) (hm:Mem Φ (.blk b (ob (.string t::.int .i64 ((pos:Nat):Int)::rest) T0)::K) w) :
  Calls prog 238 (List.toArray [.pointer (some ⟨b,0,none⟩),.int .i64 kd,.int .i64 ((n:Nat):Int)]) w (fun ee w'=>Out (vN t pos kd n) (fun q=>ee=.returned (y6c q)∧Mem Φ (.blk b (ob (.string t::.int .i64 ((pos:Nat):Int)::rest) T0)::K) w') (fun c=>ee=.panicked (dI c)∧Mem Φ K w')):=by
 refine zN func238 ntmps238 fun Q hQ a he =>?_
 refine Alc fun b2 w hm a he =>?_
 by_cases h5:24 < n
 refine qH fun a he =>?_
 refine Qq (fun a he =>?_) (o:=by exact fun he hs=>qD he rfl runUnderlying257 (by intro ms h;cases h))
 refine st0 he rfl rfl (vA he rfl (vB _) (fun a hd=>hQ _ _ _ (yV hd ?_)))
 replace hm:=hm.dl [1,0]
 show Out (vN t pos kd n) _ _
 rw [vN,if_pos h5];exact ⟨rfl,hm⟩
 refine Reg [1,1,1,1,1,2,1,1,1,1,2,1,1,1,1,2,1,1,1,1,1,1,1,2,1,0] [0,1] fun w hm a he =>?_
 refine Qq (fun a he =>?_) (o:=by exact fun he hs=>kV (i:=pos) (j:=n) he rfl rfl (by omega))
 refine Qq (fun a he =>?_) (o:=by exact fun he hs=>jU pos ((pos+n)) he rfl runUnderlying9 ⟨_,rfl⟩ ⟨_,rfl⟩ (by omega) (by omega))
 refine qH fun a he =>?_
 refine Sto 0 fun w hm a he =>?_
 refine go fun a he =>?_
 have hmr:=hm
 replace hm:=hm.dl [0]
 refine kX (hm:=hmr) ?_
 show Out (vN t pos kd n) _ _
 rw [vN,if_neg h5];exact ⟨rfl,hm⟩
theorem j2t {Φ:Fz} {K:List Res} {w:World} {t:Bs} {pos b mb:Nat} {cv:Value} {kd:Int} (hmap:MapAt Φ mb wordsM) (h1:pos≤t.size) (h2:t.size≤1000000) (hm:Mem Φ (.blk b (ob [.string t,.int .i64 ((pos:Nat):Int),.map (some mb),cv] 289)::K) w) :
  Calls prog 236 (List.toArray [.pointer (some ⟨b,0,none⟩),.int .i64 kd]) w (fun ee w'=>Out (vY t pos kd) (fun q=>ee=.returned (y6c q)∧Mem Φ (.blk b (ob [.string t,.int .i64 ((pos:Nat):Int),.map (some mb),cv] 289)::K) w') (fun c=>ee=.panicked (dI c)∧Mem Φ K w')):=by
 refine zN func236 ntmps236 fun Q hQ a he =>?_
 refine Alc fun b2 w hm a he =>?_
 refine go fun a he =>?_
 have hr1:=vQ qE t t.size pos h1
 replace hm:=hm.pl 1
 refine zT call228 (fun w hm a he =>?_) (c:=q3i (p:=qE) (pos:=pos) (fs:=[]) (cs:=[]) call239 (fun c hm=>z3w hm) (by omega) (by omega) hm)
 refine zT call232 (fun w hm a he =>?_) (c:=z2i (by omega) hm)
 by_cases h6:zJ t (pos+((yQ qE t t.size pos)))=39
 have hb39:=tD (t:=t) (i:=pos+yQ qE t t.size pos) (by omega)
 have hr2:=vQ yW t t.size (pos+(yQ qE t t.size pos+1)) (by omega)
 refine zT call228 (fun w hm a he =>?_) (c:=q3j (p:=yW) (pos:=pos) (k:=((yQ qE t t.size pos)+1)) (fs:=[]) (cs:=[]) call233 (fun c hm=>aW hm) (by omega) (by omega) hm)
 by_cases h9:0 < (yQ yW t t.size (pos+((yQ qE t t.size pos)+1)))
 refine Qq (fun a he =>?_) (o:=by exact fun he hs=>kV (i:=1) (j:=(yQ yW t t.size (pos+((yQ qE t t.size pos)+1)))) he rfl rfl (by omega))
 refine Qq (fun a he =>?_) (o:=by exact fun he hs=>kV (i:=(yQ qE t t.size pos)) (j:=(1+(yQ yW t t.size (pos+((yQ qE t t.size pos)+1))))) he rfl rfl (by omega))
 refine qT call238 (fun q11 w hq12 hm a he =>?_) (fun q11 w hq12 hm =>?_) (c:=nX (pos:=pos) (kd:=kd) (n:=((yQ qE t t.size pos)+(1+(yQ yW t t.size (pos+((yQ qE t t.size pos)+1)))))) (by omega) (by omega) hm)
 refine Alc fun b13 w hm a he =>?_
 refine Sto 0 fun w hm a he =>?_
 refine Reg [1,1,1,2,1,2,2,1,1,1,1,1] [0,1,2] fun w hm a he =>?_
 refine go fun a he =>?_
 rcases hf16:yD (wordsM) q11.text with _ | vf17
 have hf16_:=congrArg (zG true (.int .i64 ((0:Nat):Int))) hf16
 refine Qq (fun a he =>?_) (o:=by exact fun he hs=>Ok.cast (yP runUnderlying286 runUnderlying9 zeroValue3 he hs rfl rfl hmap) (show zG true (.int .i64 ((0:Nat):Int)) (yD (wordsM) q11.text)=.tuple (List.toArray [.int .i64 ((0:Nat):Int),.bool false]) from hf16_))
 refine Sto 2 fun w hm a he =>?_
 refine go fun a he =>?_
 have hmr:=hm
 replace hm:=hm.dl [2,0]
 refine kX (hm:=hmr) ?_
 show Out (vY t pos kd) _ _
 first | rw [dV hq12 hf16 (by simp [qP, *])] | rw [dW hq12 hf16 (by simp [qP, *])]
 exact ⟨rfl,hm⟩
 obtain rfl:=z0k hf16
 have hf16_:=congrArg (zG true (.int .i64 ((0:Nat):Int))) hf16
 refine Qq (fun a he =>?_) (o:=by exact fun he hs=>Ok.cast (yP runUnderlying286 runUnderlying9 zeroValue3 he hs rfl rfl hmap) (show zG true (.int .i64 ((0:Nat):Int)) (yD (wordsM) q11.text)=.tuple (List.toArray [.int .i64 ((5:Nat):Int),.bool true]) from hf16_))
 refine Sto 0 fun w hm a he =>?_
 refine Sto 2 fun w hm a he =>?_
 refine go fun a he =>?_
 have hmr:=hm
 replace hm:=hm.dl [2,0]
 refine kX (hm:=hmr) ?_
 show Out (vY t pos kd) _ _
 first | rw [dV hq12 hf16 (by simp [qP, *])] | rw [dW hq12 hf16 (by simp [qP, *])]
 exact ⟨rfl,hm⟩
 replace hm:=hm.dl [0]
 show Out (vY t pos kd) _ _
 rw [y4p hq12 (by simp [qP, *])];exact ⟨rfl,hm⟩
 refine qT call238 (fun q23 w hq24 hm a he =>?_) (fun q23 w hq24 hm =>?_) (c:=nX (pos:=pos) (kd:=kd) (n:=(yQ qE t t.size pos)) (by omega) (by omega) hm)
 refine Alc fun b25 w hm a he =>?_
 refine Sto 0 fun w hm a he =>?_
 refine Reg [1,1,1,2,1,2,2,1,1,1,1,1] [0,1,2] fun w hm a he =>?_
 refine go fun a he =>?_
 rcases hf28:yD (wordsM) q23.text with _ | vf29
 have hf28_:=congrArg (zG true (.int .i64 ((0:Nat):Int))) hf28
 refine Qq (fun a he =>?_) (o:=by exact fun he hs=>Ok.cast (yP runUnderlying286 runUnderlying9 zeroValue3 he hs rfl rfl hmap) (show zG true (.int .i64 ((0:Nat):Int)) (yD (wordsM) q23.text)=.tuple (List.toArray [.int .i64 ((0:Nat):Int),.bool false]) from hf28_))
 refine Sto 2 fun w hm a he =>?_
 refine go fun a he =>?_
 have hmr:=hm
 replace hm:=hm.dl [2,0]
 refine kX (hm:=hmr) ?_
 show Out (vY t pos kd) _ _
 first | rw [dV hq24 hf28 (by simp [qP, *])] | rw [dW hq24 hf28 (by simp [qP, *])]
 exact ⟨rfl,hm⟩
 obtain rfl:=z0k hf28
 have hf28_:=congrArg (zG true (.int .i64 ((0:Nat):Int))) hf28
 refine Qq (fun a he =>?_) (o:=by exact fun he hs=>Ok.cast (yP runUnderlying286 runUnderlying9 zeroValue3 he hs rfl rfl hmap) (show zG true (.int .i64 ((0:Nat):Int)) (yD (wordsM) q23.text)=.tuple (List.toArray [.int .i64 ((5:Nat):Int),.bool true]) from hf28_))
 refine Sto 0 fun w hm a he =>?_
 refine Sto 2 fun w hm a he =>?_
 refine go fun a he =>?_
 have hmr:=hm
 replace hm:=hm.dl [2,0]
 refine kX (hm:=hmr) ?_
 show Out (vY t pos kd) _ _
 first | rw [dV hq24 hf28 (by simp [qP, *])] | rw [dW hq24 hf28 (by simp [qP, *])]
 exact ⟨rfl,hm⟩
 replace hm:=hm.dl [0]
 show Out (vY t pos kd) _ _
 rw [y4p hq24 (by simp [qP, *])];exact ⟨rfl,hm⟩
 refine qT call238 (fun q35 w hq36 hm a he =>?_) (fun q35 w hq36 hm =>?_) (c:=nX (pos:=pos) (kd:=kd) (n:=(yQ qE t t.size pos)) (by omega) (by omega) hm)
 refine Alc fun b37 w hm a he =>?_
 refine Sto 0 fun w hm a he =>?_
 refine Reg [1,1,1,2,1,2,2,1,1,1,1,1] [0,1,2] fun w hm a he =>?_
 refine go fun a he =>?_
 rcases hf40:yD (wordsM) q35.text with _ | vf41
 have hf40_:=congrArg (zG true (.int .i64 ((0:Nat):Int))) hf40
 refine Qq (fun a he =>?_) (o:=by exact fun he hs=>Ok.cast (yP runUnderlying286 runUnderlying9 zeroValue3 he hs rfl rfl hmap) (show zG true (.int .i64 ((0:Nat):Int)) (yD (wordsM) q35.text)=.tuple (List.toArray [.int .i64 ((0:Nat):Int),.bool false]) from hf40_))
 refine Sto 2 fun w hm a he =>?_
 refine go fun a he =>?_
 have hmr:=hm
 replace hm:=hm.dl [2,0]
 refine kX (hm:=hmr) ?_
 show Out (vY t pos kd) _ _
 first | rw [dV hq36 hf40 (by simp [qP, *])] | rw [dW hq36 hf40 (by simp [qP, *])]
 exact ⟨rfl,hm⟩
 obtain rfl:=z0k hf40
 have hf40_:=congrArg (zG true (.int .i64 ((0:Nat):Int))) hf40
 refine Qq (fun a he =>?_) (o:=by exact fun he hs=>Ok.cast (yP runUnderlying286 runUnderlying9 zeroValue3 he hs rfl rfl hmap) (show zG true (.int .i64 ((0:Nat):Int)) (yD (wordsM) q35.text)=.tuple (List.toArray [.int .i64 ((5:Nat):Int),.bool true]) from hf40_))
 refine Sto 0 fun w hm a he =>?_
 refine Sto 2 fun w hm a he =>?_
 refine go fun a he =>?_
 have hmr:=hm
 replace hm:=hm.dl [2,0]
 refine kX (hm:=hmr) ?_
 show Out (vY t pos kd) _ _
 first | rw [dV hq36 hf40 (by simp [qP, *])] | rw [dW hq36 hf40 (by simp [qP, *])]
 exact ⟨rfl,hm⟩
 replace hm:=hm.dl [0]
 show Out (vY t pos kd) _ _
 rw [y4p hq36 (by simp [qP, *])];exact ⟨rfl,hm⟩
end Go.Sw

namespace Go.Proofs
open Go.Shelf
def Tryz.lays137_ren:Go.Shelf.Ren:=⟨fun | 137=>199 | 217=>214 | 266=>222 | n=>n,fun | 9=>9 | 5=>5 | 3=>3 | n=>n,fun | n=>n⟩
theorem Tryz.lays137:Go.Proofs.Lays.n137 Tryz.prog Tryz.lays137_ren:={
 mixed:=by kernel_rfl
 f137:=Tryz.func199.trans (congrArg some (by kernel_rfl))
 f217:=Tryz.func214.trans (congrArg some (by kernel_rfl))
 f266:=Tryz.func222.trans (congrArg some (by kernel_rfl))
 t3:=Tryz.underlying3
 a3:=Tryz.isAgg3
 z3:=Tryz.sizeOf3
 v3:=Tryz.zeroValue3
 t5:=Tryz.underlying5
 a5:=Tryz.isAgg5
 z5:=Tryz.sizeOf5
 v5:=Tryz.zeroValue5
 t9:=Tryz.underlying9
 a9:=Tryz.isAgg9
 z9:=Tryz.sizeOf9
 v9:=Tryz.zeroValue9 }
open Go.RowKit in
theorem Tryz.strings_IndexByte (s:ByteArray) (c:Int) (w:World) :
  Calls Tryz.prog 199 #[.string s,.int .u8 c] w fun e w'=>e=.returned (.int .i64 (Lib.indexByte s.data.toList c.toNat.toUInt8))∧w'=w:=Any.strings_IndexByte Tryz.lays137 s c w
def Tryz.laysM171_ren:Go.Shelf.Ren:=⟨fun | 171=>99 | 243=>144 | 246=>182 | 283=>194 | 284=>195 | 285=>196 | 286=>197 | 129=>207 | 317=>206 | 318=>208 | 319=>209 | 320=>210 | 337=>217 | 338=>218 | n=>n,fun | 3=>3 | 9=>9 | 2=>2 | 4=>4 | 171=>249 | 0=>0 | 53=>219 | 37=>237 | 5=>5 | 173=>252 | 212=>274 | 51=>275 | 20=>20 | 213=>276 | 46=>265 | 232=>299 | 233=>300 | n=>n,fun | 17=>0 | 18=>2 | 19=>3 | n=>n⟩
theorem Tryz.laysM171:Go.Proofs.LaysM.n171 Tryz.prog Tryz.laysM171_ren:={
 mixed:=by kernel_rfl
 f129:=Tryz.func207.trans (congrArg some (by kernel_rfl))
 f171:=Tryz.func99.trans (congrArg some (by kernel_rfl))
 f243:=Tryz.func144.trans (congrArg some (by kernel_rfl))
 f246:=Tryz.func182.trans (congrArg some (by kernel_rfl))
 f283:=Tryz.func194.trans (congrArg some (by kernel_rfl))
 f284:=Tryz.func195.trans (congrArg some (by kernel_rfl))
 f285:=Tryz.func196.trans (congrArg some (by kernel_rfl))
 f286:=Tryz.func197.trans (congrArg some (by kernel_rfl))
 f317:=Tryz.func206.trans (congrArg some (by kernel_rfl))
 f318:=Tryz.func208.trans (congrArg some (by kernel_rfl))
 f319:=Tryz.func209.trans (congrArg some (by kernel_rfl))
 f320:=Tryz.func210.trans (congrArg some (by kernel_rfl))
 f337:=Tryz.func217.trans (congrArg some (by kernel_rfl))
 f338:=Tryz.func218.trans (congrArg some (by kernel_rfl))
 t0:=Tryz.underlying0
 a0:=Tryz.isAgg0
 z0:=Tryz.sizeOf0
 v0:=Tryz.zeroValue0
 t2:=Tryz.underlying2
 a2:=Tryz.isAgg2
 z2:=Tryz.sizeOf2
 v2:=Tryz.zeroValue2
 t3:=Tryz.underlying3
 a3:=Tryz.isAgg3
 z3:=Tryz.sizeOf3
 v3:=Tryz.zeroValue3
 t4:=Tryz.underlying4
 a4:=Tryz.isAgg4
 z4:=Tryz.sizeOf4
 v4:=Tryz.zeroValue4
 t5:=Tryz.underlying5
 a5:=Tryz.isAgg5
 z5:=Tryz.sizeOf5
 v5:=Tryz.zeroValue5
 t9:=Tryz.underlying9
 a9:=Tryz.isAgg9
 z9:=Tryz.sizeOf9
 v9:=Tryz.zeroValue9
 t20:=Tryz.underlying20
 a20:=Tryz.isAgg20
 z20:=Tryz.sizeOf20
 v20:=Tryz.zeroValue20
 t37:=Tryz.underlying237
 a37:=Tryz.isAgg237
 z37:=Tryz.sizeOf237
 v37:=Tryz.zeroValue237
 t46:=Tryz.underlying265
 a46:=Tryz.isAgg265
 z46:=Tryz.sizeOf265
 v46:=Tryz.zeroValue265
 t51:=Tryz.underlying275
 a51:=Tryz.isAgg275
 z51:=Tryz.sizeOf275
 v51:=Tryz.zeroValue275
 t53:=Tryz.underlying219
 a53:=Tryz.isAgg219
 z53:=Tryz.sizeOf219
 v53:=Tryz.zeroValue219
 t171:=Tryz.underlying249
 a171:=Tryz.isAgg249
 z171:=Tryz.sizeOf249
 v171:=Tryz.zeroValue249
 t173:=Tryz.underlying252
 a173:=Tryz.isAgg252
 z173:=Tryz.sizeOf252
 v173:=Tryz.zeroValue252
 t212:=Tryz.underlying274
 a212:=Tryz.isAgg274
 z212:=Tryz.sizeOf274
 v212:=Tryz.zeroValue274
 t213:=Tryz.underlying276
 a213:=Tryz.isAgg276
 z213:=Tryz.sizeOf276
 t232:=Tryz.underlying299
 a232:=Tryz.isAgg299
 z232:=Tryz.sizeOf299
 v232:=Tryz.zeroValue299
 t233:=Tryz.underlying300
 a233:=Tryz.isAgg300
 z233:=Tryz.sizeOf300
 v233:=Tryz.zeroValue300
 g17:=by kernel_rfl
 g18:=by kernel_rfl
 g19:=by kernel_rfl
 i0:=by kernel_rfl
 i2:=by kernel_rfl
 i3:=by kernel_rfl
 i4:=by kernel_rfl
 i5:=by kernel_rfl
 i9:=by kernel_rfl
 i20:=by kernel_rfl
 i37:=by kernel_rfl
 i46:=by kernel_rfl
 i51:=by kernel_rfl
 i53:=by kernel_rfl
 i171:=by kernel_rfl
 i173:=by kernel_rfl
 i212:=by kernel_rfl
 i232:=by kernel_rfl
 i233:=by kernel_rfl
 m17:=by kernel_rfl
 m18:=by kernel_rfl
 m19:=by kernel_rfl }
open Go.RowKit Go.Sort Go.Lib in
theorem Tryz.strconv_Itoa (n:Int) (h0:-9223372036854775808≤n) (h1:n≤9223372036854775807) (w:World) (htab:Lib.TabIs Tryz.prog w "internal/strconv.uint64pow10" .u64 Lib.pow10Tab) :
  Calls Tryz.prog 99 #[.int .i64 n] w fun e w'=>e=.returned (.string ⟨(Lib.itoa n).toArray⟩)∧∃k os,w'=grow (w.drewN k) os:=Any.strconv_Itoa Tryz.laysM171 n h0 h1 w htab
def Tryz.laysC172_ren:Go.Shelf.Ren:=⟨fun | 172=>203 | 244=>215 | 245=>216 | 247=>223 | 279=>224 | 280=>225 | 281=>226 | 282=>227 | 287=>240 | 316=>241 | 171=>99 | 205=>242 | 321=>245 | 322=>246 | 243=>144 | 246=>182 | 283=>194 | 284=>195 | 285=>196 | 286=>197 | 129=>207 | 317=>206 | 318=>208 | 319=>209 | 320=>210 | 337=>217 | 338=>218 | n=>n,fun | 9=>9 | 3=>3 | 75=>268 | 76=>269 | 4=>4 | 5=>5 | 167=>293 | 37=>237 | 0=>0 | 85=>294 | 2=>2 | 168=>296 | 53=>219 | 175=>307 | 46=>265 | 210=>310 | 127=>317 | 145=>320 | 143=>318 | 21=>21 | 171=>249 | 173=>252 | 212=>274 | 51=>275 | 20=>20 | 213=>276 | 232=>299 | 233=>300 | 80=>79 | n=>n,fun | 15=>4 | 16=>5 | 17=>0 | 18=>2 | 19=>3 | n=>n⟩
theorem Tryz.laysC172:Go.Proofs.LaysC.n172 Tryz.prog Tryz.laysC172_ren:={
 mixed:=by kernel_rfl
 f129:=Tryz.func207.trans (congrArg some (by kernel_rfl))
 f171:=Tryz.func99.trans (congrArg some (by kernel_rfl))
 f172:=Tryz.func203.trans (congrArg some (by kernel_rfl))
 f205:=Tryz.func242.trans (congrArg some (by kernel_rfl))
 f243:=Tryz.func144.trans (congrArg some (by kernel_rfl))
 f244:=Tryz.func215.trans (congrArg some (by kernel_rfl))
 f245:=Tryz.func216.trans (congrArg some (by kernel_rfl))
 f246:=Tryz.func182.trans (congrArg some (by kernel_rfl))
 f247:=Tryz.func223.trans (congrArg some (by kernel_rfl))
 f279:=Tryz.func224.trans (congrArg some (by kernel_rfl))
 f280:=Tryz.func225.trans (congrArg some (by kernel_rfl))
 f281:=Tryz.func226.trans (congrArg some (by kernel_rfl))
 f282:=Tryz.func227.trans (congrArg some (by kernel_rfl))
 f283:=Tryz.func194.trans (congrArg some (by kernel_rfl))
 f284:=Tryz.func195.trans (congrArg some (by kernel_rfl))
 f285:=Tryz.func196.trans (congrArg some (by kernel_rfl))
 f286:=Tryz.func197.trans (congrArg some (by kernel_rfl))
 f287:=Tryz.func240.trans (congrArg some (by kernel_rfl))
 f316:=Tryz.func241.trans (congrArg some (by kernel_rfl))
 f317:=Tryz.func206.trans (congrArg some (by kernel_rfl))
 f318:=Tryz.func208.trans (congrArg some (by kernel_rfl))
 f319:=Tryz.func209.trans (congrArg some (by kernel_rfl))
 f320:=Tryz.func210.trans (congrArg some (by kernel_rfl))
 f321:=Tryz.func245.trans (congrArg some (by kernel_rfl))
 f322:=Tryz.func246.trans (congrArg some (by kernel_rfl))
 f337:=Tryz.func217.trans (congrArg some (by kernel_rfl))
 f338:=Tryz.func218.trans (congrArg some (by kernel_rfl))
 t0:=Tryz.underlying0
 a0:=Tryz.isAgg0
 z0:=Tryz.sizeOf0
 v0:=Tryz.zeroValue0
 t2:=Tryz.underlying2
 a2:=Tryz.isAgg2
 z2:=Tryz.sizeOf2
 v2:=Tryz.zeroValue2
 t3:=Tryz.underlying3
 a3:=Tryz.isAgg3
 z3:=Tryz.sizeOf3
 v3:=Tryz.zeroValue3
 t4:=Tryz.underlying4
 a4:=Tryz.isAgg4
 z4:=Tryz.sizeOf4
 v4:=Tryz.zeroValue4
 t5:=Tryz.underlying5
 a5:=Tryz.isAgg5
 z5:=Tryz.sizeOf5
 v5:=Tryz.zeroValue5
 t9:=Tryz.underlying9
 a9:=Tryz.isAgg9
 z9:=Tryz.sizeOf9
 v9:=Tryz.zeroValue9
 t20:=Tryz.underlying20
 a20:=Tryz.isAgg20
 z20:=Tryz.sizeOf20
 v20:=Tryz.zeroValue20
 t21:=Tryz.underlying21
 a21:=Tryz.isAgg21
 z21:=Tryz.sizeOf21
 v21:=Tryz.zeroValue21
 t37:=Tryz.underlying237
 a37:=Tryz.isAgg237
 z37:=Tryz.sizeOf237
 v37:=Tryz.zeroValue237
 t46:=Tryz.underlying265
 a46:=Tryz.isAgg265
 z46:=Tryz.sizeOf265
 v46:=Tryz.zeroValue265
 t51:=Tryz.underlying275
 a51:=Tryz.isAgg275
 z51:=Tryz.sizeOf275
 v51:=Tryz.zeroValue275
 t53:=Tryz.underlying219
 a53:=Tryz.isAgg219
 z53:=Tryz.sizeOf219
 v53:=Tryz.zeroValue219
 t75:=Tryz.underlying268
 a75:=Tryz.isAgg268
 z75:=Tryz.sizeOf268
 v75:=Tryz.zeroValue268
 t76:=Tryz.underlying269
 a76:=Tryz.isAgg269
 z76:=Tryz.sizeOf269
 v76:=Tryz.zeroValue269
 t85:=Tryz.underlying294
 a85:=Tryz.isAgg294
 z85:=Tryz.sizeOf294
 v85:=Tryz.zeroValue294
 t127:=Tryz.underlying317
 a127:=Tryz.isAgg317
 z127:=Tryz.sizeOf317
 v127:=Tryz.zeroValue317
 t143:=Tryz.underlying318
 a143:=Tryz.isAgg318
 z143:=Tryz.sizeOf318
 v143:=Tryz.zeroValue318
 t145:=Tryz.underlying320
 a145:=Tryz.isAgg320
 z145:=Tryz.sizeOf320
 v145:=Tryz.zeroValue320
 t167:=Tryz.underlying293
 a167:=Tryz.isAgg293
 z167:=Tryz.sizeOf293
 v167:=Tryz.zeroValue293
 t168:=Tryz.underlying296
 a168:=Tryz.isAgg296
 z168:=Tryz.sizeOf296
 v168:=Tryz.zeroValue296
 t171:=Tryz.underlying249
 a171:=Tryz.isAgg249
 z171:=Tryz.sizeOf249
 v171:=Tryz.zeroValue249
 t173:=Tryz.underlying252
 a173:=Tryz.isAgg252
 z173:=Tryz.sizeOf252
 v173:=Tryz.zeroValue252
 t175:=Tryz.underlying307
 a175:=Tryz.isAgg307
 z175:=Tryz.sizeOf307
 v175:=Tryz.zeroValue307
 t210:=Tryz.underlying310
 a210:=Tryz.isAgg310
 z210:=Tryz.sizeOf310
 v210:=Tryz.zeroValue310
 t212:=Tryz.underlying274
 a212:=Tryz.isAgg274
 z212:=Tryz.sizeOf274
 v212:=Tryz.zeroValue274
 t213:=Tryz.underlying276
 a213:=Tryz.isAgg276
 z213:=Tryz.sizeOf276
 t232:=Tryz.underlying299
 a232:=Tryz.isAgg299
 z232:=Tryz.sizeOf299
 v232:=Tryz.zeroValue299
 t233:=Tryz.underlying300
 a233:=Tryz.isAgg300
 z233:=Tryz.sizeOf300
 v233:=Tryz.zeroValue300
 g15:=by kernel_rfl
 g16:=by kernel_rfl
 g17:=by kernel_rfl
 g18:=by kernel_rfl
 g19:=by kernel_rfl
 t80:=Tryz.underlying79
 a80:=Tryz.isAgg79
 z80:=Tryz.sizeOf79
 v80:=Tryz.zeroValue79
 i0:=by kernel_rfl
 i2:=by kernel_rfl
 i3:=by kernel_rfl
 i4:=by kernel_rfl
 i5:=by kernel_rfl
 i9:=by kernel_rfl
 i20:=by kernel_rfl
 i21:=by kernel_rfl
 i37:=by kernel_rfl
 i46:=by kernel_rfl
 i51:=by kernel_rfl
 i53:=by kernel_rfl
 i75:=by kernel_rfl
 i76:=by kernel_rfl
 i80:=by kernel_rfl
 i85:=by kernel_rfl
 i127:=by kernel_rfl
 i143:=by kernel_rfl
 i145:=by kernel_rfl
 i167:=by kernel_rfl
 i168:=by kernel_rfl
 i171:=by kernel_rfl
 i173:=by kernel_rfl
 i175:=by kernel_rfl
 i210:=by kernel_rfl
 i212:=by kernel_rfl
 i232:=by kernel_rfl
 i233:=by kernel_rfl
 m15:=by kernel_rfl
 m16:=by kernel_rfl
 m17:=by kernel_rfl
 m18:=by kernel_rfl
 m19:=by kernel_rfl
 c0:=by kernel_rfl
 c2:=by kernel_rfl
 c3:=by kernel_rfl
 c4:=by kernel_rfl
 c5:=by kernel_rfl
 c9:=by kernel_rfl
 c20:=by kernel_rfl
 c21:=by kernel_rfl
 c37:=by kernel_rfl
 c46:=by kernel_rfl
 c51:=by kernel_rfl
 c53:=by kernel_rfl
 c75:=by kernel_rfl
 c76:=by kernel_rfl
 c80:=by kernel_rfl
 c85:=by kernel_rfl
 c127:=by kernel_rfl
 c143:=by kernel_rfl
 c145:=by kernel_rfl
 c167:=by kernel_rfl
 c168:=by kernel_rfl
 c171:=by kernel_rfl
 c173:=by kernel_rfl
 c175:=by kernel_rfl
 c210:=by kernel_rfl
 c212:=by kernel_rfl
 c213:=by kernel_rfl
 c232:=by kernel_rfl
 c233:=by kernel_rfl }
def Tryz.lays154_ren:Go.Shelf.Ren:=⟨fun | 154=>248 | 138=>250 | 165=>251 | 143=>252 | 166=>253 | 197=>254 | 169=>255 | 195=>256 | 218=>257 | 240=>258 | 241=>259 | 219=>260 | 260=>261 | 276=>262 | 277=>263 | 217=>214 | 225=>202 | 224=>201 | 267=>264 | 266=>222 | 314=>265 | n=>n,fun | 9=>9 | 3=>3 | 4=>4 | 72=>324 | 0=>0 | 76=>269 | 105=>326 | 21=>21 | 5=>5 | 70=>322 | 20=>20 | 37=>237 | 75=>268 | 127=>317 | 164=>328 | 46=>265 | 119=>331 | 139=>334 | 138=>333 | 146=>335 | 51=>275 | 80=>79 | n=>n,fun | 1=>1 | 3=>6 | 4=>7 | n=>n⟩
theorem Tryz.lays154:Go.Proofs.Lays.n154 Tryz.prog Tryz.lays154_ren:={
 mixed:=by kernel_rfl
 f138:=Tryz.func250.trans (congrArg some (by kernel_rfl))
 f143:=Tryz.func252.trans (congrArg some (by kernel_rfl))
 f154:=Tryz.func248.trans (congrArg some (by kernel_rfl))
 f165:=Tryz.func251.trans (congrArg some (by kernel_rfl))
 f166:=Tryz.func253.trans (congrArg some (by kernel_rfl))
 f169:=Tryz.func255.trans (congrArg some (by kernel_rfl))
 f195:=Tryz.func256.trans (congrArg some (by kernel_rfl))
 f197:=Tryz.func254.trans (congrArg some (by kernel_rfl))
 f217:=Tryz.func214.trans (congrArg some (by kernel_rfl))
 f218:=Tryz.func257.trans (congrArg some (by kernel_rfl))
 f219:=Tryz.func260.trans (congrArg some (by kernel_rfl))
 f224:=Tryz.func201.trans (congrArg some (by kernel_rfl))
 f225:=Tryz.func202.trans (congrArg some (by kernel_rfl))
 f240:=Tryz.func258.trans (congrArg some (by kernel_rfl))
 f241:=Tryz.func259.trans (congrArg some (by kernel_rfl))
 f260:=Tryz.func261.trans (congrArg some (by kernel_rfl))
 f266:=Tryz.func222.trans (congrArg some (by kernel_rfl))
 f267:=Tryz.func264.trans (congrArg some (by kernel_rfl))
 f276:=Tryz.func262.trans (congrArg some (by kernel_rfl))
 f277:=Tryz.func263.trans (congrArg some (by kernel_rfl))
 f314:=Tryz.func265.trans (congrArg some (by kernel_rfl))
 t0:=Tryz.underlying0
 a0:=Tryz.isAgg0
 z0:=Tryz.sizeOf0
 v0:=Tryz.zeroValue0
 t3:=Tryz.underlying3
 a3:=Tryz.isAgg3
 z3:=Tryz.sizeOf3
 v3:=Tryz.zeroValue3
 t4:=Tryz.underlying4
 a4:=Tryz.isAgg4
 z4:=Tryz.sizeOf4
 v4:=Tryz.zeroValue4
 t5:=Tryz.underlying5
 a5:=Tryz.isAgg5
 z5:=Tryz.sizeOf5
 v5:=Tryz.zeroValue5
 t9:=Tryz.underlying9
 a9:=Tryz.isAgg9
 z9:=Tryz.sizeOf9
 v9:=Tryz.zeroValue9
 t20:=Tryz.underlying20
 a20:=Tryz.isAgg20
 z20:=Tryz.sizeOf20
 v20:=Tryz.zeroValue20
 t21:=Tryz.underlying21
 a21:=Tryz.isAgg21
 z21:=Tryz.sizeOf21
 v21:=Tryz.zeroValue21
 t37:=Tryz.underlying237
 a37:=Tryz.isAgg237
 z37:=Tryz.sizeOf237
 v37:=Tryz.zeroValue237
 t46:=Tryz.underlying265
 a46:=Tryz.isAgg265
 z46:=Tryz.sizeOf265
 v46:=Tryz.zeroValue265
 t51:=Tryz.underlying275
 a51:=Tryz.isAgg275
 z51:=Tryz.sizeOf275
 v51:=Tryz.zeroValue275
 t70:=Tryz.underlying322
 a70:=Tryz.isAgg322
 z70:=Tryz.sizeOf322
 v70:=Tryz.zeroValue322
 t72:=Tryz.underlying324
 a72:=Tryz.isAgg324
 z72:=Tryz.sizeOf324
 v72:=Tryz.zeroValue324
 t75:=Tryz.underlying268
 a75:=Tryz.isAgg268
 z75:=Tryz.sizeOf268
 v75:=Tryz.zeroValue268
 t76:=Tryz.underlying269
 a76:=Tryz.isAgg269
 z76:=Tryz.sizeOf269
 v76:=Tryz.zeroValue269
 t105:=Tryz.underlying326
 a105:=Tryz.isAgg326
 z105:=Tryz.sizeOf326
 v105:=Tryz.zeroValue326
 t119:=Tryz.underlying331
 a119:=Tryz.isAgg331
 z119:=Tryz.sizeOf331
 t127:=Tryz.underlying317
 a127:=Tryz.isAgg317
 z127:=Tryz.sizeOf317
 v127:=Tryz.zeroValue317
 t138:=Tryz.underlying333
 a138:=Tryz.isAgg333
 z138:=Tryz.sizeOf333
 v138:=Tryz.zeroValue333
 t139:=Tryz.underlying334
 a139:=Tryz.isAgg334
 z139:=Tryz.sizeOf334
 v139:=Tryz.zeroValue334
 t146:=Tryz.underlying335
 a146:=Tryz.isAgg335
 z146:=Tryz.sizeOf335
 v146:=Tryz.zeroValue335
 t164:=Tryz.underlying328
 a164:=Tryz.isAgg328
 z164:=Tryz.sizeOf328
 v164:=Tryz.zeroValue328
 g1:=by kernel_rfl
 g3:=by kernel_rfl
 g4:=by kernel_rfl }
theorem Tryz.Builder_Extra_154:Builder.Extra Tryz.prog Tryz.lays154_ren:={
 sizeBuilder:=by kernel_rfl
 liesBuilder:=by kernel_rfl
 t5:=Tryz.underlying5
 a5:=Tryz.isAgg5
 z5:=Tryz.sizeOf5
 v5:=Tryz.zeroValue5
 infoByte:=by kernel_rfl
 cellsByte:=by kernel_rfl
 sizeByte:=by kernel_rfl
 neB5:=by decide }
open Go.RowKit Go.Lib in
theorem Tryz.strings_Replace (s old new:ByteArray) (n:Int) (m:Int) (w:World) (hs:s.size < 4294967281) (hm:w.cell? ⟨1,0,none⟩=some (.int .i64 m)) (h1:1≤old.size) (hlen:s.size+Lib.countB s old * new.size≤140737488355328) :
  Calls Tryz.prog 248 #[.string s,.string old,.string new,.int .i64 n] w fun e w' =>
   e=.returned (.string ⟨(Lib.replace s.data.toList old.data.toList new.data.toList n).toArray⟩)∧Below w.heap.size w w':=Any.strings_Replace Tryz.lays154 Tryz.Builder_Extra_154 s old new n m w hs hm h1 hlen
def Tryz.lays153_ren:Go.Shelf.Ren:=⟨fun | 153=>176 | 152=>187 | 226=>188 | 227=>189 | 228=>190 | 137=>199 | 119=>200 | 224=>201 | 225=>202 | 217=>214 | 266=>222 | n=>n,fun | 9=>9 | 3=>3 | 4=>4 | 5=>5 | 21=>21 | 117=>245 | 116=>244 | 0=>0 | 46=>265 | 124=>266 | n=>n,fun | n=>n⟩
theorem Tryz.lays153:Go.Proofs.Lays.n153 Tryz.prog Tryz.lays153_ren:={
 mixed:=by kernel_rfl
 f119:=Tryz.func200.trans (congrArg some (by kernel_rfl))
 f137:=Tryz.func199.trans (congrArg some (by kernel_rfl))
 f152:=Tryz.func187.trans (congrArg some (by kernel_rfl))
 f153:=Tryz.func176.trans (congrArg some (by kernel_rfl))
 f217:=Tryz.func214.trans (congrArg some (by kernel_rfl))
 f224:=Tryz.func201.trans (congrArg some (by kernel_rfl))
 f225:=Tryz.func202.trans (congrArg some (by kernel_rfl))
 f226:=Tryz.func188.trans (congrArg some (by kernel_rfl))
 f227:=Tryz.func189.trans (congrArg some (by kernel_rfl))
 f228:=Tryz.func190.trans (congrArg some (by kernel_rfl))
 f266:=Tryz.func222.trans (congrArg some (by kernel_rfl))
 t0:=Tryz.underlying0
 a0:=Tryz.isAgg0
 z0:=Tryz.sizeOf0
 v0:=Tryz.zeroValue0
 t3:=Tryz.underlying3
 a3:=Tryz.isAgg3
 z3:=Tryz.sizeOf3
 v3:=Tryz.zeroValue3
 t4:=Tryz.underlying4
 a4:=Tryz.isAgg4
 z4:=Tryz.sizeOf4
 v4:=Tryz.zeroValue4
 t5:=Tryz.underlying5
 a5:=Tryz.isAgg5
 z5:=Tryz.sizeOf5
 v5:=Tryz.zeroValue5
 t9:=Tryz.underlying9
 a9:=Tryz.isAgg9
 z9:=Tryz.sizeOf9
 v9:=Tryz.zeroValue9
 t21:=Tryz.underlying21
 a21:=Tryz.isAgg21
 z21:=Tryz.sizeOf21
 v21:=Tryz.zeroValue21
 t46:=Tryz.underlying265
 a46:=Tryz.isAgg265
 z46:=Tryz.sizeOf265
 v46:=Tryz.zeroValue265
 t116:=Tryz.underlying244
 a116:=Tryz.isAgg244
 z116:=Tryz.sizeOf244
 t117:=Tryz.underlying245
 a117:=Tryz.isAgg245
 z117:=Tryz.sizeOf245
 v117:=Tryz.zeroValue245
 t124:=Tryz.underlying266
 a124:=Tryz.isAgg266
 z124:=Tryz.sizeOf266
 v124:=Tryz.zeroValue266 }
end Go.Proofs
