import Derived.Test.YtghdfphedgcpdaaGreatDoorProg
import Derived.Shelf.Strings.Builder1
import Derived.Shelf.LaysM
import Derived.Shelf.LaysC
import Derived.Shelf.Strconv.Itoa3
import Derived.Shelf.Strconv.AtoiAll
import Derived.Shelf.Strings.Search1
import Derived.Shelf.Strings.Replace
import Derived.Shelf.Strings.IndexAny
import Derived.Shelf.Strings.IndexAnyAll
import Derived.Test.YtghdfphedgcpdaaGreatDoorZ00
import Derived.Test.YtghdfphedgcpdaaGreatDoorZ01
import Derived.Test.YtghdfphedgcpdaaGreatDoorZ02
import Derived.Test.YtghdfphedgcpdaaGreatDoorZ04
set_option linter.unusedVariables false
set_option linter.unusedSimpArgs false
namespace Go.Sw
open Go.Proofs.Tryz
open Go.Proofs
set_option maxRecDepth 20000
set_option maxHeartbeats 4000000
variable {Φ:Fz} {K:List Res} {w:World}
theorem y7w {Φ:Fz} {w:World} {σ:Type} {step:σ→Ex→Bool×σ} {Kf:σ→List Res} {g:Nat} {fs cs:List Value} {s0:σ} {v0:Value} {l:List Ex} (hl:SliceOf REx Φ 5 v0 l)
  (hg:∀args w,(callFunc g args).run prog w=.ok (.enter g args) w)
  (hf:∀s x c w,x∈l→REx Φ c x→Mem Φ (Kf s) w→Calls prog g (fs++[Value.agg c.toArray]++cs).toArray w (fun e w'=>e=.returned (.bool (step s x).1)∧Mem Φ (Kf (step s x).2) w'))
  (hm:Mem Φ (Kf s0) w):Calls prog 154 (List.toArray [v0,.func (.func g) fs.toArray cs.toArray]) w (fun e w'=>e=.returned (.int .i64 (yB step s0 l 0).1)∧Mem Φ (Kf (yB step s0 l 0).2) w'):=by
 obtain ⟨p0,c0,rfl,hm0,hn0⟩:=hl.fm
 refine zL func154 ntmps154 fun Q hQ a he =>?_
 refine go fun a he =>?_
 refine xD (fun mm a w=>∃(i:Nat) (s:σ),mm=l.length - i∧EnvR 19 [(0,.slice p0 l.length c0),(1,.func (.func g) (List.toArray fs) (List.toArray cs)),(7,.int .i64 ((l.length:Nat):Int)),(8,.int .i64 ((i:Nat):Int))] [] a∧Mem Φ (Kf s) w∧(yB step s0 l 0=yB step s (l.drop i) i)) (l.length - 0) ⟨0,s0,rfl,he.pk,hm,rfl⟩ ?_
 clear hm he
 rintro mm a w ⟨i,s,hmu,he,hm,hI5⟩ L4 hL4
 by_cases h7:i < l.length
 refine go fun a he =>?_
 obtain ⟨q12,rfl,x13,hx14,cs15,hl16,ha17,hr18⟩:=hl.el hn0 h7
 obtain ⟨p21,c22,p27,c28,rfl,hi31,h20,h26,hm23,hn24,hm29,hn30⟩:=REx.fm hr18
 refine z8e hg (fun hB32 w hm a he =>?_) (fun hB32 w hm a he =>?_) (c:=by exact hf s _ _ _ (List.mem_of_getElem? hx14) hr18 hm)
 refine zI ?_
 have hf_:=hI5
 rw [zA hx14] at hf_
 simp only [yB,hB32,if_true] at hf_
 rw [hf_]
 exact ⟨rfl,hm⟩
 refine go fun a he =>?_
 refine hL4 _ _ _ (by subst hmu;omega) ⟨(i+1),((step s x13).2),rfl,he.pk,hm,?_⟩
 rw [hI5,zA hx14];simp [yB,hB32]
 refine zI ?_
 have hf_:=hI5
 rw [zE h7] at hf_
 simp only [yB] at hf_
 rw [hf_]
 exact ⟨rfl,hm⟩
theorem z6p {Φ:Fz} {w:World} {σ:Type} {step:σ→Ex→Bool×σ} {Kf:σ→List Res} {g:Nat} {fs cs:List Value} {s0:σ} {v0:Value} {l:List Ex} (hl:SliceOf REx Φ 5 v0 l)
  (hg:∀args w,(callFunc g args).run prog w=.ok (.enter g args) w)
  (hf:∀s x c w,x∈l→REx Φ c x→Mem Φ (Kf s) w→Calls prog g (fs++[Value.agg c.toArray]++cs).toArray w (fun e w'=>e=.returned (.bool (step s x).1)∧Mem Φ (Kf (step s x).2) w'))
  (hm:Mem Φ (Kf s0) w):Calls prog 119 (List.toArray [v0,.func (.func g) fs.toArray cs.toArray]) w (fun e w'=>e=.returned (.bool (tE step s0 l))∧Mem Φ (Kf (yB step s0 l 0).2) w'):=by
 obtain ⟨p0,c0,rfl,hm0,hn0⟩:=hl.fm
 refine Calls.mono (R:=fun e w'=>e=.returned (.bool (decide (0≤(yB step s0 l 0).1)))∧Mem Φ (Kf (yB step s0 l 0).2) w') ?_ (fun e w' h=>by rw [xY] at h;exact h)
 refine zL func119 ntmps119 fun Q hQ a he =>?_
 refine zZ call154 (fun w hm a he =>?_) (c:=y7w (Φ:=Φ) (step:=step) (Kf:=Kf) (s0:=s0) (l:=l) hl hg hf hm)
 refine Qq (fun a he =>?_) (o:=by exact fun he hs=>sN he rfl rfl)
 refine zI ?_
 exact ⟨rfl,hm⟩
theorem q3u {p:Ex→Bool} {g:Nat} {fs cs:List Value} {v0:Value} {l:List Ex} (hl:SliceOf REx Φ 5 v0 l)
  (hg:∀args w,(callFunc g args).run prog w=.ok (.enter g args) w)
  (hf:∀x c w,x∈l→REx Φ c x→Mem Φ K w→Calls prog g (fs++[Value.agg c.toArray]++cs).toArray w (fun e w'=>e=.returned (.bool (p x))∧Mem Φ K w'))
  (hm:Mem Φ K w):Calls prog 119 (List.toArray [v0,.func (.func g) fs.toArray cs.toArray]) w (fun e w'=>e=.returned (.bool (l.any p))∧Mem Φ K w') :=
 (z6p (σ:=Unit) (step:=fun s x=>(p x,s)) (Kf:=fun _=>K) (s0:=()) hl hg (fun _ x c w hx hc hm=>hf x c w hx hc hm) hm).mono (fun e w' h=>by rw [pF] at h;exact h)
theorem y3i {Φ:Fz} {w:World} {σ:Type} {step:σ→Arm→Bool×σ} {Kf:σ→List Res} {g:Nat} {fs cs:List Value} {s0:σ} {v0:Value} {l:List Arm} (hl:SliceOf RArm Φ 7 v0 l)
  (hg:∀args w,(callFunc g args).run prog w=.ok (.enter g args) w)
  (hf:∀s x c w,x∈l→RArm Φ c x→Mem Φ (Kf s) w→Calls prog g (fs++[Value.agg c.toArray]++cs).toArray w (fun e w'=>e=.returned (.bool (step s x).1)∧Mem Φ (Kf (step s x).2) w'))
  (hm:Mem Φ (Kf s0) w):Calls prog 155 (List.toArray [v0,.func (.func g) fs.toArray cs.toArray]) w (fun e w'=>e=.returned (.int .i64 (yB step s0 l 0).1)∧Mem Φ (Kf (yB step s0 l 0).2) w'):=by
 obtain ⟨p0,c0,rfl,hm0,hn0⟩:=hl.fm
 refine zL func155 ntmps155 fun Q hQ a he =>?_
 refine go fun a he =>?_
 refine xD (fun mm a w=>∃(i:Nat) (s:σ),mm=l.length - i∧EnvR 19 [(0,.slice p0 l.length c0),(1,.func (.func g) (List.toArray fs) (List.toArray cs)),(7,.int .i64 ((l.length:Nat):Int)),(8,.int .i64 ((i:Nat):Int))] [] a∧Mem Φ (Kf s) w∧(yB step s0 l 0=yB step s (l.drop i) i)) (l.length - 0) ⟨0,s0,rfl,he.pk,hm,rfl⟩ ?_
 clear hm he
 rintro mm a w ⟨i,s,hmu,he,hm,hI5⟩ L4 hL4
 by_cases h7:i < l.length
 refine go fun a he =>?_
 obtain ⟨q12,rfl,x13,hx14,cs15,hl16,ha17,hr18⟩:=hl.el hn0 h7
 obtain ⟨s19,b25,rfl,h20,h26⟩:=RArm.iff.1 hr18
 obtain ⟨p21,c22,rfl,hm23,hn24⟩:=h20.fm
 obtain ⟨p29,c30,p35,c36,rfl,hi39,h28,h34,hm31,hn32,hm37,hn38⟩:=REx.fm h26
 refine z8e hg (fun hB40 w hm a he =>?_) (fun hB40 w hm a he =>?_) (c:=by exact hf s _ _ _ (List.mem_of_getElem? hx14) hr18 hm)
 refine zI ?_
 have hf_:=hI5
 rw [zA hx14] at hf_
 simp only [yB,hB40,if_true] at hf_
 rw [hf_]
 exact ⟨rfl,hm⟩
 refine go fun a he =>?_
 refine hL4 _ _ _ (by subst hmu;omega) ⟨(i+1),((step s x13).2),rfl,he.pk,hm,?_⟩
 rw [hI5,zA hx14];simp [yB,hB40]
 refine zI ?_
 have hf_:=hI5
 rw [zE h7] at hf_
 simp only [yB] at hf_
 rw [hf_]
 exact ⟨rfl,hm⟩
theorem z3t {Φ:Fz} {w:World} {σ:Type} {step:σ→Arm→Bool×σ} {Kf:σ→List Res} {g:Nat} {fs cs:List Value} {s0:σ} {v0:Value} {l:List Arm} (hl:SliceOf RArm Φ 7 v0 l)
  (hg:∀args w,(callFunc g args).run prog w=.ok (.enter g args) w)
  (hf:∀s x c w,x∈l→RArm Φ c x→Mem Φ (Kf s) w→Calls prog g (fs++[Value.agg c.toArray]++cs).toArray w (fun e w'=>e=.returned (.bool (step s x).1)∧Mem Φ (Kf (step s x).2) w'))
  (hm:Mem Φ (Kf s0) w):Calls prog 121 (List.toArray [v0,.func (.func g) fs.toArray cs.toArray]) w (fun e w'=>e=.returned (.bool (tE step s0 l))∧Mem Φ (Kf (yB step s0 l 0).2) w'):=by
 obtain ⟨p0,c0,rfl,hm0,hn0⟩:=hl.fm
 refine Calls.mono (R:=fun e w'=>e=.returned (.bool (decide (0≤(yB step s0 l 0).1)))∧Mem Φ (Kf (yB step s0 l 0).2) w') ?_ (fun e w' h=>by rw [xY] at h;exact h)
 refine zL func121 ntmps121 fun Q hQ a he =>?_
 refine zZ call155 (fun w hm a he =>?_) (c:=y3i (Φ:=Φ) (step:=step) (Kf:=Kf) (s0:=s0) (l:=l) hl hg hf hm)
 refine Qq (fun a he =>?_) (o:=by exact fun he hs=>sN he rfl rfl)
 refine zI ?_
 exact ⟨rfl,hm⟩
theorem y9m {p:Arm→Bool} {g:Nat} {fs cs:List Value} {v0:Value} {l:List Arm} (hl:SliceOf RArm Φ 7 v0 l)
  (hg:∀args w,(callFunc g args).run prog w=.ok (.enter g args) w)
  (hf:∀x c w,x∈l→RArm Φ c x→Mem Φ K w→Calls prog g (fs++[Value.agg c.toArray]++cs).toArray w (fun e w'=>e=.returned (.bool (p x))∧Mem Φ K w'))
  (hm:Mem Φ K w):Calls prog 121 (List.toArray [v0,.func (.func g) fs.toArray cs.toArray]) w (fun e w'=>e=.returned (.bool (l.any p))∧Mem Φ K w') :=
 (z3t (σ:=Unit) (step:=fun s x=>(p x,s)) (Kf:=fun _=>K) (s0:=()) hl hg (fun _ x c w hx hc hm=>hf x c w hx hc hm) hm).mono (fun e w' h=>by rw [pF] at h;exact h)
theorem y3k {Φ:Fz} {w:World} {σ:Type} {step:σ→Fun→Bool×σ} {Kf:σ→List Res} {g:Nat} {fs cs:List Value} {s0:σ} {v0:Value} {l:List Fun} (hl:SliceOf RFun Φ 8 v0 l)
  (hg:∀args w,(callFunc g args).run prog w=.ok (.enter g args) w)
  (hf:∀s x c w,x∈l→RFun Φ c x→Mem Φ (Kf s) w→Calls prog g (fs++[Value.agg c.toArray]++cs).toArray w (fun e w'=>e=.returned (.bool (step s x).1)∧Mem Φ (Kf (step s x).2) w'))
  (hm:Mem Φ (Kf s0) w):Calls prog 118 (List.toArray [v0,.func (.func g) fs.toArray cs.toArray]) w (fun e w'=>e=.returned (.int .i64 (yB step s0 l 0).1)∧Mem Φ (Kf (yB step s0 l 0).2) w'):=by
 obtain ⟨p0,c0,rfl,hm0,hn0⟩:=hl.fm
 refine zL func118 ntmps118 fun Q hQ a he =>?_
 refine go fun a he =>?_
 refine xD (fun mm a w=>∃(i:Nat) (s:σ),mm=l.length - i∧EnvR 19 [(0,.slice p0 l.length c0),(1,.func (.func g) (List.toArray fs) (List.toArray cs)),(7,.int .i64 ((l.length:Nat):Int)),(8,.int .i64 ((i:Nat):Int))] [] a∧Mem Φ (Kf s) w∧(yB step s0 l 0=yB step s (l.drop i) i)) (l.length - 0) ⟨0,s0,rfl,he.pk,hm,rfl⟩ ?_
 clear hm he
 rintro mm a w ⟨i,s,hmu,he,hm,hI5⟩ L4 hL4
 by_cases h7:i < l.length
 refine go fun a he =>?_
 obtain ⟨q12,rfl,x13,hx14,cs15,hl16,ha17,hr18⟩:=hl.el hn0 h7
 obtain ⟨s19,b25,rfl,h20,h26⟩:=id hr18
 obtain ⟨p21,c22,rfl,hm23,hn24⟩:=h20.fm
 obtain ⟨p29,c30,p35,c36,rfl,hi39,h28,h34,hm31,hn32,hm37,hn38⟩:=REx.fm h26
 refine z8e hg (fun hB40 w hm a he =>?_) (fun hB40 w hm a he =>?_) (c:=by exact hf s _ _ _ (List.mem_of_getElem? hx14) hr18 hm)
 refine zI ?_
 have hf_:=hI5
 rw [zA hx14] at hf_
 simp only [yB,hB40,if_true] at hf_
 rw [hf_]
 exact ⟨rfl,hm⟩
 refine go fun a he =>?_
 refine hL4 _ _ _ (by subst hmu;omega) ⟨(i+1),((step s x13).2),rfl,he.pk,hm,?_⟩
 rw [hI5,zA hx14];simp [yB,hB40]
 refine zI ?_
 have hf_:=hI5
 rw [zE h7] at hf_
 simp only [yB] at hf_
 rw [hf_]
 exact ⟨rfl,hm⟩
theorem z3v {Φ:Fz} {w:World} {σ:Type} {step:σ→Fun→Bool×σ} {Kf:σ→List Res} {g:Nat} {fs cs:List Value} {s0:σ} {v0:Value} {l:List Fun} (hl:SliceOf RFun Φ 8 v0 l)
  (hg:∀args w,(callFunc g args).run prog w=.ok (.enter g args) w)
  (hf:∀s x c w,x∈l→RFun Φ c x→Mem Φ (Kf s) w→Calls prog g (fs++[Value.agg c.toArray]++cs).toArray w (fun e w'=>e=.returned (.bool (step s x).1)∧Mem Φ (Kf (step s x).2) w'))
  (hm:Mem Φ (Kf s0) w):Calls prog 86 (List.toArray [v0,.func (.func g) fs.toArray cs.toArray]) w (fun e w'=>e=.returned (.bool (tE step s0 l))∧Mem Φ (Kf (yB step s0 l 0).2) w'):=by
 obtain ⟨p0,c0,rfl,hm0,hn0⟩:=hl.fm
 refine Calls.mono (R:=fun e w'=>e=.returned (.bool (decide (0≤(yB step s0 l 0).1)))∧Mem Φ (Kf (yB step s0 l 0).2) w') ?_ (fun e w' h=>by rw [xY] at h;exact h)
 refine zL func86 ntmps86 fun Q hQ a he =>?_
 refine zZ call118 (fun w hm a he =>?_) (c:=y3k (Φ:=Φ) (step:=step) (Kf:=Kf) (s0:=s0) (l:=l) hl hg hf hm)
 refine Qq (fun a he =>?_) (o:=by exact fun he hs=>sN he rfl rfl)
 refine zI ?_
 exact ⟨rfl,hm⟩
theorem y9o {p:Fun→Bool} {g:Nat} {fs cs:List Value} {v0:Value} {l:List Fun} (hl:SliceOf RFun Φ 8 v0 l)
  (hg:∀args w,(callFunc g args).run prog w=.ok (.enter g args) w)
  (hf:∀x c w,x∈l→RFun Φ c x→Mem Φ K w→Calls prog g (fs++[Value.agg c.toArray]++cs).toArray w (fun e w'=>e=.returned (.bool (p x))∧Mem Φ K w'))
  (hm:Mem Φ K w):Calls prog 86 (List.toArray [v0,.func (.func g) fs.toArray cs.toArray]) w (fun e w'=>e=.returned (.bool (l.any p))∧Mem Φ K w') :=
 (z3v (σ:=Unit) (step:=fun s x=>(p x,s)) (Kf:=fun _=>K) (s0:=()) hl hg (fun _ x c w hx hc hm=>hf x c w hx hc hm) hm).mono (fun e w' h=>by rw [pF] at h;exact h)
theorem y3l {Φ:Fz} {w:World} {σ:Type} {step:σ→Val→Bool×σ} {Kf:σ→List Res} {g:Nat} {fs cs:List Value} {s0:σ} {v0:Value} {l:List Val} (hl:SliceOf RVal Φ 3 v0 l)
  (hg:∀args w,(callFunc g args).run prog w=.ok (.enter g args) w)
  (hf:∀s x c w,x∈l→RVal Φ c x→Mem Φ (Kf s) w→Calls prog g (fs++[Value.agg c.toArray]++cs).toArray w (fun e w'=>e=.returned (.bool (step s x).1)∧Mem Φ (Kf (step s x).2) w'))
  (hm:Mem Φ (Kf s0) w):Calls prog 96 (List.toArray [v0,.func (.func g) fs.toArray cs.toArray]) w (fun e w'=>e=.returned (.int .i64 (yB step s0 l 0).1)∧Mem Φ (Kf (yB step s0 l 0).2) w'):=by
 obtain ⟨p0,c0,rfl,hm0,hn0⟩:=hl.fm
 refine zL func96 ntmps96 fun Q hQ a he =>?_
 refine go fun a he =>?_
 refine xD (fun mm a w=>∃(i:Nat) (s:σ),mm=l.length - i∧EnvR 19 [(0,.slice p0 l.length c0),(1,.func (.func g) (List.toArray fs) (List.toArray cs)),(7,.int .i64 ((l.length:Nat):Int)),(8,.int .i64 ((i:Nat):Int))] [] a∧Mem Φ (Kf s) w∧(yB step s0 l 0=yB step s (l.drop i) i)) (l.length - 0) ⟨0,s0,rfl,he.pk,hm,rfl⟩ ?_
 clear hm he
 rintro mm a w ⟨i,s,hmu,he,hm,hI5⟩ L4 hL4
 by_cases h7:i < l.length
 refine go fun a he =>?_
 obtain ⟨q12,rfl,x13,hx14,cs15,hl16,ha17,hr18⟩:=hl.el hn0 h7
 obtain ⟨p21,c22,rfl,hi25,h20,hm23,hn24⟩:=RVal.fm hr18
 refine z8e hg (fun hB26 w hm a he =>?_) (fun hB26 w hm a he =>?_) (c:=by exact hf s _ _ _ (List.mem_of_getElem? hx14) hr18 hm)
 refine zI ?_
 have hf_:=hI5
 rw [zA hx14] at hf_
 simp only [yB,hB26,if_true] at hf_
 rw [hf_]
 exact ⟨rfl,hm⟩
 refine go fun a he =>?_
 refine hL4 _ _ _ (by subst hmu;omega) ⟨(i+1),((step s x13).2),rfl,he.pk,hm,?_⟩
 rw [hI5,zA hx14];simp [yB,hB26]
 refine zI ?_
 have hf_:=hI5
 rw [zE h7] at hf_
 simp only [yB] at hf_
 rw [hf_]
 exact ⟨rfl,hm⟩
theorem gL {Φ:Fz} {w:World} {σ:Type} {step:σ→Val→Bool×σ} {Kf:σ→List Res} {g:Nat} {fs cs:List Value} {s0:σ} {v0:Value} {l:List Val} (hl:SliceOf RVal Φ 3 v0 l)
  (hg:∀args w,(callFunc g args).run prog w=.ok (.enter g args) w)
  (hf:∀s x c w,x∈l→RVal Φ c x→Mem Φ (Kf s) w→Calls prog g (fs++[Value.agg c.toArray]++cs).toArray w (fun e w'=>e=.returned (.bool (step s x).1)∧Mem Φ (Kf (step s x).2) w'))
  (hm:Mem Φ (Kf s0) w):Calls prog 59 (List.toArray [v0,.func (.func g) fs.toArray cs.toArray]) w (fun e w'=>e=.returned (.bool (tE step s0 l))∧Mem Φ (Kf (yB step s0 l 0).2) w'):=by
 obtain ⟨p0,c0,rfl,hm0,hn0⟩:=hl.fm
 refine Calls.mono (R:=fun e w'=>e=.returned (.bool (decide (0≤(yB step s0 l 0).1)))∧Mem Φ (Kf (yB step s0 l 0).2) w') ?_ (fun e w' h=>by rw [xY] at h;exact h)
 refine zL func59 ntmps59 fun Q hQ a he =>?_
 refine zZ call96 (fun w hm a he =>?_) (c:=y3l (Φ:=Φ) (step:=step) (Kf:=Kf) (s0:=s0) (l:=l) hl hg hf hm)
 refine Qq (fun a he =>?_) (o:=by exact fun he hs=>sN he rfl rfl)
 refine zI ?_
 exact ⟨rfl,hm⟩
theorem y9p {p:Val→Bool} {g:Nat} {fs cs:List Value} {v0:Value} {l:List Val} (hl:SliceOf RVal Φ 3 v0 l)
  (hg:∀args w,(callFunc g args).run prog w=.ok (.enter g args) w)
  (hf:∀x c w,x∈l→RVal Φ c x→Mem Φ K w→Calls prog g (fs++[Value.agg c.toArray]++cs).toArray w (fun e w'=>e=.returned (.bool (p x))∧Mem Φ K w'))
  (hm:Mem Φ K w):Calls prog 59 (List.toArray [v0,.func (.func g) fs.toArray cs.toArray]) w (fun e w'=>e=.returned (.bool (l.any p))∧Mem Φ K w') :=
 (gL (σ:=Unit) (step:=fun s x=>(p x,s)) (Kf:=fun _=>K) (s0:=()) hl hg (fun _ x c w hx hc hm=>hf x c w hx hc hm) hm).mono (fun e w' h=>by rw [pF] at h;exact h)
theorem y3j {Φ:Fz} {w:World} {σ:Type} {step:σ→Con→Bool×σ} {Kf:σ→List Res} {g:Nat} {fs cs:List Value} {s0:σ} {v0:Value} {l:List Con} (hl:SliceOf RCon Φ 2 v0 l)
  (hg:∀args w,(callFunc g args).run prog w=.ok (.enter g args) w)
  (hf:∀s x c w,x∈l→RCon Φ c x→Mem Φ (Kf s) w→Calls prog g (fs++[Value.agg c.toArray]++cs).toArray w (fun e w'=>e=.returned (.bool (step s x).1)∧Mem Φ (Kf (step s x).2) w'))
  (hm:Mem Φ (Kf s0) w):Calls prog 156 (List.toArray [v0,.func (.func g) fs.toArray cs.toArray]) w (fun e w'=>e=.returned (.int .i64 (yB step s0 l 0).1)∧Mem Φ (Kf (yB step s0 l 0).2) w'):=by
 obtain ⟨p0,c0,rfl,hm0,hn0⟩:=hl.fm
 refine zL func156 ntmps156 fun Q hQ a he =>?_
 refine go fun a he =>?_
 refine xD (fun mm a w=>∃(i:Nat) (s:σ),mm=l.length - i∧EnvR 19 [(0,.slice p0 l.length c0),(1,.func (.func g) (List.toArray fs) (List.toArray cs)),(7,.int .i64 ((l.length:Nat):Int)),(8,.int .i64 ((i:Nat):Int))] [] a∧Mem Φ (Kf s) w∧(yB step s0 l 0=yB step s (l.drop i) i)) (l.length - 0) ⟨0,s0,rfl,he.pk,hm,rfl⟩ ?_
 clear hm he
 rintro mm a w ⟨i,s,hmu,he,hm,hI5⟩ L4 hL4
 by_cases h7:i < l.length
 refine go fun a he =>?_
 obtain ⟨q12,rfl,x13,hx14,cs15,hl16,ha17,hr18⟩:=hl.el hn0 h7
 obtain ⟨s19,rfl,h20⟩:=id hr18
 obtain ⟨p21,c22,rfl,hm23,hn24⟩:=h20.fm
 refine z8e hg (fun hB25 w hm a he =>?_) (fun hB25 w hm a he =>?_) (c:=by exact hf s _ _ _ (List.mem_of_getElem? hx14) hr18 hm)
 refine zI ?_
 have hf_:=hI5
 rw [zA hx14] at hf_
 simp only [yB,hB25,if_true] at hf_
 rw [hf_]
 exact ⟨rfl,hm⟩
 refine go fun a he =>?_
 refine hL4 _ _ _ (by subst hmu;omega) ⟨(i+1),((step s x13).2),rfl,he.pk,hm,?_⟩
 rw [hI5,zA hx14];simp [yB,hB25]
 refine zI ?_
 have hf_:=hI5
 rw [zE h7] at hf_
 simp only [yB] at hf_
 rw [hf_]
 exact ⟨rfl,hm⟩
theorem z3u {Φ:Fz} {w:World} {σ:Type} {step:σ→Con→Bool×σ} {Kf:σ→List Res} {g:Nat} {fs cs:List Value} {s0:σ} {v0:Value} {l:List Con} (hl:SliceOf RCon Φ 2 v0 l)
  (hg:∀args w,(callFunc g args).run prog w=.ok (.enter g args) w)
  (hf:∀s x c w,x∈l→RCon Φ c x→Mem Φ (Kf s) w→Calls prog g (fs++[Value.agg c.toArray]++cs).toArray w (fun e w'=>e=.returned (.bool (step s x).1)∧Mem Φ (Kf (step s x).2) w'))
  (hm:Mem Φ (Kf s0) w):Calls prog 123 (List.toArray [v0,.func (.func g) fs.toArray cs.toArray]) w (fun e w'=>e=.returned (.bool (tE step s0 l))∧Mem Φ (Kf (yB step s0 l 0).2) w'):=by
 obtain ⟨p0,c0,rfl,hm0,hn0⟩:=hl.fm
 refine Calls.mono (R:=fun e w'=>e=.returned (.bool (decide (0≤(yB step s0 l 0).1)))∧Mem Φ (Kf (yB step s0 l 0).2) w') ?_ (fun e w' h=>by rw [xY] at h;exact h)
 refine zL func123 ntmps123 fun Q hQ a he =>?_
 refine zZ call156 (fun w hm a he =>?_) (c:=y3j (Φ:=Φ) (step:=step) (Kf:=Kf) (s0:=s0) (l:=l) hl hg hf hm)
 refine Qq (fun a he =>?_) (o:=by exact fun he hs=>sN he rfl rfl)
 refine zI ?_
 exact ⟨rfl,hm⟩
theorem y9n {p:Con→Bool} {g:Nat} {fs cs:List Value} {v0:Value} {l:List Con} (hl:SliceOf RCon Φ 2 v0 l)
  (hg:∀args w,(callFunc g args).run prog w=.ok (.enter g args) w)
  (hf:∀x c w,x∈l→RCon Φ c x→Mem Φ K w→Calls prog g (fs++[Value.agg c.toArray]++cs).toArray w (fun e w'=>e=.returned (.bool (p x))∧Mem Φ K w'))
  (hm:Mem Φ K w):Calls prog 123 (List.toArray [v0,.func (.func g) fs.toArray cs.toArray]) w (fun e w'=>e=.returned (.bool (l.any p))∧Mem Φ K w') :=
 (z3u (σ:=Unit) (step:=fun s x=>(p x,s)) (Kf:=fun _=>K) (s0:=()) hl hg (fun _ x c w hx hc hm=>hf x c w hx hc hm) hm).mono (fun e w' h=>by rw [pF] at h;exact h)
theorem z6q {Φ:Fz} {w:World} {σ:Type} {step:σ→Param→Bool×σ} {Kf:σ→List Res} {g:Nat} {fs cs:List Value} {s0:σ} {v0:Value} {l:List Param} (hl:SliceOf RParam Φ 2 v0 l)
  (hg:∀args w,(callFunc g args).run prog w=.ok (.enter g args) w)
  (hf:∀s x c w,x∈l→RParam Φ c x→Mem Φ (Kf s) w→Calls prog g (fs++[Value.agg c.toArray]++cs).toArray w (fun e w'=>e=.returned (.bool (step s x).1)∧Mem Φ (Kf (step s x).2) w'))
  (hm:Mem Φ (Kf s0) w):Calls prog 164 (List.toArray [v0,.func (.func g) fs.toArray cs.toArray]) w (fun e w'=>e=.returned (.int .i64 (yB step s0 l 0).1)∧Mem Φ (Kf (yB step s0 l 0).2) w'):=by
 obtain ⟨p0,c0,rfl,hm0,hn0⟩:=hl.fm
 refine zL func164 ntmps164 fun Q hQ a he =>?_
 refine go fun a he =>?_
 refine xD (fun mm a w=>∃(i:Nat) (s:σ),mm=l.length - i∧EnvR 19 [(0,.slice p0 l.length c0),(1,.func (.func g) (List.toArray fs) (List.toArray cs)),(7,.int .i64 ((l.length:Nat):Int)),(8,.int .i64 ((i:Nat):Int))] [] a∧Mem Φ (Kf s) w∧(yB step s0 l 0=yB step s (l.drop i) i)) (l.length - 0) ⟨0,s0,rfl,he.pk,hm,rfl⟩ ?_
 clear hm he
 rintro mm a w ⟨i,s,hmu,he,hm,hI5⟩ L4 hL4
 by_cases h7:i < l.length
 refine go fun a he =>?_
 obtain ⟨q12,rfl,x13,hx14,cs15,hl16,ha17,hr18⟩:=hl.el hn0 h7
 obtain rfl:=id hr18
 refine z8e hg (fun hB19 w hm a he =>?_) (fun hB19 w hm a he =>?_) (c:=by exact hf s _ _ _ (List.mem_of_getElem? hx14) hr18 hm)
 refine zI ?_
 have hf_:=hI5
 rw [zA hx14] at hf_
 simp only [yB,hB19,if_true] at hf_
 rw [hf_]
 exact ⟨rfl,hm⟩
 refine go fun a he =>?_
 refine hL4 _ _ _ (by subst hmu;omega) ⟨(i+1),((step s x13).2),rfl,he.pk,hm,?_⟩
 rw [hI5,zA hx14];simp [yB,hB19]
 refine zI ?_
 have hf_:=hI5
 rw [zE h7] at hf_
 simp only [yB] at hf_
 rw [hf_]
 exact ⟨rfl,hm⟩
theorem z0i {Φ:Fz} {w:World} {σ:Type} {step:σ→Param→Bool×σ} {Kf:σ→List Res} {g:Nat} {fs cs:List Value} {s0:σ} {v0:Value} {l:List Param} (hl:SliceOf RParam Φ 2 v0 l)
  (hg:∀args w,(callFunc g args).run prog w=.ok (.enter g args) w)
  (hf:∀s x c w,x∈l→RParam Φ c x→Mem Φ (Kf s) w→Calls prog g (fs++[Value.agg c.toArray]++cs).toArray w (fun e w'=>e=.returned (.bool (step s x).1)∧Mem Φ (Kf (step s x).2) w'))
  (hm:Mem Φ (Kf s0) w):Calls prog 129 (List.toArray [v0,.func (.func g) fs.toArray cs.toArray]) w (fun e w'=>e=.returned (.bool (tE step s0 l))∧Mem Φ (Kf (yB step s0 l 0).2) w'):=by
 obtain ⟨p0,c0,rfl,hm0,hn0⟩:=hl.fm
 refine Calls.mono (R:=fun e w'=>e=.returned (.bool (decide (0≤(yB step s0 l 0).1)))∧Mem Φ (Kf (yB step s0 l 0).2) w') ?_ (fun e w' h=>by rw [xY] at h;exact h)
 refine zL func129 ntmps129 fun Q hQ a he =>?_
 refine zZ call164 (fun w hm a he =>?_) (c:=z6q (Φ:=Φ) (step:=step) (Kf:=Kf) (s0:=s0) (l:=l) hl hg hf hm)
 refine Qq (fun a he =>?_) (o:=by exact fun he hs=>sN he rfl rfl)
 refine zI ?_
 exact ⟨rfl,hm⟩
theorem y3d {p:Param→Bool} {g:Nat} {fs cs:List Value} {v0:Value} {l:List Param} (hl:SliceOf RParam Φ 2 v0 l)
  (hg:∀args w,(callFunc g args).run prog w=.ok (.enter g args) w)
  (hf:∀x c w,x∈l→RParam Φ c x→Mem Φ K w→Calls prog g (fs++[Value.agg c.toArray]++cs).toArray w (fun e w'=>e=.returned (.bool (p x))∧Mem Φ K w'))
  (hm:Mem Φ K w):Calls prog 129 (List.toArray [v0,.func (.func g) fs.toArray cs.toArray]) w (fun e w'=>e=.returned (.bool (l.any p))∧Mem Φ K w') :=
 (z0i (σ:=Unit) (step:=fun s x=>(p x,s)) (Kf:=fun _=>K) (s0:=()) hl hg (fun _ x c w hx hc hm=>hf x c w hx hc hm) hm).mono (fun e w' h=>by rw [pF] at h;exact h)
theorem y7v {Φ:Fz} {w:World} {σ:Type} {step:σ→Bs→Bool×σ} {Kf:σ→List Res} {g:Nat} {fs cs:List Value} {s0:σ} {v0:Value} {l:List Bs} (hl:SliceOf RStr Φ 1 v0 l)
  (hg:∀args w,(callFunc g args).run prog w=.ok (.enter g args) w)
  (hf:∀s x c w,x∈l→RStr Φ c x→Mem Φ (Kf s) w→Calls prog g (fs++[Value.string x]++cs).toArray w (fun e w'=>e=.returned (.bool (step s x).1)∧Mem Φ (Kf (step s x).2) w'))
  (hm:Mem Φ (Kf s0) w):Calls prog 105 (List.toArray [v0,.func (.func g) fs.toArray cs.toArray]) w (fun e w'=>e=.returned (.int .i64 (yB step s0 l 0).1)∧Mem Φ (Kf (yB step s0 l 0).2) w'):=by
 obtain ⟨p0,c0,rfl,hm0,hn0⟩:=hl.fm
 refine zL func105 ntmps105 fun Q hQ a he =>?_
 refine go fun a he =>?_
 refine xD (fun mm a w=>∃(i:Nat) (s:σ),mm=l.length - i∧EnvR 19 [(0,.slice p0 l.length c0),(1,.func (.func g) (List.toArray fs) (List.toArray cs)),(7,.int .i64 ((l.length:Nat):Int)),(8,.int .i64 ((i:Nat):Int))] [] a∧Mem Φ (Kf s) w∧(yB step s0 l 0=yB step s (l.drop i) i)) (l.length - 0) ⟨0,s0,rfl,he.pk,hm,rfl⟩ ?_
 clear hm he
 rintro mm a w ⟨i,s,hmu,he,hm,hI5⟩ L4 hL4
 by_cases h7:i < l.length
 refine go fun a he =>?_
 obtain ⟨q12,rfl,x13,hx14,cs15,hl16,ha17,hr18⟩:=hl.el hn0 h7
 obtain rfl:cs15=[.string x13]:=hr18
 refine z8e hg (fun hB19 w hm a he =>?_) (fun hB19 w hm a he =>?_) (c:=by exact hf s _ _ _ (List.mem_of_getElem? hx14) rfl hm)
 refine zI ?_
 have hf_:=hI5
 rw [zA hx14] at hf_
 simp only [yB,hB19,if_true] at hf_
 rw [hf_]
 exact ⟨rfl,hm⟩
 refine go fun a he =>?_
 refine hL4 _ _ _ (by subst hmu;omega) ⟨(i+1),((step s x13).2),rfl,he.pk,hm,?_⟩
 rw [hI5,zA hx14];simp [yB,hB19]
 refine zI ?_
 have hf_:=hI5
 rw [zE h7] at hf_
 simp only [yB] at hf_
 rw [hf_]
 exact ⟨rfl,hm⟩
theorem z6o {Φ:Fz} {w:World} {σ:Type} {step:σ→Bs→Bool×σ} {Kf:σ→List Res} {g:Nat} {fs cs:List Value} {s0:σ} {v0:Value} {l:List Bs} (hl:SliceOf RStr Φ 1 v0 l)
  (hg:∀args w,(callFunc g args).run prog w=.ok (.enter g args) w)
  (hf:∀s x c w,x∈l→RStr Φ c x→Mem Φ (Kf s) w→Calls prog g (fs++[Value.string x]++cs).toArray w (fun e w'=>e=.returned (.bool (step s x).1)∧Mem Φ (Kf (step s x).2) w'))
  (hm:Mem Φ (Kf s0) w):Calls prog 69 (List.toArray [v0,.func (.func g) fs.toArray cs.toArray]) w (fun e w'=>e=.returned (.bool (tE step s0 l))∧Mem Φ (Kf (yB step s0 l 0).2) w'):=by
 obtain ⟨p0,c0,rfl,hm0,hn0⟩:=hl.fm
 refine Calls.mono (R:=fun e w'=>e=.returned (.bool (decide (0≤(yB step s0 l 0).1)))∧Mem Φ (Kf (yB step s0 l 0).2) w') ?_ (fun e w' h=>by rw [xY] at h;exact h)
 refine zL func69 ntmps69 fun Q hQ a he =>?_
 refine zZ call105 (fun w hm a he =>?_) (c:=y7v (Φ:=Φ) (step:=step) (Kf:=Kf) (s0:=s0) (l:=l) hl hg hf hm)
 refine Qq (fun a he =>?_) (o:=by exact fun he hs=>sN he rfl rfl)
 refine zI ?_
 exact ⟨rfl,hm⟩
theorem z0g {p:Bs→Bool} {g:Nat} {fs cs:List Value} {v0:Value} {l:List Bs} (hl:SliceOf RStr Φ 1 v0 l)
  (hg:∀args w,(callFunc g args).run prog w=.ok (.enter g args) w)
  (hf:∀x c w,x∈l→RStr Φ c x→Mem Φ K w→Calls prog g (fs++[Value.string x]++cs).toArray w (fun e w'=>e=.returned (.bool (p x))∧Mem Φ K w'))
  (hm:Mem Φ K w):Calls prog 69 (List.toArray [v0,.func (.func g) fs.toArray cs.toArray]) w (fun e w'=>e=.returned (.bool (l.any p))∧Mem Φ K w') :=
 (z6o (σ:=Unit) (step:=fun s x=>(p x,s)) (Kf:=fun _=>K) (s0:=()) hl hg (fun _ x c w hx hc hm=>hf x c w hx hc hm) hm).mono (fun e w' h=>by rw [pF] at h;exact h)
end Go.Sw

namespace Go.Sw
open Go.Proofs.Tryz
open Go.Proofs
set_option maxRecDepth 20000
set_option maxHeartbeats 4000000
variable {Φ:Fz} {K:List Res} {w:World}
theorem j5d {m:Nat} {d0:List Value} {e:Ex} {b:Nat} (rpe:REx Φ d0 e) (hmb:m < 100000) (ih:∀{Φ:Fz} {K:List Res} {w:World} {d:List Value} {e:Ex},REx Φ d e→Mem Φ K w→Calls prog 88 (List.toArray [.agg d.toArray,.int .i64 ((m:Nat):Int)]) w (fun ee w'=>ee=.returned (.bool (pJ m e))∧Mem Φ K w')) (hm:Mem Φ (.blk b (ob [.int .i64 ((m+1:Nat):Int)] 3)::K) w) :
  Calls prog 120 (List.toArray [.agg d0.toArray,.pointer (some ⟨b,0,none⟩)]) w (fun ee w'=>ee=.returned (.bool (pJ m e))∧Mem Φ (.blk b (ob [.int .i64 ((m+1:Nat):Int)] 3)::K) w'):=by
 obtain ⟨p3,c4,p9,c10,rfl,hi13,h2,h8,hm5,hn6,hm11,hn12⟩:=REx.fm rpe
 refine zL func120 ntmps120 fun Q hQ a he =>?_
 refine Bx fun b15 w hm a he =>?_
 refine Qq (fun a he =>?_) (o:=by exact fun he hs=>pY ((m:Nat):Int) he rfl rfl (by rw [yX (by omega)];omega))
 refine zZ call88 (fun w hm a he =>?_) (c:=ih rpe hm)
 refine zI ?_
 replace hm:=hm.dl [0]
 exact zV hm (by rfl)
theorem j5e {m:Nat} {d0:List Value} {e:Arm} {b:Nat} (rpe:RArm Φ d0 e) (hmb:m < 100000) (ih:∀{Φ:Fz} {K:List Res} {w:World} {d:List Value} {e:Ex},REx Φ d e→Mem Φ K w→Calls prog 88 (List.toArray [.agg d.toArray,.int .i64 ((m:Nat):Int)]) w (fun ee w'=>ee=.returned (.bool (pJ m e))∧Mem Φ K w')) (hm:Mem Φ (.blk b (ob [.int .i64 ((m+1:Nat):Int)] 3)::K) w) :
  Calls prog 122 (List.toArray [.agg d0.toArray,.pointer (some ⟨b,0,none⟩)]) w (fun ee w'=>ee=.returned (.bool (pJ m e.body))∧Mem Φ (.blk b (ob [.int .i64 ((m+1:Nat):Int)] 3)::K) w'):=by
 obtain ⟨s1,b7,rfl,h2,h8⟩:=RArm.iff.1 rpe
 obtain ⟨p3,c4,rfl,hm5,hn6⟩:=h2.fm
 obtain ⟨p11,c12,p17,c18,rfl,hi21,h10,h16,hm13,hn14,hm19,hn20⟩:=REx.fm h8
 refine zL func122 ntmps122 fun Q hQ a he =>?_
 refine Bx fun b23 w hm a he =>?_
 refine Qq (fun a he =>?_) (o:=by exact fun he hs=>pY ((m:Nat):Int) he rfl rfl (by rw [yX (by omega)];omega))
 refine zZ call88 (fun w hm a he =>?_) (c:=ih h8 hm)
 refine zI ?_
 replace hm:=hm.dl [0]
 exact zV hm (by rfl)
theorem j0s {d0:List Value} {e:Ex} (rpe:REx Φ d0 e) (hm:Mem Φ K w) :
  Calls prog 88 (List.toArray [.agg d0.toArray,.int .i64 ((0:Nat):Int)]) w (fun ee w'=>ee=.returned (.bool (pJ 0 e))∧Mem Φ K w'):=by
 obtain ⟨p3,c4,p9,c10,rfl,hi13,h2,h8,hm5,hn6,hm11,hn12⟩:=REx.fm rpe
 refine zL func88 ntmps88 fun Q hQ a he =>?_
 refine Bx fun b15 w hm a he =>?_
 refine Bx fun b16 w hm a he =>?_
 refine Qq (fun a he =>?_) (o:=by exact fun he hs=>wL true he rfl rfl rfl)
 refine zI ?_
 replace hm:=hm.dl [1,0]
 exact zV hm (by rw [q4i])
theorem j0r {d0:List Value} {e:Ex} {m:Nat} (rpe:REx Φ d0 e) (hmb:m < 100000) (ih:∀{Φ:Fz} {K:List Res} {w:World} {d:List Value} {e:Ex},REx Φ d e→Mem Φ K w→Calls prog 88 (List.toArray [.agg d.toArray,.int .i64 ((m:Nat):Int)]) w (fun ee w'=>ee=.returned (.bool (pJ m e))∧Mem Φ K w')) (hm:Mem Φ K w) :
  Calls prog 88 (List.toArray [.agg d0.toArray,.int .i64 ((m+1:Nat):Int)]) w (fun ee w'=>ee=.returned (.bool (pJ (m+1) e))∧Mem Φ K w'):=by
 obtain ⟨p3,c4,p9,c10,rfl,hi13,h2,h8,hm5,hn6,hm11,hn12⟩:=REx.fm rpe
 refine zL func88 ntmps88 fun Q hQ a he =>?_
 refine Bx fun b15 w hm a he =>?_
 refine Bx fun b16 w hm a he =>?_
 by_cases h19:m+1=0
 refine zI ?_
 replace hm:=hm.dl [1,0]
 exact zV hm (by exact absurd h19 (by omega))
 refine yK call119 (fun hB22 w hm a he =>?_) (fun hB22 w hm a he =>?_) (c:=q3u (Φ:=Φ) (K:=.blk b16 (ob [.int .i64 ((m+1:Nat):Int)] 3)::.blk b15 (ob [.int .i64 (e.kind),.int .i64 (e.num),.string e.name,.slice p3 e.args.length c4,.slice p9 e.arms.length c10] 110)::K) (p:=pJ m) (fs:=[]) (cs:=[.pointer (some ⟨b16,0,none⟩)]) h2 call120 (fun x c w hx hc hm=>j5d hc hmb ih hm) hm)
 refine zI ?_
 replace hm:=hm.dl [1,0]
 exact zV hm (by rw [z8w];simp [*])
 refine zZ call121 (fun w hm a he =>?_) (c:=y9m (Φ:=Φ) (K:=.blk b16 (ob [.int .i64 ((m+1:Nat):Int)] 3)::.blk b15 (ob [.int .i64 (e.kind),.int .i64 (e.num),.string e.name,.slice p3 e.args.length c4,.slice p9 e.arms.length c10] 110)::K) (p:=fun a=>pJ m a.body) (fs:=[]) (cs:=[.pointer (some ⟨b16,0,none⟩)]) h8 call122 (fun x c w hx hc hm=>j5e hc hmb ih hm) hm)
 refine zI ?_
 replace hm:=hm.dl [1,0]
 exact zV hm (by rw [z8w];simp [*])
end Go.Sw

namespace Go.Sw
open Go.Proofs.Tryz
open Go.Proofs
set_option maxRecDepth 20000
set_option maxHeartbeats 4000000
theorem y8c {Φ:Fz} {K:List Res} {w:World} {left:Int} {d0:List Value} {e:Ex} {b:Nat} (rpe:REx Φ d0 e) (h0:0≤left) (h1:left≤1000000) (ih:∀x:Ex,x.sz < e.sz→∀{Φ:Fz} {K:List Res} {w:World} {d:List Value} {b:Nat} {left:Int},0≤left→left≤1000000→REx Φ d x→Mem Φ (.blk b (ob [.int .i64 left] 3)::K) w→Calls prog 125 (List.toArray [.agg d.toArray,.pointer (some ⟨b,0,none⟩)]) w (fun ee w'=>ee=.returned (.bool (jC x left).1)∧Mem Φ (.blk b (ob [.int .i64 (jC x left).2] 3)::K) w')) (hm:Mem Φ (.blk b (ob [.int .i64 (left)] 3)::K) w) :
  Calls prog 125 (List.toArray [.agg d0.toArray,.pointer (some ⟨b,0,none⟩)]) w (fun ee w'=>ee=.returned (.bool ((jC e left).1))∧Mem Φ (.blk b (ob [.int .i64 ((jC e left).2)] 3)::K) w'):=by
 obtain ⟨p3,c4,p9,c10,rfl,hi13,h2,h8,hm5,hn6,hm11,hn12⟩:=REx.fm rpe
 refine zL func125 ntmps125 fun Q hQ a he =>?_
 refine Bx fun b15 w hm a he =>?_
 refine Qq (fun a he =>?_) (o:=by exact fun he hs=>pY (left - 1) he rfl rfl (by rw [yX (by omega)]))
 refine Sto 1 fun w hm a he =>?_
 by_cases h19:left - 1 < 0
 refine zI ?_
 replace hm:=hm.dl [0]
 have hr_:jC e left=(true,left - 1):=by rw [z2p,if_pos h19]
 show _∧_;rw [hr_];exact ⟨rfl,hm⟩
 refine go fun a he =>?_
 refine yF (he.ks [1,2,19,20]) hm (fun R mm a w=>∃(i:Nat) (q:Int),mm=e.args.length - i∧R Φ [(21,.int .i64 ((i:Nat):Int))] [(1,.blk b (ob [.int .i64 (q)] 3))] a w∧(0≤q∧q≤1000000∧jC e left=tP e.arms (meass (e.args.drop i) q))) (e.args.length - 0) ⟨0,left - 1,rfl,⟨he.pk,hm⟩,by refine ⟨by omega,by omega,?_⟩;rw [z2p,if_neg (by omega)];rfl⟩ ?_
 clear hm he
 rintro mm a w ⟨i,q,hmu,⟨he,hm⟩,hI24⟩ L23 hL23
 replace hm:=hm.nf
 obtain ⟨hq0,hq1,hq2⟩:=hI24
 by_cases h26:i < e.args.length
 refine go fun a he =>?_
 obtain ⟨q30,rfl,x31,hx32,cs33,hl34,ha35,hr36⟩:=h2.el hn6 h26
 obtain ⟨p39,c40,p45,c46,rfl,hi49,h38,h44,hm41,hn42,hm47,hn48⟩:=REx.fm hr36
 refine Alc fun b50 w hm a he =>?_
 refine Sto 0 fun w hm a he =>?_
 replace hm:=hm.pl 2
 refine yK call125 (fun hB52 w hm a he =>?_) (fun hB52 w hm a he =>?_) (c:=ih _ (by first | exact Ex.lt_args (List.mem_of_getElem? hx32) | exact Ex.lt_arms (List.mem_of_getElem? hx32)) (by omega) (by omega) hr36 hm)
 refine zI ?_
 replace hm:=hm.dl [2,1]
 have hr_:jC e left=(true,(jC x31 q).2):=by rw [hq2,zA hx32,oR,hB52];rfl
 show _∧_;rw [hr_];exact ⟨rfl,hm⟩
 refine go fun a he =>?_
 replace hm:=hm.ar [1] [1]
 refine hL23 _ _ _ (by subst hmu;omega) ⟨(i+1),((jC x31 q).2),rfl,⟨he.pk,hm⟩,?_⟩
 have hle:=mB x31 q hB52
 refine ⟨hle.1,by omega,?_⟩
 rw [hq2,zA hx32,oR,hB52];rfl
 refine go fun a he =>?_
 refine yF (he.ks [1,30,31]) hm (fun R mm a w=>∃(i:Nat) (q:Int),mm=e.arms.length - i∧R Φ [(32,.int .i64 ((i:Nat):Int))] [(1,.blk b (ob [.int .i64 (q)] 3))] a w∧(0≤q∧q≤1000000∧jC e left=measa (e.arms.drop i) q)) (e.arms.length - 0) ⟨0,q,rfl,⟨he.pk,hm⟩,by refine ⟨hq0,hq1,?_⟩;rw [hq2,zE h26];rfl⟩ ?_
 clear hm he
 rintro mm a w ⟨i,q,hmu,⟨he,hm⟩,hI58⟩ L57 hL57
 replace hm:=hm.nf
 clear hq0 hq1 hq2
 obtain ⟨hq0,hq1,hq2⟩:=hI58
 by_cases h60:i < e.arms.length
 refine go fun a he =>?_
 obtain ⟨q64,rfl,x65,hx66,cs67,hl68,ha69,hr70⟩:=h8.el hn12 h60
 obtain ⟨s71,b77,rfl,h72,h78⟩:=RArm.iff.1 hr70
 obtain ⟨p73,c74,rfl,hm75,hn76⟩:=h72.fm
 obtain ⟨p81,c82,p87,c88,rfl,hi91,h80,h86,hm83,hn84,hm89,hn90⟩:=REx.fm h78
 refine Alc fun b92 w hm a he =>?_
 refine Sto 0 fun w hm a he =>?_
 refine go fun a he =>?_
 by_cases h94:16 < x65.vars.length
 refine zI ?_
 replace hm:=hm.dl [1,0]
 have hr_:jC e left=(true,q):=by rw [hq2,zA hx66,dA,if_pos h94]
 show _∧_;rw [hr_];exact ⟨rfl,hm⟩
 replace hm:=hm.pl 2
 refine yK call125 (fun hB96 w hm a he =>?_) (fun hB96 w hm a he =>?_) (c:=ih _ (by first | exact Ex.lt_args (List.mem_of_getElem? hx66) | exact Ex.lt_arms (List.mem_of_getElem? hx66)) (by omega) (by omega) h78 hm)
 refine zI ?_
 replace hm:=hm.dl [2,1]
 have hr_:jC e left=(true,(jC x65.body q).2):=by rw [hq2,zA hx66,dA,if_neg h94,hB96];rfl
 show _∧_;rw [hr_];exact ⟨rfl,hm⟩
 refine go fun a he =>?_
 replace hm:=hm.ar [1] [1]
 refine hL57 _ _ _ (by subst hmu;omega) ⟨(i+1),((jC x65.body q).2),rfl,⟨he.pk,hm⟩,?_⟩
 have hle:=mB x65.body q hB96
 refine ⟨hle.1,by omega,?_⟩
 rw [hq2,zA hx66,dA,if_neg h94,hB96];rfl
 refine zI ?_
 replace hm:=hm.dl [0]
 have hr_:jC e left=(false,q):=by rw [hq2,zE h60];rfl
 show _∧_;rw [hr_];exact ⟨rfl,hm⟩
theorem q5j {Φ:Fz} {K:List Res} {w:World} {d:List Value} {e:Ex} {b:Nat} {left:Int} (h0:0≤left) (h1:left≤1000000) (re:REx Φ d e) (hm:Mem Φ (.blk b (ob [.int .i64 left] 3)::K) w) :
  Calls prog 125 (List.toArray [.agg d.toArray,.pointer (some ⟨b,0,none⟩)]) w (fun ee w'=>ee=.returned (.bool (jC e left).1)∧Mem Φ (.blk b (ob [.int .i64 (jC e left).2] 3)::K) w'):=by
 suffices H:∀n (e:Ex),e.sz < n→∀{Φ:Fz} {K:List Res} {w:World} {d:List Value} {b:Nat} {left:Int},0≤left→left≤1000000→REx Φ d e→Mem Φ (.blk b (ob [.int .i64 left] 3)::K) w→Calls prog 125 (List.toArray [.agg d.toArray,.pointer (some ⟨b,0,none⟩)]) w (fun ee w'=>ee=.returned (.bool (jC e left).1)∧Mem Φ (.blk b (ob [.int .i64 (jC e left).2] 3)::K) w') from H _ e (Nat.lt_succ_self _) h0 h1 re hm
 intro n
 induction n with
 | zero=>intro e h;omega
 | succ n ih=>intro e h Φ K w d b left h0 h1 re hm;exact y8c re h0 h1 (fun x hx _ _ _ _ _ _ g0 g1 r m=>ih x (by omega) g0 g1 r m) hm
end Go.Sw

namespace Go.Sw
open Go.Proofs.Tryz
open Go.Proofs
set_option maxRecDepth 20000
set_option maxHeartbeats 4000000
theorem deep_ok {m:Nat} (hmb:m < 100000):∀{Φ:Fz} {K:List Res} {w:World} {d:List Value} {e:Ex},REx Φ d e→Mem Φ K w→Calls prog 88 (List.toArray [.agg d.toArray,.int .i64 ((m:Nat):Int)]) w (fun ee w'=>ee=.returned (.bool (pJ m e))∧Mem Φ K w'):=by
 induction m with
 | zero=>intro Φ K w d e re hm;exact j0s re hm
 | succ m ih=>intro Φ K w d e re hm;exact j0r re (by omega) (fun r h=>ih (by omega) r h) hm
theorem j8v {Φ:Fz} {K:List Res} {w:World} {d0:List Value} {f:Fun} (rpf:RFun Φ d0 f) (hm:Mem Φ K w) :
  Calls prog 87 (List.toArray [.agg d0.toArray]) w (fun ee w'=>ee=.returned (.bool (pJ 250 f.body))∧Mem Φ K w'):=by
 obtain ⟨s1,b7,rfl,h2,h8⟩:=id rpf
 obtain ⟨p3,c4,rfl,hm5,hn6⟩:=h2.fm
 obtain ⟨p11,c12,p17,c18,rfl,hi21,h10,h16,hm13,hn14,hm19,hn20⟩:=REx.fm h8
 refine zL func87 ntmps87 fun Q hQ a he =>?_
 refine Bx fun b23 w hm a he =>?_
 refine zZ call88 (fun w hm a he =>?_) (c:=deep_ok (m:=250) (by omega) h8 hm)
 refine zI ?_
 replace hm:=hm.dl [0]
 exact zV hm (by rfl)
theorem j8t {Φ:Fz} {K:List Res} {w:World} {d0:List Value} {x:Con} (rpx:RCon Φ d0 x) (hm:Mem Φ K w) :
  Calls prog 124 (List.toArray [.agg d0.toArray]) w (fun ee w'=>ee=.returned (.bool (decide (16 < x.fields.length)))∧Mem Φ K w'):=by
 obtain ⟨s1,rfl,h2⟩:=id rpx
 obtain ⟨p3,c4,rfl,hm5,hn6⟩:=h2.fm
 refine zL func124 ntmps124 fun Q hQ a he =>?_
 refine Bx fun b8 w hm a he =>?_
 refine Qq (fun a he =>?_) (o:=by exact fun he hs=>y_gtrN (i:=x.fields.length) (j:=16) he rfl rfl)
 refine zI ?_
 replace hm:=hm.dl [0]
 exact zV hm (by exact decide_eq_decide.2 (by omega))
end Go.Sw

namespace Go.Sw
open Go.Proofs.Tryz
open Go.Proofs
set_option maxRecDepth 20000
set_option maxHeartbeats 4000000
theorem j8u {Φ:Fz} {K:List Res} {w:World} {d0:List Value} {c:Core} {vx:Value} (rpc:RCoreX Φ d0 c vx) (hm:Mem Φ K w) :
  Calls prog 89 (List.toArray [.agg d0.toArray]) w (fun ee w'=>ee=.returned (.bool (xL c))∧Mem Φ K w'):=by
 obtain ⟨s1,s2,s3,q4,cc5,rfl,rfl,h6,h7,h8⟩:=id rpc
 obtain ⟨p9,c10,rfl,hm11,hn12⟩:=h6.fm
 obtain ⟨p13,c14,rfl,hm15,hn16⟩:=h7.fm
 obtain ⟨p17,c18,rfl,hm19,hn20⟩:=h8.fm
 refine zL func89 ntmps89 fun Q hQ a he =>?_
 refine Bx fun b22 w hm a he =>?_
 by_cases h25:60 < c.datas.length
 refine zI ?_
 replace hm:=hm.dl [0]
 exact zV hm (by simp [xL,h25])
 by_cases h27:6 < c.inputs.length
 refine zI ?_
 replace hm:=hm.dl [0]
 exact zV hm (by simp [xL,h27])
 by_cases h29:300 < c.funs.length
 refine zI ?_
 replace hm:=hm.dl [0]
 exact zV hm (by simp [xL,h29])
 refine go fun a he =>?_
 by_cases h31:6 < c.outputs.length
 refine zI ?_
 replace hm:=hm.dl [0]
 exact zV hm (by simp [xL,h31])
 refine go fun a he =>?_
 refine yF (he.ks [1,31,32]) hm (fun R mm a w=>∃(i:Nat),mm=c.datas.length - i∧R Φ [(33,.int .i64 ((i:Nat):Int))] [] a w∧(xL c=((c.datas.drop i).any z5y || tO c.funs 6000))) (c.datas.length - 0) ⟨0,rfl,⟨he.pk,hm⟩,by simp [xL, *]⟩ ?_
 clear hm he
 rintro mm a w ⟨i,hmu,⟨he,hm⟩,hI36⟩ L35 hL35
 by_cases h38:i < c.datas.length
 refine go fun a he =>?_
 obtain ⟨q42,rfl,x43,hx44,cs45,hl46,ha47,hr48⟩:=h6.el hn12 h38
 obtain ⟨s49,rfl,h50⟩:=id hr48
 obtain ⟨p51,c52,rfl,hm53,hn54⟩:=h50.fm
 refine Alc fun b55 w hm a he =>?_
 refine Sto 0 fun w hm a he =>?_
 by_cases h57:16 < x43.cons.length
 refine zI ?_
 replace hm:=hm.dl [1,0]
 exact zV hm (by rw [hI36,zA hx44];simp [z5y, *])
 refine yK call123 (fun hB59 w hm a he =>?_) (fun hB59 w hm a he =>?_) (c:=y9n (Φ:=Φ) (K:=.blk b55 (ob [.string x43.name,.slice p51 x43.cons.length c52] 126)::.blk b22 (ob [.slice (some q42) c.datas.length c10,.slice p13 c.inputs.length c14,.slice p17 c.funs.length c18,.slice q4 c.outputs.length cc5] 27)::K) (p:=fun x=>decide (16 < x.fields.length)) (fs:=[]) (cs:=[]) h50 call124 (fun x c w hx hc hm=>j8t hc hm) hm)
 refine zI ?_
 replace hm:=hm.dl [1,0]
 exact zV hm (by rw [hI36,zA hx44];simp [z5y, *])
 refine go fun a he =>?_
 replace hm:=hm.dl [0]
 refine hL35 _ _ _ (by subst hmu;omega) ⟨(i+1),rfl,⟨he.pk,hm⟩,?_⟩
 rw [hI36,zA hx44];simp [z5y, *]
 refine Alc fun b63 w hm a he =>?_
 refine Sto 0 fun w hm a he =>?_
 refine go fun a he =>?_
 refine yF (he.ks [5,48,49]) hm (fun R mm a w=>∃(i:Nat) (q:Int),mm=c.funs.length - i∧R Φ [(50,.int .i64 ((i:Nat):Int))] [(0,.blk b63 (ob [.int .i64 (q)] 3))] a w∧(0≤q∧q≤1000000∧xL c=tO (c.funs.drop i) q)) (c.funs.length - 0) ⟨0,6000,rfl,⟨he.pk,hm⟩,by refine ⟨by omega,by omega,?_⟩;rw [hI36,zE h38];rfl⟩ ?_
 clear hm he
 rintro mm a w ⟨i,q,hmu,⟨he,hm⟩,hI67⟩ L66 hL66
 replace hm:=hm.nf
 obtain ⟨hq0,hq1,hq2⟩:=hI67
 by_cases h69:i < c.funs.length
 refine go fun a he =>?_
 obtain ⟨q73,rfl,x74,hx75,cs76,hl77,ha78,hr79⟩:=h8.el hn20 h69
 obtain ⟨s80,b86,rfl,h81,h87⟩:=id hr79
 obtain ⟨p82,c83,rfl,hm84,hn85⟩:=h81.fm
 obtain ⟨p90,c91,p96,c97,rfl,hi100,h89,h95,hm92,hn93,hm98,hn99⟩:=REx.fm h87
 refine Alc fun b101 w hm a he =>?_
 refine Sto 0 fun w hm a he =>?_
 refine go fun a he =>?_
 by_cases h103:16 < x74.params.length
 refine zI ?_
 replace hm:=hm.dl [2,1,0]
 exact zV hm (by rw [hq2,zA hx75];simp [tO, *])
 replace hm:=hm.pl 1
 refine yK call125 (fun hB105 w hm a he =>?_) (fun hB105 w hm a he =>?_) (c:=q5j (by omega) (by omega) h87 hm)
 refine zI ?_
 replace hm:=hm.dl [2,1,0]
 exact zV hm (by rw [hq2,zA hx75];simp [tO, *])
 refine go fun a he =>?_
 replace hm:=hm.dl [1]
 refine hL66 _ _ _ (by subst hmu;omega) ⟨(i+1),((jC x74.body q).2),rfl,⟨he.pk,hm⟩,?_⟩
 have hle:=mB x74.body q hB105
 refine ⟨hle.1,by omega,?_⟩
 rw [hq2,zA hx75];simp [tO, *]
 refine zI ?_
 replace hm:=hm.dl [1,0]
 exact zV hm (by rw [hq2,zE h69];rfl)
end Go.Sw

namespace Go.Sw
open Go.Proofs.Tryz
open Go.Proofs
set_option maxRecDepth 20000
set_option maxHeartbeats 4000000
theorem y3n {Φ:Fz} {K:List Res} {w:World} {name:Bs} {s:Bs} {b:Nat}  (hm:Mem Φ (.blk b (ob [.string name] 9)::K) w) :
  Calls prog 165 (List.toArray [.string s,.pointer (some ⟨b,0,none⟩)]) w (fun ee w'=>ee=.returned (.bool (inF name s))∧Mem Φ (.blk b (ob [.string name] 9)::K) w'):=by
 refine zL func165 ntmps165 fun Q hQ a he =>?_
 by_cases h3:s=(⟨#[73,110,116]⟩:ByteArray)
 refine zI ?_
 exact zV hm (by simp [inF,qC, *])
 refine Qq (fun a he =>?_) (o:=by exact fun he hs=>y_sneqD he rfl rfl)
 refine zI ?_
 exact zV hm (by simp [inF,qC, *])
theorem y7x {Φ:Fz} {K:List Res} {w:World} {v0:Value} {ds:List Data} {name:Bs} (rpds:SliceOf RData Φ 2 v0 ds) (hm:Mem Φ K w) :
  Calls prog 131 (List.toArray [v0,.string name]) w (fun ee w'=>ee=.returned (.bool (kU ds name))∧Mem Φ K w'):=by
 obtain ⟨p0,c0,rfl,hm0,hn0⟩:=rpds.fm
 refine zL func131 ntmps131 fun Q hQ a he =>?_
 refine Bx fun b2 w hm a he =>?_
 by_cases h5:name=(⟨#[73,110,116]⟩:ByteArray)
 refine zI ?_
 replace hm:=hm.dl [0]
 exact zV hm (by simp [kU,qC,h5])
 refine go fun a he =>?_
 refine yF (he.ks [3,13,14]) hm (fun R mm a w=>∃(i:Nat) (nn:Int) (o:Bool),mm=ds.length - i∧R Φ [(5,.int .i64 (nn)),(6,.bool o),(15,.int .i64 ((i:Nat):Int))] [] a w∧(nW name ds 0 true=nW name (ds.drop i) nn o)) (ds.length - 0) ⟨0,0,true,rfl,⟨he.pk,hm⟩,rfl⟩ ?_
 clear hm he
 rintro mm a w ⟨i,nn,o,hmu,⟨he,hm⟩,hI12⟩ L11 hL11
 by_cases h14:i < ds.length
 refine go fun a he =>?_
 obtain ⟨q18,rfl,x19,hx20,cs21,hl22,ha23,hr24⟩:=rpds.el hn0 h14
 obtain ⟨s25,rfl,h26⟩:=id hr24
 obtain ⟨p27,c28,rfl,hm29,hn30⟩:=h26.fm
 refine Alc fun b31 w hm a he =>?_
 refine Sto 0 fun w hm a he =>?_
 by_cases h34:x19.name=name
 refine Qq (fun a he =>?_) (o:=by exact fun he hs=>y6s _ he rfl rfl rfl)
 refine go fun a he =>?_
 refine yF (he.ks [3,5,13,14,15,26,27]) hm (fun R mm a w=>∃(k:Nat) (q:Bool),mm=x19.cons.length - k∧R Φ [(6,.bool q),(28,.int .i64 ((k:Nat):Int))] [] a w∧(oL name x19.cons o=oL name (x19.cons.drop k) q)) (x19.cons.length - 0) ⟨0,o,rfl,⟨he.pk,hm⟩,rfl⟩ ?_
 clear hm he
 rintro mm a w ⟨k,q,hmu,⟨he,hm⟩,hI38⟩ L37 hL37
 by_cases h40:k < x19.cons.length
 refine go fun a he =>?_
 obtain ⟨q44,rfl,x45,hx46,cs47,hl48,ha49,hr50⟩:=h26.el hn30 h40
 obtain ⟨s51,rfl,h52⟩:=id hr50
 obtain ⟨p53,c54,rfl,hm55,hn56⟩:=h52.fm
 refine Alc fun b57 w hm a he =>?_
 refine Sto 0 fun w hm a he =>?_
 refine go fun a he =>?_
 cases q
 refine go fun a he =>?_
 replace hm:=hm.dl [0]
 refine hL37 _ _ _ (by subst hmu;omega) ⟨(k+1),(false),rfl,⟨he.pk,hm⟩,?_⟩
 rw [hI38,zA hx46];simp [oL, *]
 replace hm:=hm.pl 2
 refine yK call69 (fun hB58 w hm a he =>?_) (fun hB58 w hm a he =>?_) (c:=z0g (Φ:=Φ) (K:=.blk b2 (ob [.string name] 9)::.blk b57 (ob [.string x45.name,.slice p53 x45.fields.length c54] 128)::.blk b31 (ob [.string x19.name,.slice (some q44) x19.cons.length c28] 126)::K) (p:=inF name) (fs:=[]) (cs:=[.pointer (some ⟨b2,0,none⟩)]) h52 call165 (fun x c w hx hc hm=>y3n hm) hm)
 refine go fun a he =>?_
 replace hm:=hm.ar [1] [1]
 refine hL37 _ _ _ (by subst hmu;omega) ⟨(k+1),(false),rfl,⟨he.pk,hm⟩,?_⟩
 rw [hI38,zA hx46];simp [oL, *]
 refine go fun a he =>?_
 replace hm:=hm.ar [1] [1]
 refine hL37 _ _ _ (by subst hmu;omega) ⟨(k+1),(true),rfl,⟨he.pk,hm⟩,?_⟩
 rw [hI38,zA hx46];simp [oL, *]
 refine go fun a he =>?_
 replace hm:=hm.dl [0]
 refine hL11 _ _ _ (by subst hmu;omega) ⟨(i+1),(IntKind.i64.wrap (nn+1)),(q),rfl,⟨he.pk,hm⟩,?_⟩
 rw [hI12,zA hx20];simp [zE,nW,oL, *]
 refine go fun a he =>?_
 replace hm:=hm.dl [0]
 refine hL11 _ _ _ (by subst hmu;omega) ⟨(i+1),(nn),(o),rfl,⟨he.pk,hm⟩,?_⟩
 rw [hI12,zA hx20];simp [zE,nW,oL, *]
 by_cases h62:nn=1
 refine zI ?_
 replace hm:=hm.dl [0]
 exact zV hm (by rw [zE h14] at hI12;simp [kU,qC,nW, *])
 refine zI ?_
 replace hm:=hm.dl [0]
 exact zV hm (by rw [zE h14] at hI12;simp [kU,qC,nW, *])
end Go.Sw

namespace Go.Sw
open Go.Proofs.Tryz
open Go.Proofs
set_option maxRecDepth 20000
set_option maxHeartbeats 4000000
theorem y7a {Φ:Fz} {K:List Res} {w:World} {l:List Bs} {d0:List Value} {e:Ex} {v:Value} (rpe:REx Φ d0 e) (hb:l.length+(zS e).length≤8796093000000) (ih:∀x:Ex,x.sz < e.sz→∀{Φ:Fz} {K:List Res} {w:World} {d:List Value} {v:Value} {l:List Bs},l.length+(zS x).length≤8796093000000→REx Φ d x→Mem Φ (.gs v 9 1 (strs l)::K) w→Calls prog 133 (List.toArray [.agg d.toArray,v]) w (fun ee w'=>∃v,ee=.returned v∧Mem Φ (.gs v 9 1 (strs (l++zS x))::K) w')) (hm:Mem Φ (.gs v 9 1 (strs l)::K) w) :
  Calls prog 133 (List.toArray [.agg d0.toArray,v]) w (fun ee w'=>∃v,ee=.returned v∧Mem Φ (.gs v 9 1 (strs (l++zS e))::K) w'):=by
 obtain ⟨p3,c4,p9,c10,rfl,hi13,h2,h8,hm5,hn6,hm11,hn12⟩:=REx.fm rpe
 refine zL func133 ntmps133 fun Q hQ a he =>?_
 refine Bx fun b15 w hm a he =>?_
 by_cases h18:e.kind=6
 refine qW fun v19 w hm a he =>?_
 refine qL 2 pS (fun v20 w hm a he =>?_) (hb:=by simp [yH];omega)
 first | rw [qY] at hm | rw [← qU] at hm
 refine go fun a he =>?_
 refine xD (fun mm a w=>∃(i:Nat) (u:Value) (m:List Bs),mm=e.args.length - i∧EnvR 44 [(1,u),(2,.pointer (some ⟨b15,0,none⟩)),(18,.slice p3 e.args.length c4),(19,.int .i64 ((e.args.length:Nat):Int)),(20,.int .i64 ((i:Nat):Int))] [] a∧Mem Φ (.gs (v19) 9 1 [.string e.name]::.blk b15 (ob [.int .i64 (e.kind),.int .i64 (e.num),.string e.name,.slice p3 e.args.length c4,.slice p9 e.arms.length c10] 110)::.gs (u) 9 1 (strs m)::K) w∧(l++zS e=m++bindPs (e.args.drop i)++bindPa e.arms)) (e.args.length - 0) ⟨0,v20,(l++[e.name]),rfl,he.pk,hm,by rw [mT];simp [*]⟩ ?_
 clear hm he
 rintro mm a w ⟨i,u,m,hmu,he,hm,hI24⟩ L23 hL23
 by_cases h26:i < e.args.length
 refine go fun a he =>?_
 obtain ⟨q30,rfl,x31,hx32,cs33,hl34,ha35,hr36⟩:=h2.el hn6 h26
 obtain ⟨p39,c40,p45,c46,rfl,hi49,h38,h44,hm41,hn42,hm47,hn48⟩:=REx.fm hr36
 refine Alc fun b50 w hm a he =>?_
 refine Sto 0 fun w hm a he =>?_
 refine go fun a he =>?_
 replace hm:=hm.pl 3
 refine st he rfl rfl rfl (gO he rfl call133 (ih _ (by first | exact Ex.lt_args (List.mem_of_getElem? hx32) | exact Ex.lt_arms (List.mem_of_getElem? hx32)) (l:=m) (by have hq:=congrArg List.length hI24;rw [zA hx32] at hq;simp only [bindPs,jN,List.length_append] at hq hb ⊢;omega) hr36 hm) fun v51 w hm a he =>?_)
 replace hm:=hm.nf
 refine go fun a he =>?_
 replace hm:=hm.ar [1] [2,2]
 refine hL23 _ _ _ (by subst hmu;omega) ⟨(i+1),(v51),((m++zS x31)),rfl,he.pk,hm,?_⟩
 rw [hI24,zA hx32];simp [bindPs]
 refine go fun a he =>?_
 refine xD (fun mm a w=>∃(j:Nat) (u2:Value) (m2:List Bs),mm=e.arms.length - j∧EnvR 44 [(1,u2),(29,.slice p9 e.arms.length c10),(30,.int .i64 ((e.arms.length:Nat):Int)),(31,.int .i64 ((j:Nat):Int))] [] a∧Mem Φ (.gs (v19) 9 1 [.string e.name]::.blk b15 (ob [.int .i64 (e.kind),.int .i64 (e.num),.string e.name,.slice p3 e.args.length c4,.slice p9 e.arms.length c10] 110)::.gs (u2) 9 1 (strs m2)::K) w∧(l++zS e=m2++bindPa (e.arms.drop j))) (e.arms.length - 0) ⟨0,u,m,rfl,he.pk,hm,by rw [hI24,zE h26];simp [bindPs]⟩ ?_
 clear hm he
 rintro mm a w ⟨j,u2,m2,hmu,he,hm,hI56⟩ L55 hL55
 by_cases h58:j < e.arms.length
 refine go fun a he =>?_
 obtain ⟨q62,rfl,x63,hx64,cs65,hl66,ha67,hr68⟩:=h8.el hn12 h58
 obtain ⟨s69,b75,rfl,h70,h76⟩:=RArm.iff.1 hr68
 obtain ⟨p71,c72,rfl,hm73,hn74⟩:=h70.fm
 obtain ⟨p79,c80,p85,c86,rfl,hi89,h78,h84,hm81,hn82,hm87,hn88⟩:=REx.fm h76
 refine Alc fun b90 w hm a he =>?_
 refine Sto 0 fun w hm a he =>?_
 refine Reg [1,2,1,1,2,0,0,1] [0,1,2] fun w hm a he =>?_
 refine qL 3 pS (fun v91 w hm a he =>?_) (hr:=(SliceOf.strs.1 h70).rowIn hm.toSees) (h1:=y2k _) (hb:=by have hq:=congrArg List.length hI56;rw [zA hx64,jN] at hq;simp only [List.length_append,yH] at hq hb ⊢;omega)
 first | rw [qY] at hm | rw [← qU] at hm
 replace hm:=hm.pl 3
 refine d_e he rfl rfl rfl (gO he rfl call133 (ih _ (by first | exact Ex.lt_args (List.mem_of_getElem? hx64) | exact Ex.lt_arms (List.mem_of_getElem? hx64)) (l:=(m2++x63.vars)) (by have hq:=congrArg List.length hI56;rw [zA hx64] at hq;simp only [bindPs,jN,List.length_append] at hq hb ⊢;omega) h76 hm) fun v92 w hm=>⟨fun _=>hm.sn (Fz.Le.refl _),fun a he =>?_⟩)
 replace hm:=hm.nf
 refine go fun a he =>?_
 replace hm:=hm.ar [1] [2,2]
 refine hL55 _ _ _ (by subst hmu;omega) ⟨(j+1),(v92),(((m2++x63.vars)++zS x63.body)),rfl,he.pk,hm,?_⟩
 rw [hI56,zA hx64,jN];simp
 refine zI ?_
 replace hm:=hm.dl [1,0]
 refine ⟨_,rfl,?_⟩
 rw [show (strs (l++zS e))=(strs m2) by rw [hI56,zE h58];simp [bindPa]];exact hm
 refine go fun a he =>?_
 refine xD (fun mm a w=>∃(i:Nat) (u:Value) (m:List Bs),mm=e.args.length - i∧EnvR 44 [(1,u),(2,.pointer (some ⟨b15,0,none⟩)),(18,.slice p3 e.args.length c4),(19,.int .i64 ((e.args.length:Nat):Int)),(20,.int .i64 ((i:Nat):Int))] [] a∧Mem Φ (.blk b15 (ob [.int .i64 (e.kind),.int .i64 (e.num),.string e.name,.slice p3 e.args.length c4,.slice p9 e.arms.length c10] 110)::.gs (u) 9 1 (strs m)::K) w∧(l++zS e=m++bindPs (e.args.drop i)++bindPa e.arms)) (e.args.length - 0) ⟨0,v,l,rfl,he.pk,hm,by rw [mT];simp [*]⟩ ?_
 clear hm he
 rintro mm a w ⟨i,u,m,hmu,he,hm,hI98⟩ L97 hL97
 by_cases h100:i < e.args.length
 refine go fun a he =>?_
 obtain ⟨q104,rfl,x105,hx106,cs107,hl108,ha109,hr110⟩:=h2.el hn6 h100
 obtain ⟨p113,c114,p119,c120,rfl,hi123,h112,h118,hm115,hn116,hm121,hn122⟩:=REx.fm hr110
 refine Alc fun b124 w hm a he =>?_
 refine Sto 0 fun w hm a he =>?_
 refine go fun a he =>?_
 replace hm:=hm.pl 2
 refine st he rfl rfl rfl (gO he rfl call133 (ih _ (by first | exact Ex.lt_args (List.mem_of_getElem? hx106) | exact Ex.lt_arms (List.mem_of_getElem? hx106)) (l:=m) (by have hq:=congrArg List.length hI98;rw [zA hx106] at hq;simp only [bindPs,jN,List.length_append] at hq hb ⊢;omega) hr110 hm) fun v125 w hm a he =>?_)
 replace hm:=hm.nf
 refine go fun a he =>?_
 replace hm:=hm.ar [1] [1]
 refine hL97 _ _ _ (by subst hmu;omega) ⟨(i+1),(v125),((m++zS x105)),rfl,he.pk,hm,?_⟩
 rw [hI98,zA hx106];simp [bindPs]
 refine go fun a he =>?_
 refine xD (fun mm a w=>∃(j:Nat) (u2:Value) (m2:List Bs),mm=e.arms.length - j∧EnvR 44 [(1,u2),(29,.slice p9 e.arms.length c10),(30,.int .i64 ((e.arms.length:Nat):Int)),(31,.int .i64 ((j:Nat):Int))] [] a∧Mem Φ (.blk b15 (ob [.int .i64 (e.kind),.int .i64 (e.num),.string e.name,.slice p3 e.args.length c4,.slice p9 e.arms.length c10] 110)::.gs (u2) 9 1 (strs m2)::K) w∧(l++zS e=m2++bindPa (e.arms.drop j))) (e.arms.length - 0) ⟨0,u,m,rfl,he.pk,hm,by rw [hI98,zE h100];simp [bindPs]⟩ ?_
 clear hm he
 rintro mm a w ⟨j,u2,m2,hmu,he,hm,hI130⟩ L129 hL129
 by_cases h132:j < e.arms.length
 refine go fun a he =>?_
 obtain ⟨q136,rfl,x137,hx138,cs139,hl140,ha141,hr142⟩:=h8.el hn12 h132
 obtain ⟨s143,b149,rfl,h144,h150⟩:=RArm.iff.1 hr142
 obtain ⟨p145,c146,rfl,hm147,hn148⟩:=h144.fm
 obtain ⟨p153,c154,p159,c160,rfl,hi163,h152,h158,hm155,hn156,hm161,hn162⟩:=REx.fm h150
 refine Alc fun b164 w hm a he =>?_
 refine Sto 0 fun w hm a he =>?_
 refine Reg [1,2,1,1,2,0,0,1] [0,1] fun w hm a he =>?_
 refine qL 2 pS (fun v165 w hm a he =>?_) (hr:=(SliceOf.strs.1 h144).rowIn hm.toSees) (h1:=y2k _) (hb:=by have hq:=congrArg List.length hI130;rw [zA hx138,jN] at hq;simp only [List.length_append,yH] at hq hb ⊢;omega)
 first | rw [qY] at hm | rw [← qU] at hm
 replace hm:=hm.pl 2
 refine d_e he rfl rfl rfl (gO he rfl call133 (ih _ (by first | exact Ex.lt_args (List.mem_of_getElem? hx138) | exact Ex.lt_arms (List.mem_of_getElem? hx138)) (l:=(m2++x137.vars)) (by have hq:=congrArg List.length hI130;rw [zA hx138] at hq;simp only [bindPs,jN,List.length_append] at hq hb ⊢;omega) h150 hm) fun v166 w hm=>⟨fun _=>hm.sn (Fz.Le.refl _),fun a he =>?_⟩)
 replace hm:=hm.nf
 refine go fun a he =>?_
 replace hm:=hm.ar [1] [1]
 refine hL129 _ _ _ (by subst hmu;omega) ⟨(j+1),(v166),(((m2++x137.vars)++zS x137.body)),rfl,he.pk,hm,?_⟩
 rw [hI130,zA hx138,jN];simp
 refine zI ?_
 replace hm:=hm.dl [0]
 refine ⟨_,rfl,?_⟩
 rw [show (strs (l++zS e))=(strs m2) by rw [hI130,zE h132];simp [bindPa]];exact hm
theorem q3y {Φ:Fz} {K:List Res} {w:World} {d:List Value} {e:Ex} {v:Value} {l:List Bs} (hb:l.length+(zS e).length≤8796093000000) (re:REx Φ d e) (hm:Mem Φ (.gs v 9 1 (strs l)::K) w) :
  Calls prog 133 (List.toArray [.agg d.toArray,v]) w (fun ee w'=>∃v,ee=.returned v∧Mem Φ (.gs v 9 1 (strs (l++zS e))::K) w'):=by
 suffices H:∀n (e:Ex),e.sz < n→∀{Φ:Fz} {K:List Res} {w:World} {d:List Value} {v:Value} {l:List Bs},l.length+(zS e).length≤8796093000000→REx Φ d e→Mem Φ (.gs v 9 1 (strs l)::K) w→Calls prog 133 (List.toArray [.agg d.toArray,v]) w (fun ee w'=>∃v,ee=.returned v∧Mem Φ (.gs v 9 1 (strs (l++zS e))::K) w') from H _ e (Nat.lt_succ_self _) hb re hm
 intro n
 induction n with
 | zero=>intro e h;omega
 | succ n ih=>intro e h Φ K w d v l hb re hm;exact y7a re hb (fun x hx _ _ _ _ _ _ g0 r m=>ih x (by omega) g0 r m) hm
end Go.Sw

namespace Go.Sw
open Go.Proofs.Tryz
open Go.Proofs
set_option maxRecDepth 20000
set_option maxHeartbeats 4000000
variable {Φ:Fz} {K:List Res} {w:World}
theorem y0c {c:UInt8}  (hm:Mem Φ K w) :
  Calls prog 235 (List.toArray [.int .u8 ((c.toNat:Nat):Int)]) w (fun ee w'=>ee=.returned (.bool (nS c.toNat))∧Mem Φ K w'):=by
 refine zL func235 ntmps235 fun Q hQ a he =>?_
 by_cases h3:97≤c.toNat
 refine Qq (fun a he =>?_) (o:=by exact fun he hs=>q7v (i:=c.toNat) (j:=122) he rfl rfl)
 refine zI ?_
 exact zV hm (by simp [nS, *])
 refine zI ?_
 exact zV hm (by simp [nS, *])
theorem y0b {c:UInt8}  (hm:Mem Φ K w) :
  Calls prog 237 (List.toArray [.int .u8 ((c.toNat:Nat):Int)]) w (fun ee w'=>ee=.returned (.bool (aJ c.toNat))∧Mem Φ K w'):=by
 refine zL func237 ntmps237 fun Q hQ a he =>?_
 by_cases h3:65≤c.toNat
 refine Qq (fun a he =>?_) (o:=by exact fun he hs=>q7v (i:=c.toNat) (j:=90) he rfl rfl)
 refine zI ?_
 exact zV hm (by simp [aJ, *])
 refine zI ?_
 exact zV hm (by simp [aJ, *])
theorem cS {c:UInt8}  (hm:Mem Φ K w) :
  Calls prog 233 (List.toArray [.int .u8 ((c.toNat:Nat):Int)]) w (fun ee w'=>ee=.returned (.bool (yZ c.toNat))∧Mem Φ K w'):=by
 refine zL func233 ntmps233 fun Q hQ a he =>?_
 by_cases h3:48≤c.toNat
 refine Qq (fun a he =>?_) (o:=by exact fun he hs=>q7v (i:=c.toNat) (j:=57) he rfl rfl)
 refine zI ?_
 exact zV hm (by simp [yZ, *])
 refine zI ?_
 exact zV hm (by simp [yZ, *])
theorem z4l {c:UInt8}  (hm:Mem Φ K w) :
  Calls prog 239 (List.toArray [.int .u8 ((c.toNat:Nat):Int)]) w (fun ee w'=>ee=.returned (.bool (qI c.toNat))∧Mem Φ K w'):=by
 refine zL func239 ntmps239 fun Q hQ a he =>?_
 refine yK call235 (fun hB3 w hm a he =>?_) (fun hB3 w hm a he =>?_) (c:=y0c hm)
 refine zI ?_
 exact zV hm (by simp [qI, *])
 refine yK call237 (fun hB4 w hm a he =>?_) (fun hB4 w hm a he =>?_) (c:=y0b hm)
 refine zI ?_
 exact zV hm (by simp [qI, *])
 refine yK call233 (fun hB5 w hm a he =>?_) (fun hB5 w hm a he =>?_) (c:=cS hm)
 refine zI ?_
 exact zV hm (by simp [qI, *])
 refine Qq (fun a he =>?_) (o:=by exact fun he hs=>y9c (i:=c.toNat) (j:=95) he rfl rfl)
 refine zI ?_
 exact zV hm (by simp [qI, *])
theorem q5b {c:UInt8}  (hm:Mem Φ K w) :
  Calls prog 229 (List.toArray [.int .u8 ((c.toNat:Nat):Int)]) w (fun ee w'=>ee=.returned (.bool (vI c.toNat))∧Mem Φ K w'):=by
 refine zL func229 ntmps229 fun Q hQ a he =>?_
 by_cases h3:c.toNat=32
 refine zI ?_
 exact zV hm (by simp [vI, *])
 by_cases h4:c.toNat=9
 refine zI ?_
 exact zV hm (by simp [vI, *])
 by_cases h5:c.toNat=10
 refine zI ?_
 exact zV hm (by simp [vI, *])
 refine Qq (fun a he =>?_) (o:=by exact fun he hs=>y9c (i:=c.toNat) (j:=13) he rfl rfl)
 refine zI ?_
 exact zV hm (by simp [vI, *])
theorem y3h {s:Bs} {p:Bs}  (hm:Mem Φ K w) :
  Calls prog 247 (List.toArray [.string s,.string p]) w (fun ee w'=>ee=.returned (.bool (kY s p))∧Mem Φ K w'):=by
 refine zL func247 ntmps247 fun Q hQ a he =>?_
 by_cases h3:p.size≤s.size
 refine Qq (fun a he =>?_) (o:=by exact fun he hs=>xO 0 (p.size) he rfl runUnderlying9 rfl ⟨_,rfl⟩ (by omega) (by omega))
 refine Qq (fun a he =>?_) (o:=by exact fun he hs=>z8c he rfl rfl)
 refine zI ?_
 exact zV hm (by simp [kY, *])
 refine zI ?_
 exact zV hm (by simp [kY, *])
theorem y7r {s:Bs} {p:Bs}  (hm:Mem Φ K w) :
  Calls prog 243 (List.toArray [.string s,.string p]) w (fun ee w'=>ee=.returned (.bool (kY s p))∧Mem Φ K w'):=by
 refine zL func243 ntmps243 fun Q hQ a he =>?_
 refine zZ call247 (fun w hm a he =>?_) (c:=y3h hm)
 refine zI ?_
 exact zV hm (by rfl)
theorem z2t {t:Bs} {pos:Nat} {b:Nat} {rest:List Value} {T0:TypeId} {k:Nat}  (hk:pos+k≤1000000000) (hm:Mem Φ (.blk b (ob (.string t::.int .i64 ((pos:Nat):Int)::rest) T0)::K) w) :
  Calls prog 232 (List.toArray [.pointer (some ⟨b,0,none⟩),.int .i64 (k:Int)]) w (fun ee w'=>ee=.returned (.int .u8 ((zJ t (pos+k):Nat):Int))∧Mem Φ (.blk b (ob (.string t::.int .i64 ((pos:Nat):Int)::rest) T0)::K) w'):=by
 refine zL func232 ntmps232 fun Q hQ a he =>?_
 refine Reg [1,1,1,2,1,1,1,1,1,2,1,1] [0] fun w hm a he =>?_
 refine Qq (fun a he =>?_) (o:=by exact fun he hs=>pM (i:=pos) (j:=k) he rfl rfl (by omega))
 by_cases h4:t.size≤(pos+k)
 refine zI ?_
 exact ⟨congrArg (fun x=>Ending.returned (.int .u8 ((x:Nat):Int))) (show 0=zJ t (pos+k) by rw [z5r (by omega)]),hm⟩
 refine Reg [1,1,1,2,1,1,1,2,1,1,1,1] [0] fun w hm a he =>?_
 refine Qq (fun a he =>?_) (o:=by exact fun he hs=>pM (i:=pos) (j:=k) he rfl rfl (by omega))
 have hb7:(pos+k) < t.size:=by omega
 obtain ⟨c8,hc9⟩:=wU hb7
 refine Qq (fun a he =>?_) (o:=by exact fun he hs=>kR (pos+k) c8 he rfl rfl runUnderlying9 hc9)
 refine zI ?_
 exact ⟨congrArg (fun x=>Ending.returned (.int .u8 ((x:Nat):Int))) (show c8.toNat=zJ t (pos+k) by rw [qT hc9]),hm⟩
theorem nT {t:Bs} {pos:Nat} {b:Nat} {rest:List Value} {T0:TypeId} {s:Bs}  (hk:pos≤t.size) (hm:Mem Φ (.blk b (ob (.string t::.int .i64 ((pos:Nat):Int)::rest) T0)::K) w) :
  Calls prog 230 (List.toArray [.pointer (some ⟨b,0,none⟩),.string s]) w (fun ee w'=>ee=.returned (.bool (kY (t.extract pos t.size) s))∧Mem Φ (.blk b (ob (.string t::.int .i64 ((pos:Nat):Int)::rest) T0)::K) w'):=by
 refine zL func230 ntmps230 fun Q hQ a he =>?_
 refine Reg [1,1,1,2,1,1,1,2,1,1,0,1] [0] fun w hm a he =>?_
 refine Qq (fun a he =>?_) (o:=by exact fun he hs=>xO pos (t.size) he rfl runUnderlying9 ⟨_,rfl⟩ rfl (by omega) (by exact Nat.le_refl _))
 refine zZ call243 (fun w hm a he =>?_) (c:=y7r hm)
 refine zI ?_
 exact zV hm (by rfl)
end Go.Sw

namespace Go.Sw
open Go.Proofs.Tryz
open Go.Proofs
set_option maxRecDepth 20000
set_option maxHeartbeats 4000000
theorem y8s {Φ:Fz} {K:List Res} {w:World} {t:Bs} {pos b k g:Nat} {rest fs cs:List Value} {T0:TypeId} {p:Nat→Bool} (hg:∀args w,(callFunc g args).run prog w=.ok (.enter g args) w)
  (hf:∀{w:World} (c:UInt8),Mem Φ (.blk b (ob (.string t::.int .i64 ((pos:Nat):Int)::rest) T0)::K) w→Calls prog g (fs++[Value.int .u8 ((c.toNat:Nat):Int)]++cs).toArray w (fun ee w'=>ee=.returned (.bool (p c.toNat))∧Mem Φ (.blk b (ob (.string t::.int .i64 ((pos:Nat):Int)::rest) T0)::K) w'))
  (h1:pos+k≤t.size) (h2:t.size≤1000000) (hm:Mem Φ (.blk b (ob (.string t::.int .i64 ((pos:Nat):Int)::rest) T0)::K) w) :
  Calls prog 228 (List.toArray [.pointer (some ⟨b,0,none⟩),.int .i64 ((k:Nat):Int),.func (.func g) fs.toArray cs.toArray]) w (fun ee w'=>ee=.returned (.int .i64 ((yP p t t.size (pos+k):Nat):Int))∧Mem Φ (.blk b (ob (.string t::.int .i64 ((pos:Nat):Int)::rest) T0)::K) w'):=by
 refine zL func228 ntmps228 fun Q hQ a he =>?_
 refine go fun a he =>?_
 refine yF (he.ks [0,1,2]) hm (fun R mm a w=>∃(j:Nat),mm=t.size - (pos+k+j)∧R Φ [(7,.int .i64 ((j:Nat):Int))] [] a w∧(pos+k+j≤t.size∧yP p t t.size (pos+k)=yP p t t.size (pos+k+j)+j)) (t.size - (pos+k+0)) ⟨0,rfl,⟨he.pk,hm⟩,by exact ⟨by omega,rfl⟩⟩ ?_
 clear hm he
 rintro mm a w ⟨j,hmu,⟨he,hm⟩,hI5⟩ L4 hL4
 obtain ⟨hj0,hj1⟩:=hI5
 refine Reg [1,1,1,2,1,1,1,1,1,1,1,2,1,1,1,1,1,1,1,2,1,1,1,2,1,1,1,1,1,0,1] [0] fun w hm a he =>?_
 refine Qq (fun a he =>?_) (o:=by exact fun he hs=>pM (i:=pos) (j:=k) he rfl rfl (by omega))
 refine Qq (fun a he =>?_) (o:=by exact fun he hs=>pM (i:=(pos+k)) (j:=j) he rfl rfl (by omega))
 by_cases h8:((pos+k)+j) < t.size
 refine Qq (fun a he =>?_) (o:=by exact fun he hs=>pM (i:=pos) (j:=k) he rfl rfl (by omega))
 refine Qq (fun a he =>?_) (o:=by exact fun he hs=>pM (i:=(pos+k)) (j:=j) he rfl rfl (by omega))
 obtain ⟨c9,hc10⟩:=wU h8
 refine Qq (fun a he =>?_) (o:=by exact fun he hs=>kR ((pos+k)+j) c9 he rfl rfl runUnderlying9 hc10)
 refine z8e hg (fun hB11 w hm a he =>?_) (fun hB11 w hm a he =>?_) (c:=by exact hf _ hm)
 refine go fun a he =>?_
 refine hL4 _ _ _ (by subst hmu;omega) ⟨(j+1),rfl,⟨he.pk,hm⟩,?_⟩
 refine ⟨by omega,?_⟩
 rw [hj1,oA p t (pos+k+j),if_pos ⟨by omega,by rw [qT hc10];exact hB11⟩,show pos+k+(j+1)=pos+k+j+1 from rfl];omega
 refine zI ?_
 exact q2m hm (by rw [hj1,oA,if_neg (by rintro ⟨_,h⟩;rw [qT hc10,hB11] at h;cases h)];omega)
 refine zI ?_
 exact q2m hm (by rw [hj1,oA,if_neg (by omega)];omega)
theorem y8r {Φ:Fz} {K:List Res} {w:World} {t:Bs} {pos b g:Nat} {rest fs cs:List Value} {T0:TypeId} {p:Nat→Bool} (hg:∀args w,(callFunc g args).run prog w=.ok (.enter g args) w)
  (hf:∀{w:World} (c:UInt8),Mem Φ (.blk b (ob (.string t::.int .i64 ((pos:Nat):Int)::rest) T0)::K) w→Calls prog g (fs++[Value.int .u8 ((c.toNat:Nat):Int)]++cs).toArray w (fun ee w'=>ee=.returned (.bool (p c.toNat))∧Mem Φ (.blk b (ob (.string t::.int .i64 ((pos:Nat):Int)::rest) T0)::K) w'))
  (h1:pos≤t.size) (h2:t.size≤1000000) (hm:Mem Φ (.blk b (ob (.string t::.int .i64 ((pos:Nat):Int)::rest) T0)::K) w) :
  Calls prog 228 (List.toArray [.pointer (some ⟨b,0,none⟩),.int .i64 ((0:Nat):Int),.func (.func g) fs.toArray cs.toArray]) w (fun ee w'=>ee=.returned (.int .i64 ((yP p t t.size pos:Nat):Int))∧Mem Φ (.blk b (ob (.string t::.int .i64 ((pos:Nat):Int)::rest) T0)::K) w') :=
 y8s (k:=0) hg hf (by omega) h2 hm
end Go.Sw

namespace Go.Sw
open Go.Proofs.Tryz
open Go.Proofs
set_option maxRecDepth 20000
set_option maxHeartbeats 4000000
theorem q4b {Φ:Fz} {K:List Res} {w:World} {t:Bs} {pos b:Nat} {rest:List Value} {T0:TypeId} (h1:pos≤t.size) (h2:t.size≤1000000) (hm:Mem Φ (.blk b (ob (.string t::.int .i64 ((pos:Nat):Int)::rest) T0)::K) w) :
  Calls prog 231 (List.toArray [.pointer (some ⟨b,0,none⟩)]) w (fun ee w'=>Out (vG t pos pos 0)
   (fun q=>ee=.returned (.tuple #[])∧Mem Φ (.blk b (ob (.string t::.int .i64 ((q:Nat):Int)::rest) T0)::K) w')
   (fun c=>ee=.panicked (gK c)∧Mem Φ K w')):=by
 refine zL func231 ntmps231 fun Q hQ a he =>?_
 refine go fun a he =>?_
 refine yF (he.ks [0,2]) hm (fun R mm a w=>∃(i:Nat) (o:Int),mm=t.size - i∧R Φ [(3,.int .i64 (o))] [(0,.blk b (ob (.string t::.int .i64 ((i:Nat):Int)::rest) T0))] a w∧(i≤t.size∧-(i:Int)≤o∧o≤100∧vG t pos pos 0=vG t pos i o)) (t.size - pos) ⟨pos,0,rfl,⟨he.pk,hm⟩,by exact ⟨h1,by omega,by omega,rfl⟩⟩ ?_
 clear hm he
 rintro mm a w ⟨i,o,hmu,⟨he,hm⟩,hI3⟩ L2 hL2
 replace hm:=hm.nf
 obtain ⟨hi0,hi1,hi2,hi3⟩:=hI3
 refine Reg [1,1,1,1,2,1,1,1,1,2,1,1,1] [0] fun w hm a he =>?_
 by_cases h5:t.size≤i
 refine yJ fun a he =>?_
 refine Qq (fun a he =>?_) (o:=by exact fun he hs=>qD he rfl runUnderlying257 (by intro ms h;cases h))
 refine st0 he rfl rfl (vD he rfl (vF _) (fun a hd=>hQ _ _ _ (yQ hd ?_)))
 replace hm:=hm.dl [0]
 show Out (vG t pos pos 0) _ _
 rw [hi3,mM,if_pos h5];exact ⟨rfl,hm⟩
 refine yK call230 (fun hB7 w hm a he =>?_) (fun hB7 w hm a he =>?_) (c:=nT (by omega) hm)
 by_cases h10:100≤o
 refine yJ fun a he =>?_
 refine Qq (fun a he =>?_) (o:=by exact fun he hs=>qD he rfl runUnderlying257 (by intro ms h;cases h))
 refine st0 he rfl rfl (vD he rfl (vF _) (fun a hd=>hQ _ _ _ (yQ hd ?_)))
 replace hm:=hm.dl [0]
 show Out (vG t pos pos 0) _ _
 rw [hi3,mM,if_neg h5,if_pos hB7,if_pos h10];exact ⟨rfl,hm⟩
 refine Qq (fun a he =>?_) (o:=by exact fun he hs=>y6s (o+1) he rfl rfl (by rw [yX (by omega)]))
 refine Qq (fun a he =>?_) (o:=by exact fun he hs=>pM (i:=i) (j:=2) he rfl rfl (by omega))
 refine Sto 0 fun w hm a he =>?_
 refine go fun a he =>?_
 refine hL2 (t.size - ((i+2))) _ _ (by subst hmu;first | omega | (have h:=jQ hB7;have:(⟨#[40,42]⟩:ByteArray).size=2:=rfl;have:(⟨#[42,41]⟩:ByteArray).size=2:=rfl;omega)) ⟨((i+2)),(o+1),rfl,⟨he.pk,hm⟩,?_⟩
 refine ⟨by first | omega | (have h:=jQ hB7;have:(⟨#[40,42]⟩:ByteArray).size=2:=rfl;have:(⟨#[42,41]⟩:ByteArray).size=2:=rfl;omega),by omega,by omega,?_⟩
 rw [hi3,mM,if_neg h5]
 simp [*]
 refine yK call230 (fun hB13 w hm a he =>?_) (fun hB13 w hm a he =>?_) (c:=nT (by omega) hm)
 refine Qq (fun a he =>?_) (o:=by exact fun he hs=>pY (o - 1) he rfl rfl (by rw [yX (by omega)]))
 refine Qq (fun a he =>?_) (o:=by exact fun he hs=>pM (i:=i) (j:=2) he rfl rfl (by omega))
 refine Sto 0 fun w hm a he =>?_
 by_cases h17:o - 1=0
 refine go fun a he =>?_
 refine hQ _ _ _ (ret0 he results231 ?_)
 show Out (vG t pos pos 0) _ _
 rw [hi3,mM,if_neg h5,if_neg (by simp [*]),if_pos hB13,if_pos h17];exact ⟨rfl,hm⟩
 refine go fun a he =>?_
 refine hL2 (t.size - ((i+2))) _ _ (by subst hmu;first | omega | (have h:=jQ hB13;have:(⟨#[40,42]⟩:ByteArray).size=2:=rfl;have:(⟨#[42,41]⟩:ByteArray).size=2:=rfl;omega)) ⟨((i+2)),(o - 1),rfl,⟨he.pk,hm⟩,?_⟩
 refine ⟨by first | omega | (have h:=jQ hB13;have:(⟨#[40,42]⟩:ByteArray).size=2:=rfl;have:(⟨#[42,41]⟩:ByteArray).size=2:=rfl;omega),by omega,by omega,?_⟩
 rw [hi3,mM,if_neg h5]
 simp [*]
 refine Sto 0 fun w hm a he =>?_
 refine go fun a he =>?_
 refine hL2 (t.size - ((i+1))) _ _ (by subst hmu;first | omega | (have h:=jQ hB13;have:(⟨#[40,42]⟩:ByteArray).size=2:=rfl;have:(⟨#[42,41]⟩:ByteArray).size=2:=rfl;omega)) ⟨((i+1)),(o),rfl,⟨he.pk,hm⟩,?_⟩
 refine ⟨by first | omega | (have h:=jQ hB13;have:(⟨#[40,42]⟩:ByteArray).size=2:=rfl;have:(⟨#[42,41]⟩:ByteArray).size=2:=rfl;omega),by omega,by omega,?_⟩
 rw [hi3,mM,if_neg h5]
 simp [*]
end Go.Sw

namespace Go.Sw
open Go.Proofs.Tryz
open Go.Proofs
set_option maxRecDepth 20000
set_option maxHeartbeats 4000000
theorem q9j {Φ:Fz} {K:List Res} {w:World} {t:Bs} {pos b:Nat} {mv cv:Value} {cs:List Value} (h1:pos≤t.size) (h2:t.size≤1000000) (h3:cs.length≤2 * pos) (hm:Mem Φ (.blk b (ob [.string t,.int .i64 ((pos:Nat):Int),mv,cv] 289)::.gs cv 303 2 cs::K) w) :
  Calls prog 220 (List.toArray [.pointer (some ⟨b,0,none⟩)]) w (fun ee w'=>Out (dT t pos)
   (fun q=>∃y:Value×List Value,ee=.returned (.tuple #[])∧y.2.length≤2 * q∧Mem Φ (.blk b (ob [.string t,.int .i64 ((q:Nat):Int),mv,y.1] 289)::.gs y.1 303 2 y.2::K) w')
   (fun c=>ee=.panicked (gK c)∧Mem Φ K w')):=by
 refine zL func220 ntmps220 fun Q hQ a he =>?_
 refine go fun a he =>?_
 refine yF (he.ks [0]) hm (fun R mm a w=>∃(i:Nat) (u:Value) (ds:List Value),mm=t.size - i∧R Φ [] [(0,.blk b (ob [.string t,.int .i64 ((i:Nat):Int),mv,u] 289)),(1,.gs (u) 303 2 ds)] a w∧(i≤t.size∧ds.length≤2 * i∧dT t pos=dT t i)) (t.size - pos) ⟨pos,cv,cs,rfl,⟨he.pk,hm⟩,by exact ⟨h1,h3,rfl⟩⟩ ?_
 clear hm he
 rintro mm a w ⟨i,u,ds,hmu,⟨he,hm⟩,hI2⟩ L1 hL1
 replace hm:=hm.nf
 obtain ⟨hi0,hi1,hi2⟩:=hI2
 have hrl:=kC vI t t.size i hi0
 refine Reg [1,1,1,1,2,1,1,1,0,1,1,1,1,0] [0,1] fun w hm a he =>?_
 refine zZ call228 (fun w hm a he =>?_) (c:=y8r (p:=vI) (pos:=i) (fs:=[]) (cs:=[]) call229 (fun c hm=>q5b hm) (by omega) (by omega) hm)
 refine Qq (fun a he =>?_) (o:=by exact fun he hs=>pM (i:=i) (j:=(yP vI t t.size i)) he rfl rfl (by omega))
 refine Sto 0 fun w hm a he =>?_
 refine yK call230 (fun hB6 w hm a he =>?_) (fun hB6 w hm a he =>?_) (c:=nT (by omega) hm)
 refine qZ call231 (fun q9 w hq10 hm a he =>?_) (fun q9 w hq10 hm =>?_) (c:=q4b (pos:=((i+(yP vI t t.size i)))) (by omega) (by omega) hm)
 refine Reg [1,1,1,1,2,1,1,1,1,1,2,1,0,0,1,1,0] [0] fun w hm a he =>?_
 refine yJ fun a he =>?_
 refine qW fun v11 w hm a he =>?_
 refine qL 2 rt_287 (fun v12 w hm a he =>?_)
 refine Sto 1 fun w hm a he =>?_
 refine go fun a he =>?_
 replace hm:=hm.dl [0]
 refine hL1 (t.size - q9) _ _ (by subst hmu;have hgt:=wV _ _ _ _ _ _ hq10;omega) ⟨(q9),(v12),((ds++[.int .i64 ((((i+(yP vI t t.size i))):Nat):Int),.int .i64 ((q9:Nat):Int)])),rfl,⟨he.pk,by exact hm⟩,?_⟩
 have hgt:=wV _ _ _ _ _ _ hq10
 refine ⟨hgt.2,by simp only [List.length_append,List.length_cons,List.length_nil];omega,?_⟩
 rw [hi2,y1l t i hi0,if_pos hB6,hq10]
 replace hm:=hm.dl [0]
 show Out (dT t pos) _ _
 rw [hi2,y1l t i hi0,if_pos hB6,hq10];exact ⟨rfl,hm⟩
 refine go fun a he =>?_
 refine hQ _ _ _ (ret0 he results220 ?_)
 show Out (dT t pos) _ _
 rw [hi2,y1l t i hi0,if_neg (by simp [*])];exact ⟨⟨u,ds⟩,rfl,by simp only;omega,hm⟩
end Go.Sw

namespace Go.Sw
open Go.Proofs.Tryz
open Go.Proofs
set_option maxRecDepth 20000
set_option maxHeartbeats 4000000
theorem aR {Φ:Fz} {K:List Res} {w:World} {t:Bs} {pos b:Nat} {rest:List Value} {T0:TypeId} {kd:Int} {n:Nat} (h1:pos+n≤t.size) (h2:t.size≤1000000) (hm:Mem Φ (.blk b (ob (.string t::.int .i64 ((pos:Nat):Int)::rest) T0)::K) w) :
  Calls prog 238 (List.toArray [.pointer (some ⟨b,0,none⟩),.int .i64 kd,.int .i64 ((n:Nat):Int)]) w (fun ee w'=>Out (vY t pos kd n) (fun q=>ee=.returned (y2p q)∧Mem Φ (.blk b (ob (.string t::.int .i64 ((pos:Nat):Int)::rest) T0)::K) w') (fun c=>ee=.panicked (gK c)∧Mem Φ K w')):=by
 refine zL func238 ntmps238 fun Q hQ a he =>?_
 refine Alc fun b2 w hm a he =>?_
 by_cases h5:24 < n
 refine yJ fun a he =>?_
 refine Qq (fun a he =>?_) (o:=by exact fun he hs=>qD he rfl runUnderlying257 (by intro ms h;cases h))
 refine st0 he rfl rfl (vD he rfl (vF _) (fun a hd=>hQ _ _ _ (yQ hd ?_)))
 replace hm:=hm.dl [1,0]
 show Out (vY t pos kd n) _ _
 rw [vY,if_pos h5];exact ⟨rfl,hm⟩
 refine Reg [1,1,1,1,1,2,1,1,1,1,2,1,1,1,1,2,1,1,1,1,1,1,1,2,1,0] [0,1] fun w hm a he =>?_
 refine Qq (fun a he =>?_) (o:=by exact fun he hs=>pM (i:=pos) (j:=n) he rfl rfl (by omega))
 refine Qq (fun a he =>?_) (o:=by exact fun he hs=>xO pos ((pos+n)) he rfl runUnderlying9 ⟨_,rfl⟩ ⟨_,rfl⟩ (by omega) (by omega))
 refine yJ fun a he =>?_
 refine Sto 0 fun w hm a he =>?_
 refine go fun a he =>?_
 have hmr:=hm
 replace hm:=hm.dl [0]
 refine jU (hm:=hmr) ?_
 show Out (vY t pos kd n) _ _
 rw [vY,if_neg h5];exact ⟨rfl,hm⟩
theorem q9d {Φ:Fz} {K:List Res} {w:World} {t:Bs} {pos b mb:Nat} {cv:Value} {kd:Int} (hmap:MapAt Φ mb wordsM) (h1:pos≤t.size) (h2:t.size≤1000000) (hm:Mem Φ (.blk b (ob [.string t,.int .i64 ((pos:Nat):Int),.map (some mb),cv] 289)::K) w) :
  Calls prog 236 (List.toArray [.pointer (some ⟨b,0,none⟩),.int .i64 kd]) w (fun ee w'=>Out (kO t pos kd) (fun q=>ee=.returned (y2p q)∧Mem Φ (.blk b (ob [.string t,.int .i64 ((pos:Nat):Int),.map (some mb),cv] 289)::K) w') (fun c=>ee=.panicked (gK c)∧Mem Φ K w')):=by
 refine zL func236 ntmps236 fun Q hQ a he =>?_
 refine Alc fun b2 w hm a he =>?_
 refine go fun a he =>?_
 have hr1:=kC qI t t.size pos h1
 replace hm:=hm.pl 1
 refine zZ call228 (fun w hm a he =>?_) (c:=y8r (p:=qI) (pos:=pos) (fs:=[]) (cs:=[]) call239 (fun c hm=>z4l hm) (by omega) (by omega) hm)
 refine zZ call232 (fun w hm a he =>?_) (c:=z2t (by omega) hm)
 by_cases h6:zJ t (pos+((yP qI t t.size pos)))=39
 have hb39:=uG (t:=t) (i:=pos+yP qI t t.size pos) (by omega)
 have hr2:=kC yZ t t.size (pos+(yP qI t t.size pos+1)) (by omega)
 refine zZ call228 (fun w hm a he =>?_) (c:=y8s (p:=yZ) (pos:=pos) (k:=((yP qI t t.size pos)+1)) (fs:=[]) (cs:=[]) call233 (fun c hm=>cS hm) (by omega) (by omega) hm)
 by_cases h9:0 < (yP yZ t t.size (pos+((yP qI t t.size pos)+1)))
 refine Qq (fun a he =>?_) (o:=by exact fun he hs=>pM (i:=1) (j:=(yP yZ t t.size (pos+((yP qI t t.size pos)+1)))) he rfl rfl (by omega))
 refine Qq (fun a he =>?_) (o:=by exact fun he hs=>pM (i:=(yP qI t t.size pos)) (j:=(1+(yP yZ t t.size (pos+((yP qI t t.size pos)+1))))) he rfl rfl (by omega))
 refine qZ call238 (fun q11 w hq12 hm a he =>?_) (fun q11 w hq12 hm =>?_) (c:=aR (pos:=pos) (kd:=kd) (n:=((yP qI t t.size pos)+(1+(yP yZ t t.size (pos+((yP qI t t.size pos)+1)))))) (by omega) (by omega) hm)
 refine Alc fun b13 w hm a he =>?_
 refine Sto 0 fun w hm a he =>?_
 refine Reg [1,1,1,2,1,2,2,1,1,1,1,1] [0,1,2] fun w hm a he =>?_
 refine go fun a he =>?_
 rcases hf16:yA (wordsM) q11.text with _ | vf17
 have hf16_:=congrArg (zF true (.int .i64 ((0:Nat):Int))) hf16
 refine Qq (fun a he =>?_) (o:=by exact fun he hs=>Ok.cast (yD runUnderlying286 runUnderlying9 zeroValue3 he hs rfl rfl hmap) (show zF true (.int .i64 ((0:Nat):Int)) (yA (wordsM) q11.text)=.tuple (List.toArray [.int .i64 ((0:Nat):Int),.bool false]) from hf16_))
 refine Sto 2 fun w hm a he =>?_
 refine go fun a he =>?_
 have hmr:=hm
 replace hm:=hm.dl [2,0]
 refine jU (hm:=hmr) ?_
 show Out (kO t pos kd) _ _
 first | rw [gX hq12 hf16 (by simp [qR, *])] | rw [gY hq12 hf16 (by simp [qR, *])]
 exact ⟨rfl,hm⟩
 obtain rfl:=z1j hf16
 have hf16_:=congrArg (zF true (.int .i64 ((0:Nat):Int))) hf16
 refine Qq (fun a he =>?_) (o:=by exact fun he hs=>Ok.cast (yD runUnderlying286 runUnderlying9 zeroValue3 he hs rfl rfl hmap) (show zF true (.int .i64 ((0:Nat):Int)) (yA (wordsM) q11.text)=.tuple (List.toArray [.int .i64 ((5:Nat):Int),.bool true]) from hf16_))
 refine Sto 0 fun w hm a he =>?_
 refine Sto 2 fun w hm a he =>?_
 refine go fun a he =>?_
 have hmr:=hm
 replace hm:=hm.dl [2,0]
 refine jU (hm:=hmr) ?_
 show Out (kO t pos kd) _ _
 first | rw [gX hq12 hf16 (by simp [qR, *])] | rw [gY hq12 hf16 (by simp [qR, *])]
 exact ⟨rfl,hm⟩
 replace hm:=hm.dl [0]
 show Out (kO t pos kd) _ _
 rw [y0y hq12 (by simp [qR, *])];exact ⟨rfl,hm⟩
 refine qZ call238 (fun q23 w hq24 hm a he =>?_) (fun q23 w hq24 hm =>?_) (c:=aR (pos:=pos) (kd:=kd) (n:=(yP qI t t.size pos)) (by omega) (by omega) hm)
 refine Alc fun b25 w hm a he =>?_
 refine Sto 0 fun w hm a he =>?_
 refine Reg [1,1,1,2,1,2,2,1,1,1,1,1] [0,1,2] fun w hm a he =>?_
 refine go fun a he =>?_
 rcases hf28:yA (wordsM) q23.text with _ | vf29
 have hf28_:=congrArg (zF true (.int .i64 ((0:Nat):Int))) hf28
 refine Qq (fun a he =>?_) (o:=by exact fun he hs=>Ok.cast (yD runUnderlying286 runUnderlying9 zeroValue3 he hs rfl rfl hmap) (show zF true (.int .i64 ((0:Nat):Int)) (yA (wordsM) q23.text)=.tuple (List.toArray [.int .i64 ((0:Nat):Int),.bool false]) from hf28_))
 refine Sto 2 fun w hm a he =>?_
 refine go fun a he =>?_
 have hmr:=hm
 replace hm:=hm.dl [2,0]
 refine jU (hm:=hmr) ?_
 show Out (kO t pos kd) _ _
 first | rw [gX hq24 hf28 (by simp [qR, *])] | rw [gY hq24 hf28 (by simp [qR, *])]
 exact ⟨rfl,hm⟩
 obtain rfl:=z1j hf28
 have hf28_:=congrArg (zF true (.int .i64 ((0:Nat):Int))) hf28
 refine Qq (fun a he =>?_) (o:=by exact fun he hs=>Ok.cast (yD runUnderlying286 runUnderlying9 zeroValue3 he hs rfl rfl hmap) (show zF true (.int .i64 ((0:Nat):Int)) (yA (wordsM) q23.text)=.tuple (List.toArray [.int .i64 ((5:Nat):Int),.bool true]) from hf28_))
 refine Sto 0 fun w hm a he =>?_
 refine Sto 2 fun w hm a he =>?_
 refine go fun a he =>?_
 have hmr:=hm
 replace hm:=hm.dl [2,0]
 refine jU (hm:=hmr) ?_
 show Out (kO t pos kd) _ _
 first | rw [gX hq24 hf28 (by simp [qR, *])] | rw [gY hq24 hf28 (by simp [qR, *])]
 exact ⟨rfl,hm⟩
 replace hm:=hm.dl [0]
 show Out (kO t pos kd) _ _
 rw [y0y hq24 (by simp [qR, *])];exact ⟨rfl,hm⟩
 refine qZ call238 (fun q35 w hq36 hm a he =>?_) (fun q35 w hq36 hm =>?_) (c:=aR (pos:=pos) (kd:=kd) (n:=(yP qI t t.size pos)) (by omega) (by omega) hm)
 refine Alc fun b37 w hm a he =>?_
 refine Sto 0 fun w hm a he =>?_
 refine Reg [1,1,1,2,1,2,2,1,1,1,1,1] [0,1,2] fun w hm a he =>?_
 refine go fun a he =>?_
 rcases hf40:yA (wordsM) q35.text with _ | vf41
 have hf40_:=congrArg (zF true (.int .i64 ((0:Nat):Int))) hf40
 refine Qq (fun a he =>?_) (o:=by exact fun he hs=>Ok.cast (yD runUnderlying286 runUnderlying9 zeroValue3 he hs rfl rfl hmap) (show zF true (.int .i64 ((0:Nat):Int)) (yA (wordsM) q35.text)=.tuple (List.toArray [.int .i64 ((0:Nat):Int),.bool false]) from hf40_))
 refine Sto 2 fun w hm a he =>?_
 refine go fun a he =>?_
 have hmr:=hm
 replace hm:=hm.dl [2,0]
 refine jU (hm:=hmr) ?_
 show Out (kO t pos kd) _ _
 first | rw [gX hq36 hf40 (by simp [qR, *])] | rw [gY hq36 hf40 (by simp [qR, *])]
 exact ⟨rfl,hm⟩
 obtain rfl:=z1j hf40
 have hf40_:=congrArg (zF true (.int .i64 ((0:Nat):Int))) hf40
 refine Qq (fun a he =>?_) (o:=by exact fun he hs=>Ok.cast (yD runUnderlying286 runUnderlying9 zeroValue3 he hs rfl rfl hmap) (show zF true (.int .i64 ((0:Nat):Int)) (yA (wordsM) q35.text)=.tuple (List.toArray [.int .i64 ((5:Nat):Int),.bool true]) from hf40_))
 refine Sto 0 fun w hm a he =>?_
 refine Sto 2 fun w hm a he =>?_
 refine go fun a he =>?_
 have hmr:=hm
 replace hm:=hm.dl [2,0]
 refine jU (hm:=hmr) ?_
 show Out (kO t pos kd) _ _
 first | rw [gX hq36 hf40 (by simp [qR, *])] | rw [gY hq36 hf40 (by simp [qR, *])]
 exact ⟨rfl,hm⟩
 replace hm:=hm.dl [0]
 show Out (kO t pos kd) _ _
 rw [y0y hq36 (by simp [qR, *])];exact ⟨rfl,hm⟩
end Go.Sw

namespace Go.Proofs
open Go.Shelf
def Tryz.lays137_ren:Go.Shelf.Ren:=⟨fun | 137=>199 | 217=>214 | 266=>222 | n=>n,fun | 9=>9 | 5=>5 | 3=>3 | n=>n,fun | n=>n⟩
theorem Tryz.lays137:Go.Proofs.Lays.n137 Tryz.prog Tryz.lays137_ren:={
 mixed:=by kernel_rfl
 f137:=Tryz.func199.trans (congrArg some (by kernel_rfl))
 f217:=Tryz.func214.trans (congrArg some (by kernel_rfl))
 f266:=Tryz.func222.trans (congrArg some (by kernel_rfl))
 t3:=Tryz.underlying3
 a3:=Tryz.isAgg3
 z3:=Tryz.sizeOf3
 v3:=Tryz.zeroValue3
 t5:=Tryz.underlying5
 a5:=Tryz.isAgg5
 z5:=Tryz.sizeOf5
 v5:=Tryz.zeroValue5
 t9:=Tryz.underlying9
 a9:=Tryz.isAgg9
 z9:=Tryz.sizeOf9
 v9:=Tryz.zeroValue9 }
open Go.RowKit in
theorem Tryz.strings_IndexByte (s:ByteArray) (c:Int) (w:World) :
  Calls Tryz.prog 199 #[.string s,.int .u8 c] w fun e w'=>e=.returned (.int .i64 (Lib.indexByte s.data.toList c.toNat.toUInt8))∧w'=w:=Any.strings_IndexByte Tryz.lays137 s c w
def Tryz.laysM171_ren:Go.Shelf.Ren:=⟨fun | 171=>99 | 243=>144 | 246=>182 | 283=>194 | 284=>195 | 285=>196 | 286=>197 | 129=>207 | 317=>206 | 318=>208 | 319=>209 | 320=>210 | 337=>217 | 338=>218 | n=>n,fun | 3=>3 | 9=>9 | 2=>2 | 4=>4 | 171=>249 | 0=>0 | 53=>219 | 37=>237 | 5=>5 | 173=>252 | 212=>274 | 51=>275 | 20=>20 | 213=>276 | 46=>265 | 232=>299 | 233=>300 | n=>n,fun | 17=>0 | 18=>2 | 19=>3 | n=>n⟩
theorem Tryz.laysM171:Go.Proofs.LaysM.n171 Tryz.prog Tryz.laysM171_ren:={
 mixed:=by kernel_rfl
 f129:=Tryz.func207.trans (congrArg some (by kernel_rfl))
 f171:=Tryz.func99.trans (congrArg some (by kernel_rfl))
 f243:=Tryz.func144.trans (congrArg some (by kernel_rfl))
 f246:=Tryz.func182.trans (congrArg some (by kernel_rfl))
 f283:=Tryz.func194.trans (congrArg some (by kernel_rfl))
 f284:=Tryz.func195.trans (congrArg some (by kernel_rfl))
 f285:=Tryz.func196.trans (congrArg some (by kernel_rfl))
 f286:=Tryz.func197.trans (congrArg some (by kernel_rfl))
 f317:=Tryz.func206.trans (congrArg some (by kernel_rfl))
 f318:=Tryz.func208.trans (congrArg some (by kernel_rfl))
 f319:=Tryz.func209.trans (congrArg some (by kernel_rfl))
 f320:=Tryz.func210.trans (congrArg some (by kernel_rfl))
 f337:=Tryz.func217.trans (congrArg some (by kernel_rfl))
 f338:=Tryz.func218.trans (congrArg some (by kernel_rfl))
 t0:=Tryz.underlying0
 a0:=Tryz.isAgg0
 z0:=Tryz.sizeOf0
 v0:=Tryz.zeroValue0
 t2:=Tryz.underlying2
 a2:=Tryz.isAgg2
 z2:=Tryz.sizeOf2
 v2:=Tryz.zeroValue2
 t3:=Tryz.underlying3
 a3:=Tryz.isAgg3
 z3:=Tryz.sizeOf3
 v3:=Tryz.zeroValue3
 t4:=Tryz.underlying4
 a4:=Tryz.isAgg4
 z4:=Tryz.sizeOf4
 v4:=Tryz.zeroValue4
 t5:=Tryz.underlying5
 a5:=Tryz.isAgg5
 z5:=Tryz.sizeOf5
 v5:=Tryz.zeroValue5
 t9:=Tryz.underlying9
 a9:=Tryz.isAgg9
 z9:=Tryz.sizeOf9
 v9:=Tryz.zeroValue9
 t20:=Tryz.underlying20
 a20:=Tryz.isAgg20
 z20:=Tryz.sizeOf20
 v20:=Tryz.zeroValue20
 t37:=Tryz.underlying237
 a37:=Tryz.isAgg237
 z37:=Tryz.sizeOf237
 v37:=Tryz.zeroValue237
 t46:=Tryz.underlying265
 a46:=Tryz.isAgg265
 z46:=Tryz.sizeOf265
 v46:=Tryz.zeroValue265
 t51:=Tryz.underlying275
 a51:=Tryz.isAgg275
 z51:=Tryz.sizeOf275
 v51:=Tryz.zeroValue275
 t53:=Tryz.underlying219
 a53:=Tryz.isAgg219
 z53:=Tryz.sizeOf219
 v53:=Tryz.zeroValue219
 t171:=Tryz.underlying249
 a171:=Tryz.isAgg249
 z171:=Tryz.sizeOf249
 v171:=Tryz.zeroValue249
 t173:=Tryz.underlying252
 a173:=Tryz.isAgg252
 z173:=Tryz.sizeOf252
 v173:=Tryz.zeroValue252
 t212:=Tryz.underlying274
 a212:=Tryz.isAgg274
 z212:=Tryz.sizeOf274
 v212:=Tryz.zeroValue274
 t213:=Tryz.underlying276
 a213:=Tryz.isAgg276
 z213:=Tryz.sizeOf276
 t232:=Tryz.underlying299
 a232:=Tryz.isAgg299
 z232:=Tryz.sizeOf299
 v232:=Tryz.zeroValue299
 t233:=Tryz.underlying300
 a233:=Tryz.isAgg300
 z233:=Tryz.sizeOf300
 v233:=Tryz.zeroValue300
 g17:=by kernel_rfl
 g18:=by kernel_rfl
 g19:=by kernel_rfl
 i0:=by kernel_rfl
 i2:=by kernel_rfl
 i3:=by kernel_rfl
 i4:=by kernel_rfl
 i5:=by kernel_rfl
 i9:=by kernel_rfl
 i20:=by kernel_rfl
 i37:=by kernel_rfl
 i46:=by kernel_rfl
 i51:=by kernel_rfl
 i53:=by kernel_rfl
 i171:=by kernel_rfl
 i173:=by kernel_rfl
 i212:=by kernel_rfl
 i232:=by kernel_rfl
 i233:=by kernel_rfl
 m17:=by kernel_rfl
 m18:=by kernel_rfl
 m19:=by kernel_rfl }
open Go.RowKit Go.Sort Go.Lib in
theorem Tryz.strconv_Itoa (n:Int) (h0:-9223372036854775808≤n) (h1:n≤9223372036854775807) (w:World) (htab:Lib.TabIs Tryz.prog w "internal/strconv.uint64pow10" .u64 Lib.pow10Tab) :
  Calls Tryz.prog 99 #[.int .i64 n] w fun e w'=>e=.returned (.string ⟨(Lib.itoa n).toArray⟩)∧∃k os,w'=grow (w.drewN k) os:=Any.strconv_Itoa Tryz.laysM171 n h0 h1 w htab
def Tryz.laysC172_ren:Go.Shelf.Ren:=⟨fun | 172=>203 | 244=>215 | 245=>216 | 247=>223 | 279=>224 | 280=>225 | 281=>226 | 282=>227 | 287=>240 | 316=>241 | 171=>99 | 205=>242 | 321=>245 | 322=>246 | 243=>144 | 246=>182 | 283=>194 | 284=>195 | 285=>196 | 286=>197 | 129=>207 | 317=>206 | 318=>208 | 319=>209 | 320=>210 | 337=>217 | 338=>218 | n=>n,fun | 9=>9 | 3=>3 | 75=>268 | 76=>269 | 4=>4 | 5=>5 | 167=>293 | 37=>237 | 0=>0 | 85=>294 | 2=>2 | 168=>296 | 53=>219 | 175=>307 | 46=>265 | 210=>310 | 127=>317 | 145=>320 | 143=>318 | 21=>21 | 171=>249 | 173=>252 | 212=>274 | 51=>275 | 20=>20 | 213=>276 | 232=>299 | 233=>300 | 80=>79 | n=>n,fun | 15=>4 | 16=>5 | 17=>0 | 18=>2 | 19=>3 | n=>n⟩
theorem Tryz.laysC172:Go.Proofs.LaysC.n172 Tryz.prog Tryz.laysC172_ren:={
 mixed:=by kernel_rfl
 f129:=Tryz.func207.trans (congrArg some (by kernel_rfl))
 f171:=Tryz.func99.trans (congrArg some (by kernel_rfl))
 f172:=Tryz.func203.trans (congrArg some (by kernel_rfl))
 f205:=Tryz.func242.trans (congrArg some (by kernel_rfl))
 f243:=Tryz.func144.trans (congrArg some (by kernel_rfl))
 f244:=Tryz.func215.trans (congrArg some (by kernel_rfl))
 f245:=Tryz.func216.trans (congrArg some (by kernel_rfl))
 f246:=Tryz.func182.trans (congrArg some (by kernel_rfl))
 f247:=Tryz.func223.trans (congrArg some (by kernel_rfl))
 f279:=Tryz.func224.trans (congrArg some (by kernel_rfl))
 f280:=Tryz.func225.trans (congrArg some (by kernel_rfl))
 f281:=Tryz.func226.trans (congrArg some (by kernel_rfl))
 f282:=Tryz.func227.trans (congrArg some (by kernel_rfl))
 f283:=Tryz.func194.trans (congrArg some (by kernel_rfl))
 f284:=Tryz.func195.trans (congrArg some (by kernel_rfl))
 f285:=Tryz.func196.trans (congrArg some (by kernel_rfl))
 f286:=Tryz.func197.trans (congrArg some (by kernel_rfl))
 f287:=Tryz.func240.trans (congrArg some (by kernel_rfl))
 f316:=Tryz.func241.trans (congrArg some (by kernel_rfl))
 f317:=Tryz.func206.trans (congrArg some (by kernel_rfl))
 f318:=Tryz.func208.trans (congrArg some (by kernel_rfl))
 f319:=Tryz.func209.trans (congrArg some (by kernel_rfl))
 f320:=Tryz.func210.trans (congrArg some (by kernel_rfl))
 f321:=Tryz.func245.trans (congrArg some (by kernel_rfl))
 f322:=Tryz.func246.trans (congrArg some (by kernel_rfl))
 f337:=Tryz.func217.trans (congrArg some (by kernel_rfl))
 f338:=Tryz.func218.trans (congrArg some (by kernel_rfl))
 t0:=Tryz.underlying0
 a0:=Tryz.isAgg0
 z0:=Tryz.sizeOf0
 v0:=Tryz.zeroValue0
 t2:=Tryz.underlying2
 a2:=Tryz.isAgg2
 z2:=Tryz.sizeOf2
 v2:=Tryz.zeroValue2
 t3:=Tryz.underlying3
 a3:=Tryz.isAgg3
 z3:=Tryz.sizeOf3
 v3:=Tryz.zeroValue3
 t4:=Tryz.underlying4
 a4:=Tryz.isAgg4
 z4:=Tryz.sizeOf4
 v4:=Tryz.zeroValue4
 t5:=Tryz.underlying5
 a5:=Tryz.isAgg5
 z5:=Tryz.sizeOf5
 v5:=Tryz.zeroValue5
 t9:=Tryz.underlying9
 a9:=Tryz.isAgg9
 z9:=Tryz.sizeOf9
 v9:=Tryz.zeroValue9
 t20:=Tryz.underlying20
 a20:=Tryz.isAgg20
 z20:=Tryz.sizeOf20
 v20:=Tryz.zeroValue20
 t21:=Tryz.underlying21
 a21:=Tryz.isAgg21
 z21:=Tryz.sizeOf21
 v21:=Tryz.zeroValue21
 t37:=Tryz.underlying237
 a37:=Tryz.isAgg237
 z37:=Tryz.sizeOf237
 v37:=Tryz.zeroValue237
 t46:=Tryz.underlying265
 a46:=Tryz.isAgg265
 z46:=Tryz.sizeOf265
 v46:=Tryz.zeroValue265
 t51:=Tryz.underlying275
 a51:=Tryz.isAgg275
 z51:=Tryz.sizeOf275
 v51:=Tryz.zeroValue275
 t53:=Tryz.underlying219
 a53:=Tryz.isAgg219
 z53:=Tryz.sizeOf219
 v53:=Tryz.zeroValue219
 t75:=Tryz.underlying268
 a75:=Tryz.isAgg268
 z75:=Tryz.sizeOf268
 v75:=Tryz.zeroValue268
 t76:=Tryz.underlying269
 a76:=Tryz.isAgg269
 z76:=Tryz.sizeOf269
 v76:=Tryz.zeroValue269
 t85:=Tryz.underlying294
 a85:=Tryz.isAgg294
 z85:=Tryz.sizeOf294
 v85:=Tryz.zeroValue294
 t127:=Tryz.underlying317
 a127:=Tryz.isAgg317
 z127:=Tryz.sizeOf317
 v127:=Tryz.zeroValue317
 t143:=Tryz.underlying318
 a143:=Tryz.isAgg318
 z143:=Tryz.sizeOf318
 v143:=Tryz.zeroValue318
 t145:=Tryz.underlying320
 a145:=Tryz.isAgg320
 z145:=Tryz.sizeOf320
 v145:=Tryz.zeroValue320
 t167:=Tryz.underlying293
 a167:=Tryz.isAgg293
 z167:=Tryz.sizeOf293
 v167:=Tryz.zeroValue293
 t168:=Tryz.underlying296
 a168:=Tryz.isAgg296
 z168:=Tryz.sizeOf296
 v168:=Tryz.zeroValue296
 t171:=Tryz.underlying249
 a171:=Tryz.isAgg249
 z171:=Tryz.sizeOf249
 v171:=Tryz.zeroValue249
 t173:=Tryz.underlying252
 a173:=Tryz.isAgg252
 z173:=Tryz.sizeOf252
 v173:=Tryz.zeroValue252
 t175:=Tryz.underlying307
 a175:=Tryz.isAgg307
 z175:=Tryz.sizeOf307
 v175:=Tryz.zeroValue307
 t210:=Tryz.underlying310
 a210:=Tryz.isAgg310
 z210:=Tryz.sizeOf310
 v210:=Tryz.zeroValue310
 t212:=Tryz.underlying274
 a212:=Tryz.isAgg274
 z212:=Tryz.sizeOf274
 v212:=Tryz.zeroValue274
 t213:=Tryz.underlying276
 a213:=Tryz.isAgg276
 z213:=Tryz.sizeOf276
 t232:=Tryz.underlying299
 a232:=Tryz.isAgg299
 z232:=Tryz.sizeOf299
 v232:=Tryz.zeroValue299
 t233:=Tryz.underlying300
 a233:=Tryz.isAgg300
 z233:=Tryz.sizeOf300
 v233:=Tryz.zeroValue300
 g15:=by kernel_rfl
 g16:=by kernel_rfl
 g17:=by kernel_rfl
 g18:=by kernel_rfl
 g19:=by kernel_rfl
 t80:=Tryz.underlying79
 a80:=Tryz.isAgg79
 z80:=Tryz.sizeOf79
 v80:=Tryz.zeroValue79
 i0:=by kernel_rfl
 i2:=by kernel_rfl
 i3:=by kernel_rfl
 i4:=by kernel_rfl
 i5:=by kernel_rfl
 i9:=by kernel_rfl
 i20:=by kernel_rfl
 i21:=by kernel_rfl
 i37:=by kernel_rfl
 i46:=by kernel_rfl
 i51:=by kernel_rfl
 i53:=by kernel_rfl
 i75:=by kernel_rfl
 i76:=by kernel_rfl
 i80:=by kernel_rfl
 i85:=by kernel_rfl
 i127:=by kernel_rfl
 i143:=by kernel_rfl
 i145:=by kernel_rfl
 i167:=by kernel_rfl
 i168:=by kernel_rfl
 i171:=by kernel_rfl
 i173:=by kernel_rfl
 i175:=by kernel_rfl
 i210:=by kernel_rfl
 i212:=by kernel_rfl
 i232:=by kernel_rfl
 i233:=by kernel_rfl
 m15:=by kernel_rfl
 m16:=by kernel_rfl
 m17:=by kernel_rfl
 m18:=by kernel_rfl
 m19:=by kernel_rfl
 c0:=by kernel_rfl
 c2:=by kernel_rfl
 c3:=by kernel_rfl
 c4:=by kernel_rfl
 c5:=by kernel_rfl
 c9:=by kernel_rfl
 c20:=by kernel_rfl
 c21:=by kernel_rfl
 c37:=by kernel_rfl
 c46:=by kernel_rfl
 c51:=by kernel_rfl
 c53:=by kernel_rfl
 c75:=by kernel_rfl
 c76:=by kernel_rfl
 c80:=by kernel_rfl
 c85:=by kernel_rfl
 c127:=by kernel_rfl
 c143:=by kernel_rfl
 c145:=by kernel_rfl
 c167:=by kernel_rfl
 c168:=by kernel_rfl
 c171:=by kernel_rfl
 c173:=by kernel_rfl
 c175:=by kernel_rfl
 c210:=by kernel_rfl
 c212:=by kernel_rfl
 c213:=by kernel_rfl
 c232:=by kernel_rfl
 c233:=by kernel_rfl }
def Tryz.lays154_ren:Go.Shelf.Ren:=⟨fun | 154=>248 | 138=>250 | 165=>251 | 143=>252 | 166=>253 | 197=>254 | 169=>255 | 195=>256 | 218=>257 | 240=>258 | 241=>259 | 219=>260 | 260=>261 | 276=>262 | 277=>263 | 217=>214 | 225=>202 | 224=>201 | 267=>264 | 266=>222 | 314=>265 | n=>n,fun | 9=>9 | 3=>3 | 4=>4 | 72=>324 | 0=>0 | 76=>269 | 105=>326 | 21=>21 | 5=>5 | 70=>322 | 20=>20 | 37=>237 | 75=>268 | 127=>317 | 164=>328 | 46=>265 | 119=>331 | 139=>334 | 138=>333 | 146=>335 | 51=>275 | 80=>79 | n=>n,fun | 1=>1 | 3=>6 | 4=>7 | n=>n⟩
theorem Tryz.lays154:Go.Proofs.Lays.n154 Tryz.prog Tryz.lays154_ren:={
 mixed:=by kernel_rfl
 f138:=Tryz.func250.trans (congrArg some (by kernel_rfl))
 f143:=Tryz.func252.trans (congrArg some (by kernel_rfl))
 f154:=Tryz.func248.trans (congrArg some (by kernel_rfl))
 f165:=Tryz.func251.trans (congrArg some (by kernel_rfl))
 f166:=Tryz.func253.trans (congrArg some (by kernel_rfl))
 f169:=Tryz.func255.trans (congrArg some (by kernel_rfl))
 f195:=Tryz.func256.trans (congrArg some (by kernel_rfl))
 f197:=Tryz.func254.trans (congrArg some (by kernel_rfl))
 f217:=Tryz.func214.trans (congrArg some (by kernel_rfl))
 f218:=Tryz.func257.trans (congrArg some (by kernel_rfl))
 f219:=Tryz.func260.trans (congrArg some (by kernel_rfl))
 f224:=Tryz.func201.trans (congrArg some (by kernel_rfl))
 f225:=Tryz.func202.trans (congrArg some (by kernel_rfl))
 f240:=Tryz.func258.trans (congrArg some (by kernel_rfl))
 f241:=Tryz.func259.trans (congrArg some (by kernel_rfl))
 f260:=Tryz.func261.trans (congrArg some (by kernel_rfl))
 f266:=Tryz.func222.trans (congrArg some (by kernel_rfl))
 f267:=Tryz.func264.trans (congrArg some (by kernel_rfl))
 f276:=Tryz.func262.trans (congrArg some (by kernel_rfl))
 f277:=Tryz.func263.trans (congrArg some (by kernel_rfl))
 f314:=Tryz.func265.trans (congrArg some (by kernel_rfl))
 t0:=Tryz.underlying0
 a0:=Tryz.isAgg0
 z0:=Tryz.sizeOf0
 v0:=Tryz.zeroValue0
 t3:=Tryz.underlying3
 a3:=Tryz.isAgg3
 z3:=Tryz.sizeOf3
 v3:=Tryz.zeroValue3
 t4:=Tryz.underlying4
 a4:=Tryz.isAgg4
 z4:=Tryz.sizeOf4
 v4:=Tryz.zeroValue4
 t5:=Tryz.underlying5
 a5:=Tryz.isAgg5
 z5:=Tryz.sizeOf5
 v5:=Tryz.zeroValue5
 t9:=Tryz.underlying9
 a9:=Tryz.isAgg9
 z9:=Tryz.sizeOf9
 v9:=Tryz.zeroValue9
 t20:=Tryz.underlying20
 a20:=Tryz.isAgg20
 z20:=Tryz.sizeOf20
 v20:=Tryz.zeroValue20
 t21:=Tryz.underlying21
 a21:=Tryz.isAgg21
 z21:=Tryz.sizeOf21
 v21:=Tryz.zeroValue21
 t37:=Tryz.underlying237
 a37:=Tryz.isAgg237
 z37:=Tryz.sizeOf237
 v37:=Tryz.zeroValue237
 t46:=Tryz.underlying265
 a46:=Tryz.isAgg265
 z46:=Tryz.sizeOf265
 v46:=Tryz.zeroValue265
 t51:=Tryz.underlying275
 a51:=Tryz.isAgg275
 z51:=Tryz.sizeOf275
 v51:=Tryz.zeroValue275
 t70:=Tryz.underlying322
 a70:=Tryz.isAgg322
 z70:=Tryz.sizeOf322
 v70:=Tryz.zeroValue322
 t72:=Tryz.underlying324
 a72:=Tryz.isAgg324
 z72:=Tryz.sizeOf324
 v72:=Tryz.zeroValue324
 t75:=Tryz.underlying268
 a75:=Tryz.isAgg268
 z75:=Tryz.sizeOf268
 v75:=Tryz.zeroValue268
 t76:=Tryz.underlying269
 a76:=Tryz.isAgg269
 z76:=Tryz.sizeOf269
 v76:=Tryz.zeroValue269
 t105:=Tryz.underlying326
 a105:=Tryz.isAgg326
 z105:=Tryz.sizeOf326
 v105:=Tryz.zeroValue326
 t119:=Tryz.underlying331
 a119:=Tryz.isAgg331
 z119:=Tryz.sizeOf331
 t127:=Tryz.underlying317
 a127:=Tryz.isAgg317
 z127:=Tryz.sizeOf317
 v127:=Tryz.zeroValue317
 t138:=Tryz.underlying333
 a138:=Tryz.isAgg333
 z138:=Tryz.sizeOf333
 v138:=Tryz.zeroValue333
 t139:=Tryz.underlying334
 a139:=Tryz.isAgg334
 z139:=Tryz.sizeOf334
 v139:=Tryz.zeroValue334
 t146:=Tryz.underlying335
 a146:=Tryz.isAgg335
 z146:=Tryz.sizeOf335
 v146:=Tryz.zeroValue335
 t164:=Tryz.underlying328
 a164:=Tryz.isAgg328
 z164:=Tryz.sizeOf328
 v164:=Tryz.zeroValue328
 g1:=by kernel_rfl
 g3:=by kernel_rfl
 g4:=by kernel_rfl }
theorem Tryz.Builder_Extra_154:Builder.Extra Tryz.prog Tryz.lays154_ren:={
 sizeBuilder:=by kernel_rfl
 liesBuilder:=by kernel_rfl
 t5:=Tryz.underlying5
 a5:=Tryz.isAgg5
 z5:=Tryz.sizeOf5
 v5:=Tryz.zeroValue5
 infoByte:=by kernel_rfl
 cellsByte:=by kernel_rfl
 sizeByte:=by kernel_rfl
 neB5:=by decide }
open Go.RowKit Go.Lib in
theorem Tryz.strings_Replace (s old new:ByteArray) (n:Int) (m:Int) (w:World) (hs:s.size < 4294967281) (hm:w.cell? ⟨1,0,none⟩=some (.int .i64 m)) (h1:1≤old.size) (hlen:s.size+Lib.countB s old * new.size≤140737488355328) :
  Calls Tryz.prog 248 #[.string s,.string old,.string new,.int .i64 n] w fun e w' =>
   e=.returned (.string ⟨(Lib.replace s.data.toList old.data.toList new.data.toList n).toArray⟩)∧Below w.heap.size w w':=Any.strings_Replace Tryz.lays154 Tryz.Builder_Extra_154 s old new n m w hs hm h1 hlen
def Tryz.lays153_ren:Go.Shelf.Ren:=⟨fun | 153=>176 | 152=>187 | 226=>188 | 227=>189 | 228=>190 | 137=>199 | 119=>200 | 224=>201 | 225=>202 | 217=>214 | 266=>222 | n=>n,fun | 9=>9 | 3=>3 | 4=>4 | 5=>5 | 21=>21 | 117=>245 | 116=>244 | 0=>0 | 46=>265 | 124=>266 | n=>n,fun | n=>n⟩
theorem Tryz.lays153:Go.Proofs.Lays.n153 Tryz.prog Tryz.lays153_ren:={
 mixed:=by kernel_rfl
 f119:=Tryz.func200.trans (congrArg some (by kernel_rfl))
 f137:=Tryz.func199.trans (congrArg some (by kernel_rfl))
 f152:=Tryz.func187.trans (congrArg some (by kernel_rfl))
 f153:=Tryz.func176.trans (congrArg some (by kernel_rfl))
 f217:=Tryz.func214.trans (congrArg some (by kernel_rfl))
 f224:=Tryz.func201.trans (congrArg some (by kernel_rfl))
 f225:=Tryz.func202.trans (congrArg some (by kernel_rfl))
 f226:=Tryz.func188.trans (congrArg some (by kernel_rfl))
 f227:=Tryz.func189.trans (congrArg some (by kernel_rfl))
 f228:=Tryz.func190.trans (congrArg some (by kernel_rfl))
 f266:=Tryz.func222.trans (congrArg some (by kernel_rfl))
 t0:=Tryz.underlying0
 a0:=Tryz.isAgg0
 z0:=Tryz.sizeOf0
 v0:=Tryz.zeroValue0
 t3:=Tryz.underlying3
 a3:=Tryz.isAgg3
 z3:=Tryz.sizeOf3
 v3:=Tryz.zeroValue3
 t4:=Tryz.underlying4
 a4:=Tryz.isAgg4
 z4:=Tryz.sizeOf4
 v4:=Tryz.zeroValue4
 t5:=Tryz.underlying5
 a5:=Tryz.isAgg5
 z5:=Tryz.sizeOf5
 v5:=Tryz.zeroValue5
 t9:=Tryz.underlying9
 a9:=Tryz.isAgg9
 z9:=Tryz.sizeOf9
 v9:=Tryz.zeroValue9
 t21:=Tryz.underlying21
 a21:=Tryz.isAgg21
 z21:=Tryz.sizeOf21
 v21:=Tryz.zeroValue21
 t46:=Tryz.underlying265
 a46:=Tryz.isAgg265
 z46:=Tryz.sizeOf265
 v46:=Tryz.zeroValue265
 t116:=Tryz.underlying244
 a116:=Tryz.isAgg244
 z116:=Tryz.sizeOf244
 t117:=Tryz.underlying245
 a117:=Tryz.isAgg245
 z117:=Tryz.sizeOf245
 v117:=Tryz.zeroValue245
 t124:=Tryz.underlying266
 a124:=Tryz.isAgg266
 z124:=Tryz.sizeOf266
 v124:=Tryz.zeroValue266 }
end Go.Proofs
