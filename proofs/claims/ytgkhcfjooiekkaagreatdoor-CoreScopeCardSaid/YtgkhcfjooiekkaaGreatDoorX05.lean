import Derived.Test.YtgkhcfjooiekkaaGreatDoorProg
import Derived.Test.YtgkhcfjooiekkaaGreatDoorX00
import Derived.Test.YtgkhcfjooiekkaaGreatDoorX01
import Derived.Test.YtgkhcfjooiekkaaGreatDoorX02
import Derived.Test.YtgkhcfjooiekkaaGreatDoorX04
set_option linter.unusedVariables false
set_option linter.unusedSimpArgs false
namespace Go.Sw
open Go.Proofs.Tryz
open Go.Proofs
set_option maxRecDepth 20000
set_option maxHeartbeats 4000000
variable {Φ:Fz} {K:List Res} {w:World}
theorem indexFunc_Ex {Φ:Fz} {w:World} {σ:Type} {step:σ→Ex→Bool×σ} {Kf:σ→List Res} {g:Nat} {fs cs:List Value} {s0:σ} {v0:Value} {l:List Ex} (hl:SliceOf REx Φ 5 v0 l)
  (hg:∀args w,(callFunc g args).run Tryz.prog w=.ok (.enter g args) w)
  (hf:∀s x c w,x∈l→REx Φ c x→Mem Φ (Kf s) w→Calls Tryz.prog g (fs++[Value.agg c.toArray]++cs).toArray w (fun e w'=>e=.returned (.bool (step s x).1)∧Mem Φ (Kf (step s x).2) w'))
  (hm:Mem Φ (Kf s0) w):Calls Tryz.prog 167 (List.toArray [v0,.func (.func g) fs.toArray cs.toArray]) w (fun e w'=>e=.returned (.int .i64 (z1k step s0 l 0).1)∧Mem Φ (Kf (z1k step s0 l 0).2) w'):=by
 obtain ⟨p0,c0,rfl,hm0,hn0⟩:=hl.fm
 refine z0l func167 ntmps167 fun Q hQ a he =>?_
 refine go he hm fun a he =>?_
 refine z8x (fun mm a w=>∃(i:Nat) (s:σ),mm=l.length - i∧EnvR 19 [(0,.slice p0 l.length c0),(1,.func (.func g) (List.toArray fs) (List.toArray cs)),(7,.int .i64 ((l.length:Nat):Int)),(8,.int .i64 ((i:Nat):Int))] [] a∧Mem Φ (Kf s) w∧(z1k step s0 l 0=z1k step s (l.drop i) i)) (l.length - 0) ⟨0,s0,rfl,he.pk,hm,rfl⟩ ?_
 clear hm he
 rintro mm a w ⟨i,s,hmu,he,hm,hI5⟩ L4 hL4
 refine go he hm fun a he =>?_
 by_cases h7:i < l.length
 refine go he hm fun a he =>?_
 obtain ⟨q12,rfl,x13,hx14,cs15,hl16,ha17,hr18⟩:=hl.el hn0 h7
 obtain ⟨p21,c22,p27,c28,rfl,hi31,h20,h26,hm23,hn24,hm29,hn30⟩:=REx.fm hr18
 refine FunB hg he hm (fun hB32 w hm a he =>?_) (fun hB32 w hm a he =>?_) (c:=by exact hf s _ _ _ (List.mem_of_getElem? hx14) hr18 hm)
 refine Ret1 hQ he hm ?_
 have hf_:=hI5
 rw [z0a hx14] at hf_
 simp only [z1k,hB32,if_true] at hf_
 rw [hf_]
 exact ⟨rfl,hm⟩
 refine go he hm fun a he =>?_
 refine hL4 _ _ _ (by subst hmu;omega) ⟨(i+1),((step s x13).2),rfl,he.pk,hm,?_⟩
 rw [hI5,z0a hx14];simp [z1k,hB32]
 refine Ret1 hQ he hm ?_
 have hf_:=hI5
 rw [z0g h7] at hf_
 simp only [z1k] at hf_
 rw [hf_]
 exact ⟨rfl,hm⟩
theorem containsFunc_Ex {Φ:Fz} {w:World} {σ:Type} {step:σ→Ex→Bool×σ} {Kf:σ→List Res} {g:Nat} {fs cs:List Value} {s0:σ} {v0:Value} {l:List Ex} (hl:SliceOf REx Φ 5 v0 l)
  (hg:∀args w,(callFunc g args).run Tryz.prog w=.ok (.enter g args) w)
  (hf:∀s x c w,x∈l→REx Φ c x→Mem Φ (Kf s) w→Calls Tryz.prog g (fs++[Value.agg c.toArray]++cs).toArray w (fun e w'=>e=.returned (.bool (step s x).1)∧Mem Φ (Kf (step s x).2) w'))
  (hm:Mem Φ (Kf s0) w):Calls Tryz.prog 115 (List.toArray [v0,.func (.func g) fs.toArray cs.toArray]) w (fun e w'=>e=.returned (.bool (hitF step s0 l))∧Mem Φ (Kf (z1k step s0 l 0).2) w'):=by
 obtain ⟨p0,c0,rfl,hm0,hn0⟩:=hl.fm
 refine Calls.mono (R:=fun e w'=>e=.returned (.bool (decide (0≤(z1k step s0 l 0).1)))∧Mem Φ (Kf (z1k step s0 l 0).2) w') ?_ (fun e w' h=>by rw [z3s] at h;exact h)
 refine z0l func115 ntmps115 fun Q hQ a he =>?_
 refine z0y call167 he hm (fun w hm a he =>?_) (c:=indexFunc_Ex (Φ:=Φ) (step:=step) (Kf:=Kf) (s0:=s0) (l:=l) hl hg hf hm)
 refine Qq he hm (fun a he =>?_) (o:=by exact fun _ _ _ he hs=>y_geqD he rfl rfl)
 refine Ret1 hQ he hm ?_
 exact ⟨rfl,hm⟩
theorem anyFunc_Ex {p:Ex→Bool} {g:Nat} {fs cs:List Value} {v0:Value} {l:List Ex} (hl:SliceOf REx Φ 5 v0 l)
  (hg:∀args w,(callFunc g args).run Tryz.prog w=.ok (.enter g args) w)
  (hf:∀x c w,x∈l→REx Φ c x→Mem Φ K w→Calls Tryz.prog g (fs++[Value.agg c.toArray]++cs).toArray w (fun e w'=>e=.returned (.bool (p x))∧Mem Φ K w'))
  (hm:Mem Φ K w):Calls Tryz.prog 115 (List.toArray [v0,.func (.func g) fs.toArray cs.toArray]) w (fun e w'=>e=.returned (.bool (l.any p))∧Mem Φ K w') :=
 (containsFunc_Ex (σ:=Unit) (step:=fun s x=>(p x,s)) (Kf:=fun _=>K) (s0:=()) hl hg (fun _ x c w hx hc hm=>hf x c w hx hc hm) hm).mono (fun e w' h=>by rw [z6x] at h;exact h)
theorem indexFunc_Arm {Φ:Fz} {w:World} {σ:Type} {step:σ→Arm→Bool×σ} {Kf:σ→List Res} {g:Nat} {fs cs:List Value} {s0:σ} {v0:Value} {l:List Arm} (hl:SliceOf RArm Φ 7 v0 l)
  (hg:∀args w,(callFunc g args).run Tryz.prog w=.ok (.enter g args) w)
  (hf:∀s x c w,x∈l→RArm Φ c x→Mem Φ (Kf s) w→Calls Tryz.prog g (fs++[Value.agg c.toArray]++cs).toArray w (fun e w'=>e=.returned (.bool (step s x).1)∧Mem Φ (Kf (step s x).2) w'))
  (hm:Mem Φ (Kf s0) w):Calls Tryz.prog 168 (List.toArray [v0,.func (.func g) fs.toArray cs.toArray]) w (fun e w'=>e=.returned (.int .i64 (z1k step s0 l 0).1)∧Mem Φ (Kf (z1k step s0 l 0).2) w'):=by
 obtain ⟨p0,c0,rfl,hm0,hn0⟩:=hl.fm
 refine z0l func168 ntmps168 fun Q hQ a he =>?_
 refine go he hm fun a he =>?_
 refine z8x (fun mm a w=>∃(i:Nat) (s:σ),mm=l.length - i∧EnvR 19 [(0,.slice p0 l.length c0),(1,.func (.func g) (List.toArray fs) (List.toArray cs)),(7,.int .i64 ((l.length:Nat):Int)),(8,.int .i64 ((i:Nat):Int))] [] a∧Mem Φ (Kf s) w∧(z1k step s0 l 0=z1k step s (l.drop i) i)) (l.length - 0) ⟨0,s0,rfl,he.pk,hm,rfl⟩ ?_
 clear hm he
 rintro mm a w ⟨i,s,hmu,he,hm,hI5⟩ L4 hL4
 refine go he hm fun a he =>?_
 by_cases h7:i < l.length
 refine go he hm fun a he =>?_
 obtain ⟨q12,rfl,x13,hx14,cs15,hl16,ha17,hr18⟩:=hl.el hn0 h7
 obtain ⟨s19,b25,rfl,h20,h26⟩:=RArm.iff.1 hr18
 obtain ⟨p21,c22,rfl,hm23,hn24⟩:=h20.fm
 obtain ⟨p29,c30,p35,c36,rfl,hi39,h28,h34,hm31,hn32,hm37,hn38⟩:=REx.fm h26
 refine FunB hg he hm (fun hB40 w hm a he =>?_) (fun hB40 w hm a he =>?_) (c:=by exact hf s _ _ _ (List.mem_of_getElem? hx14) hr18 hm)
 refine Ret1 hQ he hm ?_
 have hf_:=hI5
 rw [z0a hx14] at hf_
 simp only [z1k,hB40,if_true] at hf_
 rw [hf_]
 exact ⟨rfl,hm⟩
 refine go he hm fun a he =>?_
 refine hL4 _ _ _ (by subst hmu;omega) ⟨(i+1),((step s x13).2),rfl,he.pk,hm,?_⟩
 rw [hI5,z0a hx14];simp [z1k,hB40]
 refine Ret1 hQ he hm ?_
 have hf_:=hI5
 rw [z0g h7] at hf_
 simp only [z1k] at hf_
 rw [hf_]
 exact ⟨rfl,hm⟩
theorem containsFunc_Arm {Φ:Fz} {w:World} {σ:Type} {step:σ→Arm→Bool×σ} {Kf:σ→List Res} {g:Nat} {fs cs:List Value} {s0:σ} {v0:Value} {l:List Arm} (hl:SliceOf RArm Φ 7 v0 l)
  (hg:∀args w,(callFunc g args).run Tryz.prog w=.ok (.enter g args) w)
  (hf:∀s x c w,x∈l→RArm Φ c x→Mem Φ (Kf s) w→Calls Tryz.prog g (fs++[Value.agg c.toArray]++cs).toArray w (fun e w'=>e=.returned (.bool (step s x).1)∧Mem Φ (Kf (step s x).2) w'))
  (hm:Mem Φ (Kf s0) w):Calls Tryz.prog 116 (List.toArray [v0,.func (.func g) fs.toArray cs.toArray]) w (fun e w'=>e=.returned (.bool (hitF step s0 l))∧Mem Φ (Kf (z1k step s0 l 0).2) w'):=by
 obtain ⟨p0,c0,rfl,hm0,hn0⟩:=hl.fm
 refine Calls.mono (R:=fun e w'=>e=.returned (.bool (decide (0≤(z1k step s0 l 0).1)))∧Mem Φ (Kf (z1k step s0 l 0).2) w') ?_ (fun e w' h=>by rw [z3s] at h;exact h)
 refine z0l func116 ntmps116 fun Q hQ a he =>?_
 refine z0y call168 he hm (fun w hm a he =>?_) (c:=indexFunc_Arm (Φ:=Φ) (step:=step) (Kf:=Kf) (s0:=s0) (l:=l) hl hg hf hm)
 refine Qq he hm (fun a he =>?_) (o:=by exact fun _ _ _ he hs=>y_geqD he rfl rfl)
 refine Ret1 hQ he hm ?_
 exact ⟨rfl,hm⟩
theorem anyFunc_Arm {p:Arm→Bool} {g:Nat} {fs cs:List Value} {v0:Value} {l:List Arm} (hl:SliceOf RArm Φ 7 v0 l)
  (hg:∀args w,(callFunc g args).run Tryz.prog w=.ok (.enter g args) w)
  (hf:∀x c w,x∈l→RArm Φ c x→Mem Φ K w→Calls Tryz.prog g (fs++[Value.agg c.toArray]++cs).toArray w (fun e w'=>e=.returned (.bool (p x))∧Mem Φ K w'))
  (hm:Mem Φ K w):Calls Tryz.prog 116 (List.toArray [v0,.func (.func g) fs.toArray cs.toArray]) w (fun e w'=>e=.returned (.bool (l.any p))∧Mem Φ K w') :=
 (containsFunc_Arm (σ:=Unit) (step:=fun s x=>(p x,s)) (Kf:=fun _=>K) (s0:=()) hl hg (fun _ x c w hx hc hm=>hf x c w hx hc hm) hm).mono (fun e w' h=>by rw [z6x] at h;exact h)
theorem indexFunc_Fun {Φ:Fz} {w:World} {σ:Type} {step:σ→Fun→Bool×σ} {Kf:σ→List Res} {g:Nat} {fs cs:List Value} {s0:σ} {v0:Value} {l:List Fun} (hl:SliceOf RFun Φ 8 v0 l)
  (hg:∀args w,(callFunc g args).run Tryz.prog w=.ok (.enter g args) w)
  (hf:∀s x c w,x∈l→RFun Φ c x→Mem Φ (Kf s) w→Calls Tryz.prog g (fs++[Value.agg c.toArray]++cs).toArray w (fun e w'=>e=.returned (.bool (step s x).1)∧Mem Φ (Kf (step s x).2) w'))
  (hm:Mem Φ (Kf s0) w):Calls Tryz.prog 150 (List.toArray [v0,.func (.func g) fs.toArray cs.toArray]) w (fun e w'=>e=.returned (.int .i64 (z1k step s0 l 0).1)∧Mem Φ (Kf (z1k step s0 l 0).2) w'):=by
 obtain ⟨p0,c0,rfl,hm0,hn0⟩:=hl.fm
 refine z0l func150 ntmps150 fun Q hQ a he =>?_
 refine go he hm fun a he =>?_
 refine z8x (fun mm a w=>∃(i:Nat) (s:σ),mm=l.length - i∧EnvR 19 [(0,.slice p0 l.length c0),(1,.func (.func g) (List.toArray fs) (List.toArray cs)),(7,.int .i64 ((l.length:Nat):Int)),(8,.int .i64 ((i:Nat):Int))] [] a∧Mem Φ (Kf s) w∧(z1k step s0 l 0=z1k step s (l.drop i) i)) (l.length - 0) ⟨0,s0,rfl,he.pk,hm,rfl⟩ ?_
 clear hm he
 rintro mm a w ⟨i,s,hmu,he,hm,hI5⟩ L4 hL4
 refine go he hm fun a he =>?_
 by_cases h7:i < l.length
 refine go he hm fun a he =>?_
 obtain ⟨q12,rfl,x13,hx14,cs15,hl16,ha17,hr18⟩:=hl.el hn0 h7
 obtain ⟨s19,b25,rfl,h20,h26⟩:=id hr18
 obtain ⟨p21,c22,rfl,hm23,hn24⟩:=h20.fm
 obtain ⟨p29,c30,p35,c36,rfl,hi39,h28,h34,hm31,hn32,hm37,hn38⟩:=REx.fm h26
 refine FunB hg he hm (fun hB40 w hm a he =>?_) (fun hB40 w hm a he =>?_) (c:=by exact hf s _ _ _ (List.mem_of_getElem? hx14) hr18 hm)
 refine Ret1 hQ he hm ?_
 have hf_:=hI5
 rw [z0a hx14] at hf_
 simp only [z1k,hB40,if_true] at hf_
 rw [hf_]
 exact ⟨rfl,hm⟩
 refine go he hm fun a he =>?_
 refine hL4 _ _ _ (by subst hmu;omega) ⟨(i+1),((step s x13).2),rfl,he.pk,hm,?_⟩
 rw [hI5,z0a hx14];simp [z1k,hB40]
 refine Ret1 hQ he hm ?_
 have hf_:=hI5
 rw [z0g h7] at hf_
 simp only [z1k] at hf_
 rw [hf_]
 exact ⟨rfl,hm⟩
theorem containsFunc_Fun {Φ:Fz} {w:World} {σ:Type} {step:σ→Fun→Bool×σ} {Kf:σ→List Res} {g:Nat} {fs cs:List Value} {s0:σ} {v0:Value} {l:List Fun} (hl:SliceOf RFun Φ 8 v0 l)
  (hg:∀args w,(callFunc g args).run Tryz.prog w=.ok (.enter g args) w)
  (hf:∀s x c w,x∈l→RFun Φ c x→Mem Φ (Kf s) w→Calls Tryz.prog g (fs++[Value.agg c.toArray]++cs).toArray w (fun e w'=>e=.returned (.bool (step s x).1)∧Mem Φ (Kf (step s x).2) w'))
  (hm:Mem Φ (Kf s0) w):Calls Tryz.prog 96 (List.toArray [v0,.func (.func g) fs.toArray cs.toArray]) w (fun e w'=>e=.returned (.bool (hitF step s0 l))∧Mem Φ (Kf (z1k step s0 l 0).2) w'):=by
 obtain ⟨p0,c0,rfl,hm0,hn0⟩:=hl.fm
 refine Calls.mono (R:=fun e w'=>e=.returned (.bool (decide (0≤(z1k step s0 l 0).1)))∧Mem Φ (Kf (z1k step s0 l 0).2) w') ?_ (fun e w' h=>by rw [z3s] at h;exact h)
 refine z0l func96 ntmps96 fun Q hQ a he =>?_
 refine z0y call150 he hm (fun w hm a he =>?_) (c:=indexFunc_Fun (Φ:=Φ) (step:=step) (Kf:=Kf) (s0:=s0) (l:=l) hl hg hf hm)
 refine Qq he hm (fun a he =>?_) (o:=by exact fun _ _ _ he hs=>y_geqD he rfl rfl)
 refine Ret1 hQ he hm ?_
 exact ⟨rfl,hm⟩
theorem anyFunc_Fun {p:Fun→Bool} {g:Nat} {fs cs:List Value} {v0:Value} {l:List Fun} (hl:SliceOf RFun Φ 8 v0 l)
  (hg:∀args w,(callFunc g args).run Tryz.prog w=.ok (.enter g args) w)
  (hf:∀x c w,x∈l→RFun Φ c x→Mem Φ K w→Calls Tryz.prog g (fs++[Value.agg c.toArray]++cs).toArray w (fun e w'=>e=.returned (.bool (p x))∧Mem Φ K w'))
  (hm:Mem Φ K w):Calls Tryz.prog 96 (List.toArray [v0,.func (.func g) fs.toArray cs.toArray]) w (fun e w'=>e=.returned (.bool (l.any p))∧Mem Φ K w') :=
 (containsFunc_Fun (σ:=Unit) (step:=fun s x=>(p x,s)) (Kf:=fun _=>K) (s0:=()) hl hg (fun _ x c w hx hc hm=>hf x c w hx hc hm) hm).mono (fun e w' h=>by rw [z6x] at h;exact h)
theorem indexFunc_Val {Φ:Fz} {w:World} {σ:Type} {step:σ→Val→Bool×σ} {Kf:σ→List Res} {g:Nat} {fs cs:List Value} {s0:σ} {v0:Value} {l:List Val} (hl:SliceOf RVal Φ 3 v0 l)
  (hg:∀args w,(callFunc g args).run Tryz.prog w=.ok (.enter g args) w)
  (hf:∀s x c w,x∈l→RVal Φ c x→Mem Φ (Kf s) w→Calls Tryz.prog g (fs++[Value.agg c.toArray]++cs).toArray w (fun e w'=>e=.returned (.bool (step s x).1)∧Mem Φ (Kf (step s x).2) w'))
  (hm:Mem Φ (Kf s0) w):Calls Tryz.prog 104 (List.toArray [v0,.func (.func g) fs.toArray cs.toArray]) w (fun e w'=>e=.returned (.int .i64 (z1k step s0 l 0).1)∧Mem Φ (Kf (z1k step s0 l 0).2) w'):=by
 obtain ⟨p0,c0,rfl,hm0,hn0⟩:=hl.fm
 refine z0l func104 ntmps104 fun Q hQ a he =>?_
 refine go he hm fun a he =>?_
 refine z8x (fun mm a w=>∃(i:Nat) (s:σ),mm=l.length - i∧EnvR 19 [(0,.slice p0 l.length c0),(1,.func (.func g) (List.toArray fs) (List.toArray cs)),(7,.int .i64 ((l.length:Nat):Int)),(8,.int .i64 ((i:Nat):Int))] [] a∧Mem Φ (Kf s) w∧(z1k step s0 l 0=z1k step s (l.drop i) i)) (l.length - 0) ⟨0,s0,rfl,he.pk,hm,rfl⟩ ?_
 clear hm he
 rintro mm a w ⟨i,s,hmu,he,hm,hI5⟩ L4 hL4
 refine go he hm fun a he =>?_
 by_cases h7:i < l.length
 refine go he hm fun a he =>?_
 obtain ⟨q12,rfl,x13,hx14,cs15,hl16,ha17,hr18⟩:=hl.el hn0 h7
 obtain ⟨p21,c22,rfl,hi25,h20,hm23,hn24⟩:=RVal.fm hr18
 refine FunB hg he hm (fun hB26 w hm a he =>?_) (fun hB26 w hm a he =>?_) (c:=by exact hf s _ _ _ (List.mem_of_getElem? hx14) hr18 hm)
 refine Ret1 hQ he hm ?_
 have hf_:=hI5
 rw [z0a hx14] at hf_
 simp only [z1k,hB26,if_true] at hf_
 rw [hf_]
 exact ⟨rfl,hm⟩
 refine go he hm fun a he =>?_
 refine hL4 _ _ _ (by subst hmu;omega) ⟨(i+1),((step s x13).2),rfl,he.pk,hm,?_⟩
 rw [hI5,z0a hx14];simp [z1k,hB26]
 refine Ret1 hQ he hm ?_
 have hf_:=hI5
 rw [z0g h7] at hf_
 simp only [z1k] at hf_
 rw [hf_]
 exact ⟨rfl,hm⟩
theorem containsFunc_Val {Φ:Fz} {w:World} {σ:Type} {step:σ→Val→Bool×σ} {Kf:σ→List Res} {g:Nat} {fs cs:List Value} {s0:σ} {v0:Value} {l:List Val} (hl:SliceOf RVal Φ 3 v0 l)
  (hg:∀args w,(callFunc g args).run Tryz.prog w=.ok (.enter g args) w)
  (hf:∀s x c w,x∈l→RVal Φ c x→Mem Φ (Kf s) w→Calls Tryz.prog g (fs++[Value.agg c.toArray]++cs).toArray w (fun e w'=>e=.returned (.bool (step s x).1)∧Mem Φ (Kf (step s x).2) w'))
  (hm:Mem Φ (Kf s0) w):Calls Tryz.prog 49 (List.toArray [v0,.func (.func g) fs.toArray cs.toArray]) w (fun e w'=>e=.returned (.bool (hitF step s0 l))∧Mem Φ (Kf (z1k step s0 l 0).2) w'):=by
 obtain ⟨p0,c0,rfl,hm0,hn0⟩:=hl.fm
 refine Calls.mono (R:=fun e w'=>e=.returned (.bool (decide (0≤(z1k step s0 l 0).1)))∧Mem Φ (Kf (z1k step s0 l 0).2) w') ?_ (fun e w' h=>by rw [z3s] at h;exact h)
 refine z0l func49 ntmps49 fun Q hQ a he =>?_
 refine z0y call104 he hm (fun w hm a he =>?_) (c:=indexFunc_Val (Φ:=Φ) (step:=step) (Kf:=Kf) (s0:=s0) (l:=l) hl hg hf hm)
 refine Qq he hm (fun a he =>?_) (o:=by exact fun _ _ _ he hs=>y_geqD he rfl rfl)
 refine Ret1 hQ he hm ?_
 exact ⟨rfl,hm⟩
theorem anyFunc_Val {p:Val→Bool} {g:Nat} {fs cs:List Value} {v0:Value} {l:List Val} (hl:SliceOf RVal Φ 3 v0 l)
  (hg:∀args w,(callFunc g args).run Tryz.prog w=.ok (.enter g args) w)
  (hf:∀x c w,x∈l→RVal Φ c x→Mem Φ K w→Calls Tryz.prog g (fs++[Value.agg c.toArray]++cs).toArray w (fun e w'=>e=.returned (.bool (p x))∧Mem Φ K w'))
  (hm:Mem Φ K w):Calls Tryz.prog 49 (List.toArray [v0,.func (.func g) fs.toArray cs.toArray]) w (fun e w'=>e=.returned (.bool (l.any p))∧Mem Φ K w') :=
 (containsFunc_Val (σ:=Unit) (step:=fun s x=>(p x,s)) (Kf:=fun _=>K) (s0:=()) hl hg (fun _ x c w hx hc hm=>hf x c w hx hc hm) hm).mono (fun e w' h=>by rw [z6x] at h;exact h)
theorem indexFunc_Con {Φ:Fz} {w:World} {σ:Type} {step:σ→Con→Bool×σ} {Kf:σ→List Res} {g:Nat} {fs cs:List Value} {s0:σ} {v0:Value} {l:List Con} (hl:SliceOf RCon Φ 2 v0 l)
  (hg:∀args w,(callFunc g args).run Tryz.prog w=.ok (.enter g args) w)
  (hf:∀s x c w,x∈l→RCon Φ c x→Mem Φ (Kf s) w→Calls Tryz.prog g (fs++[Value.agg c.toArray]++cs).toArray w (fun e w'=>e=.returned (.bool (step s x).1)∧Mem Φ (Kf (step s x).2) w'))
  (hm:Mem Φ (Kf s0) w):Calls Tryz.prog 189 (List.toArray [v0,.func (.func g) fs.toArray cs.toArray]) w (fun e w'=>e=.returned (.int .i64 (z1k step s0 l 0).1)∧Mem Φ (Kf (z1k step s0 l 0).2) w'):=by
 obtain ⟨p0,c0,rfl,hm0,hn0⟩:=hl.fm
 refine z0l func189 ntmps189 fun Q hQ a he =>?_
 refine go he hm fun a he =>?_
 refine z8x (fun mm a w=>∃(i:Nat) (s:σ),mm=l.length - i∧EnvR 19 [(0,.slice p0 l.length c0),(1,.func (.func g) (List.toArray fs) (List.toArray cs)),(7,.int .i64 ((l.length:Nat):Int)),(8,.int .i64 ((i:Nat):Int))] [] a∧Mem Φ (Kf s) w∧(z1k step s0 l 0=z1k step s (l.drop i) i)) (l.length - 0) ⟨0,s0,rfl,he.pk,hm,rfl⟩ ?_
 clear hm he
 rintro mm a w ⟨i,s,hmu,he,hm,hI5⟩ L4 hL4
 refine go he hm fun a he =>?_
 by_cases h7:i < l.length
 refine go he hm fun a he =>?_
 obtain ⟨q12,rfl,x13,hx14,cs15,hl16,ha17,hr18⟩:=hl.el hn0 h7
 obtain ⟨s19,rfl,h20⟩:=id hr18
 obtain ⟨p21,c22,rfl,hm23,hn24⟩:=h20.fm
 refine FunB hg he hm (fun hB25 w hm a he =>?_) (fun hB25 w hm a he =>?_) (c:=by exact hf s _ _ _ (List.mem_of_getElem? hx14) hr18 hm)
 refine Ret1 hQ he hm ?_
 have hf_:=hI5
 rw [z0a hx14] at hf_
 simp only [z1k,hB25,if_true] at hf_
 rw [hf_]
 exact ⟨rfl,hm⟩
 refine go he hm fun a he =>?_
 refine hL4 _ _ _ (by subst hmu;omega) ⟨(i+1),((step s x13).2),rfl,he.pk,hm,?_⟩
 rw [hI5,z0a hx14];simp [z1k,hB25]
 refine Ret1 hQ he hm ?_
 have hf_:=hI5
 rw [z0g h7] at hf_
 simp only [z1k] at hf_
 rw [hf_]
 exact ⟨rfl,hm⟩
theorem containsFunc_Con {Φ:Fz} {w:World} {σ:Type} {step:σ→Con→Bool×σ} {Kf:σ→List Res} {g:Nat} {fs cs:List Value} {s0:σ} {v0:Value} {l:List Con} (hl:SliceOf RCon Φ 2 v0 l)
  (hg:∀args w,(callFunc g args).run Tryz.prog w=.ok (.enter g args) w)
  (hf:∀s x c w,x∈l→RCon Φ c x→Mem Φ (Kf s) w→Calls Tryz.prog g (fs++[Value.agg c.toArray]++cs).toArray w (fun e w'=>e=.returned (.bool (step s x).1)∧Mem Φ (Kf (step s x).2) w'))
  (hm:Mem Φ (Kf s0) w):Calls Tryz.prog 151 (List.toArray [v0,.func (.func g) fs.toArray cs.toArray]) w (fun e w'=>e=.returned (.bool (hitF step s0 l))∧Mem Φ (Kf (z1k step s0 l 0).2) w'):=by
 obtain ⟨p0,c0,rfl,hm0,hn0⟩:=hl.fm
 refine Calls.mono (R:=fun e w'=>e=.returned (.bool (decide (0≤(z1k step s0 l 0).1)))∧Mem Φ (Kf (z1k step s0 l 0).2) w') ?_ (fun e w' h=>by rw [z3s] at h;exact h)
 refine z0l func151 ntmps151 fun Q hQ a he =>?_
 refine z0y call189 he hm (fun w hm a he =>?_) (c:=indexFunc_Con (Φ:=Φ) (step:=step) (Kf:=Kf) (s0:=s0) (l:=l) hl hg hf hm)
 refine Qq he hm (fun a he =>?_) (o:=by exact fun _ _ _ he hs=>y_geqD he rfl rfl)
 refine Ret1 hQ he hm ?_
 exact ⟨rfl,hm⟩
theorem anyFunc_Con {p:Con→Bool} {g:Nat} {fs cs:List Value} {v0:Value} {l:List Con} (hl:SliceOf RCon Φ 2 v0 l)
  (hg:∀args w,(callFunc g args).run Tryz.prog w=.ok (.enter g args) w)
  (hf:∀x c w,x∈l→RCon Φ c x→Mem Φ K w→Calls Tryz.prog g (fs++[Value.agg c.toArray]++cs).toArray w (fun e w'=>e=.returned (.bool (p x))∧Mem Φ K w'))
  (hm:Mem Φ K w):Calls Tryz.prog 151 (List.toArray [v0,.func (.func g) fs.toArray cs.toArray]) w (fun e w'=>e=.returned (.bool (l.any p))∧Mem Φ K w') :=
 (containsFunc_Con (σ:=Unit) (step:=fun s x=>(p x,s)) (Kf:=fun _=>K) (s0:=()) hl hg (fun _ x c w hx hc hm=>hf x c w hx hc hm) hm).mono (fun e w' h=>by rw [z6x] at h;exact h)
theorem indexFunc_Param {Φ:Fz} {w:World} {σ:Type} {step:σ→Param→Bool×σ} {Kf:σ→List Res} {g:Nat} {fs cs:List Value} {s0:σ} {v0:Value} {l:List Param} (hl:SliceOf RParam Φ 2 v0 l)
  (hg:∀args w,(callFunc g args).run Tryz.prog w=.ok (.enter g args) w)
  (hf:∀s x c w,x∈l→RParam Φ c x→Mem Φ (Kf s) w→Calls Tryz.prog g (fs++[Value.agg c.toArray]++cs).toArray w (fun e w'=>e=.returned (.bool (step s x).1)∧Mem Φ (Kf (step s x).2) w'))
  (hm:Mem Φ (Kf s0) w):Calls Tryz.prog 195 (List.toArray [v0,.func (.func g) fs.toArray cs.toArray]) w (fun e w'=>e=.returned (.int .i64 (z1k step s0 l 0).1)∧Mem Φ (Kf (z1k step s0 l 0).2) w'):=by
 obtain ⟨p0,c0,rfl,hm0,hn0⟩:=hl.fm
 refine z0l func195 ntmps195 fun Q hQ a he =>?_
 refine go he hm fun a he =>?_
 refine z8x (fun mm a w=>∃(i:Nat) (s:σ),mm=l.length - i∧EnvR 19 [(0,.slice p0 l.length c0),(1,.func (.func g) (List.toArray fs) (List.toArray cs)),(7,.int .i64 ((l.length:Nat):Int)),(8,.int .i64 ((i:Nat):Int))] [] a∧Mem Φ (Kf s) w∧(z1k step s0 l 0=z1k step s (l.drop i) i)) (l.length - 0) ⟨0,s0,rfl,he.pk,hm,rfl⟩ ?_
 clear hm he
 rintro mm a w ⟨i,s,hmu,he,hm,hI5⟩ L4 hL4
 refine go he hm fun a he =>?_
 by_cases h7:i < l.length
 refine go he hm fun a he =>?_
 obtain ⟨q12,rfl,x13,hx14,cs15,hl16,ha17,hr18⟩:=hl.el hn0 h7
 obtain rfl:=id hr18
 refine FunB hg he hm (fun hB19 w hm a he =>?_) (fun hB19 w hm a he =>?_) (c:=by exact hf s _ _ _ (List.mem_of_getElem? hx14) hr18 hm)
 refine Ret1 hQ he hm ?_
 have hf_:=hI5
 rw [z0a hx14] at hf_
 simp only [z1k,hB19,if_true] at hf_
 rw [hf_]
 exact ⟨rfl,hm⟩
 refine go he hm fun a he =>?_
 refine hL4 _ _ _ (by subst hmu;omega) ⟨(i+1),((step s x13).2),rfl,he.pk,hm,?_⟩
 rw [hI5,z0a hx14];simp [z1k,hB19]
 refine Ret1 hQ he hm ?_
 have hf_:=hI5
 rw [z0g h7] at hf_
 simp only [z1k] at hf_
 rw [hf_]
 exact ⟨rfl,hm⟩
theorem containsFunc_Param {Φ:Fz} {w:World} {σ:Type} {step:σ→Param→Bool×σ} {Kf:σ→List Res} {g:Nat} {fs cs:List Value} {s0:σ} {v0:Value} {l:List Param} (hl:SliceOf RParam Φ 2 v0 l)
  (hg:∀args w,(callFunc g args).run Tryz.prog w=.ok (.enter g args) w)
  (hf:∀s x c w,x∈l→RParam Φ c x→Mem Φ (Kf s) w→Calls Tryz.prog g (fs++[Value.agg c.toArray]++cs).toArray w (fun e w'=>e=.returned (.bool (step s x).1)∧Mem Φ (Kf (step s x).2) w'))
  (hm:Mem Φ (Kf s0) w):Calls Tryz.prog 156 (List.toArray [v0,.func (.func g) fs.toArray cs.toArray]) w (fun e w'=>e=.returned (.bool (hitF step s0 l))∧Mem Φ (Kf (z1k step s0 l 0).2) w'):=by
 obtain ⟨p0,c0,rfl,hm0,hn0⟩:=hl.fm
 refine Calls.mono (R:=fun e w'=>e=.returned (.bool (decide (0≤(z1k step s0 l 0).1)))∧Mem Φ (Kf (z1k step s0 l 0).2) w') ?_ (fun e w' h=>by rw [z3s] at h;exact h)
 refine z0l func156 ntmps156 fun Q hQ a he =>?_
 refine z0y call195 he hm (fun w hm a he =>?_) (c:=indexFunc_Param (Φ:=Φ) (step:=step) (Kf:=Kf) (s0:=s0) (l:=l) hl hg hf hm)
 refine Qq he hm (fun a he =>?_) (o:=by exact fun _ _ _ he hs=>y_geqD he rfl rfl)
 refine Ret1 hQ he hm ?_
 exact ⟨rfl,hm⟩
theorem anyFunc_Param {p:Param→Bool} {g:Nat} {fs cs:List Value} {v0:Value} {l:List Param} (hl:SliceOf RParam Φ 2 v0 l)
  (hg:∀args w,(callFunc g args).run Tryz.prog w=.ok (.enter g args) w)
  (hf:∀x c w,x∈l→RParam Φ c x→Mem Φ K w→Calls Tryz.prog g (fs++[Value.agg c.toArray]++cs).toArray w (fun e w'=>e=.returned (.bool (p x))∧Mem Φ K w'))
  (hm:Mem Φ K w):Calls Tryz.prog 156 (List.toArray [v0,.func (.func g) fs.toArray cs.toArray]) w (fun e w'=>e=.returned (.bool (l.any p))∧Mem Φ K w') :=
 (containsFunc_Param (σ:=Unit) (step:=fun s x=>(p x,s)) (Kf:=fun _=>K) (s0:=()) hl hg (fun _ x c w hx hc hm=>hf x c w hx hc hm) hm).mono (fun e w' h=>by rw [z6x] at h;exact h)
theorem indexFunc_Bs {Φ:Fz} {w:World} {σ:Type} {step:σ→Bs→Bool×σ} {Kf:σ→List Res} {g:Nat} {fs cs:List Value} {s0:σ} {v0:Value} {l:List Bs} (hl:SliceOf RStr Φ 1 v0 l)
  (hg:∀args w,(callFunc g args).run Tryz.prog w=.ok (.enter g args) w)
  (hf:∀s x c w,x∈l→RStr Φ c x→Mem Φ (Kf s) w→Calls Tryz.prog g (fs++[Value.string x]++cs).toArray w (fun e w'=>e=.returned (.bool (step s x).1)∧Mem Φ (Kf (step s x).2) w'))
  (hm:Mem Φ (Kf s0) w):Calls Tryz.prog 194 (List.toArray [v0,.func (.func g) fs.toArray cs.toArray]) w (fun e w'=>e=.returned (.int .i64 (z1k step s0 l 0).1)∧Mem Φ (Kf (z1k step s0 l 0).2) w'):=by
 obtain ⟨p0,c0,rfl,hm0,hn0⟩:=hl.fm
 refine z0l func194 ntmps194 fun Q hQ a he =>?_
 refine go he hm fun a he =>?_
 refine z8x (fun mm a w=>∃(i:Nat) (s:σ),mm=l.length - i∧EnvR 19 [(0,.slice p0 l.length c0),(1,.func (.func g) (List.toArray fs) (List.toArray cs)),(7,.int .i64 ((l.length:Nat):Int)),(8,.int .i64 ((i:Nat):Int))] [] a∧Mem Φ (Kf s) w∧(z1k step s0 l 0=z1k step s (l.drop i) i)) (l.length - 0) ⟨0,s0,rfl,he.pk,hm,rfl⟩ ?_
 clear hm he
 rintro mm a w ⟨i,s,hmu,he,hm,hI5⟩ L4 hL4
 refine go he hm fun a he =>?_
 by_cases h7:i < l.length
 refine go he hm fun a he =>?_
 obtain ⟨q12,rfl,x13,hx14,cs15,hl16,ha17,hr18⟩:=hl.el hn0 h7
 obtain rfl:cs15=[.string x13]:=hr18
 refine FunB hg he hm (fun hB19 w hm a he =>?_) (fun hB19 w hm a he =>?_) (c:=by exact hf s _ _ _ (List.mem_of_getElem? hx14) rfl hm)
 refine Ret1 hQ he hm ?_
 have hf_:=hI5
 rw [z0a hx14] at hf_
 simp only [z1k,hB19,if_true] at hf_
 rw [hf_]
 exact ⟨rfl,hm⟩
 refine go he hm fun a he =>?_
 refine hL4 _ _ _ (by subst hmu;omega) ⟨(i+1),((step s x13).2),rfl,he.pk,hm,?_⟩
 rw [hI5,z0a hx14];simp [z1k,hB19]
 refine Ret1 hQ he hm ?_
 have hf_:=hI5
 rw [z0g h7] at hf_
 simp only [z1k] at hf_
 rw [hf_]
 exact ⟨rfl,hm⟩
theorem containsFunc_Bs {Φ:Fz} {w:World} {σ:Type} {step:σ→Bs→Bool×σ} {Kf:σ→List Res} {g:Nat} {fs cs:List Value} {s0:σ} {v0:Value} {l:List Bs} (hl:SliceOf RStr Φ 1 v0 l)
  (hg:∀args w,(callFunc g args).run Tryz.prog w=.ok (.enter g args) w)
  (hf:∀s x c w,x∈l→RStr Φ c x→Mem Φ (Kf s) w→Calls Tryz.prog g (fs++[Value.string x]++cs).toArray w (fun e w'=>e=.returned (.bool (step s x).1)∧Mem Φ (Kf (step s x).2) w'))
  (hm:Mem Φ (Kf s0) w):Calls Tryz.prog 154 (List.toArray [v0,.func (.func g) fs.toArray cs.toArray]) w (fun e w'=>e=.returned (.bool (hitF step s0 l))∧Mem Φ (Kf (z1k step s0 l 0).2) w'):=by
 obtain ⟨p0,c0,rfl,hm0,hn0⟩:=hl.fm
 refine Calls.mono (R:=fun e w'=>e=.returned (.bool (decide (0≤(z1k step s0 l 0).1)))∧Mem Φ (Kf (z1k step s0 l 0).2) w') ?_ (fun e w' h=>by rw [z3s] at h;exact h)
 refine z0l func154 ntmps154 fun Q hQ a he =>?_
 refine z0y call194 he hm (fun w hm a he =>?_) (c:=indexFunc_Bs (Φ:=Φ) (step:=step) (Kf:=Kf) (s0:=s0) (l:=l) hl hg hf hm)
 refine Qq he hm (fun a he =>?_) (o:=by exact fun _ _ _ he hs=>y_geqD he rfl rfl)
 refine Ret1 hQ he hm ?_
 exact ⟨rfl,hm⟩
theorem anyFunc_Bs {p:Bs→Bool} {g:Nat} {fs cs:List Value} {v0:Value} {l:List Bs} (hl:SliceOf RStr Φ 1 v0 l)
  (hg:∀args w,(callFunc g args).run Tryz.prog w=.ok (.enter g args) w)
  (hf:∀x c w,x∈l→RStr Φ c x→Mem Φ K w→Calls Tryz.prog g (fs++[Value.string x]++cs).toArray w (fun e w'=>e=.returned (.bool (p x))∧Mem Φ K w'))
  (hm:Mem Φ K w):Calls Tryz.prog 154 (List.toArray [v0,.func (.func g) fs.toArray cs.toArray]) w (fun e w'=>e=.returned (.bool (l.any p))∧Mem Φ K w') :=
 (containsFunc_Bs (σ:=Unit) (step:=fun s x=>(p x,s)) (Kf:=fun _=>K) (s0:=()) hl hg (fun _ x c w hx hc hm=>hf x c w hx hc hm) hm).mono (fun e w' h=>by rw [z6x] at h;exact h)
end Go.Sw

namespace Go.Sw
open Go.Proofs.Tryz
open Go.Proofs
set_option maxRecDepth 20000
set_option maxHeartbeats 4000000
variable {Φ:Fz} {K:List Res} {w:World}
theorem deep1_ok {m:Nat} {d0:List Value} {e:Ex} {b:Nat} (rpe:REx Φ d0 e) (hmb:m < 100000) (ih:∀{Φ:Fz} {K:List Res} {w:World} {d:List Value} {e:Ex},REx Φ d e→Mem Φ K w→Calls Tryz.prog 82 (List.toArray [.agg d.toArray,.int .i64 ((m:Nat):Int)]) w (fun ee w'=>ee=.returned (.bool (z5i m e))∧Mem Φ K w')) (hm:Mem Φ (.blk b (ob [.int .i64 ((m+1:Nat):Int)] 3)::K) w) :
  Calls Tryz.prog 136 (List.toArray [.agg d0.toArray,.pointer (some ⟨b,0,none⟩)]) w (fun ee w'=>ee=.returned (.bool (z5i m e))∧Mem Φ (.blk b (ob [.int .i64 ((m+1:Nat):Int)] 3)::K) w'):=by
 obtain ⟨p3,c4,p9,c10,rfl,hi13,h2,h8,hm5,hn6,hm11,hn12⟩:=REx.fm rpe
 refine z0l func136 ntmps136 fun Q hQ a he =>?_
 refine Bx he hm fun b15 w hm a he =>?_
 refine Qq he hm (fun a he =>?_) (o:=by exact fun _ _ _ he hs=>z7h ((m:Nat):Int) he rfl rfl (by rw [z1d (by omega)];omega))
 refine z0y call82 he hm (fun w hm a he =>?_) (c:=ih rpe hm)
 refine go he hm fun a he =>?_
 replace hm:=hm.dl [0]
 refine Ret1 hQ he hm ?_
 exact z0v hm (by rfl)
theorem deep2_ok {m:Nat} {d0:List Value} {e:Arm} {b:Nat} (rpe:RArm Φ d0 e) (hmb:m < 100000) (ih:∀{Φ:Fz} {K:List Res} {w:World} {d:List Value} {e:Ex},REx Φ d e→Mem Φ K w→Calls Tryz.prog 82 (List.toArray [.agg d.toArray,.int .i64 ((m:Nat):Int)]) w (fun ee w'=>ee=.returned (.bool (z5i m e))∧Mem Φ K w')) (hm:Mem Φ (.blk b (ob [.int .i64 ((m+1:Nat):Int)] 3)::K) w) :
  Calls Tryz.prog 137 (List.toArray [.agg d0.toArray,.pointer (some ⟨b,0,none⟩)]) w (fun ee w'=>ee=.returned (.bool (z5i m e.body))∧Mem Φ (.blk b (ob [.int .i64 ((m+1:Nat):Int)] 3)::K) w'):=by
 obtain ⟨s1,b7,rfl,h2,h8⟩:=RArm.iff.1 rpe
 obtain ⟨p3,c4,rfl,hm5,hn6⟩:=h2.fm
 obtain ⟨p11,c12,p17,c18,rfl,hi21,h10,h16,hm13,hn14,hm19,hn20⟩:=REx.fm h8
 refine z0l func137 ntmps137 fun Q hQ a he =>?_
 refine Bx he hm fun b23 w hm a he =>?_
 refine Qq he hm (fun a he =>?_) (o:=by exact fun _ _ _ he hs=>z7h ((m:Nat):Int) he rfl rfl (by rw [z1d (by omega)];omega))
 refine z0y call82 he hm (fun w hm a he =>?_) (c:=ih h8 hm)
 refine go he hm fun a he =>?_
 replace hm:=hm.dl [0]
 refine Ret1 hQ he hm ?_
 exact z0v hm (by rfl)
theorem deep_zero {d0:List Value} {e:Ex} (rpe:REx Φ d0 e) (hm:Mem Φ K w) :
  Calls Tryz.prog 82 (List.toArray [.agg d0.toArray,.int .i64 ((0:Nat):Int)]) w (fun ee w'=>ee=.returned (.bool (z5i 0 e))∧Mem Φ K w'):=by
 obtain ⟨p3,c4,p9,c10,rfl,hi13,h2,h8,hm5,hn6,hm11,hn12⟩:=REx.fm rpe
 refine z0l func82 ntmps82 fun Q hQ a he =>?_
 refine Bx he hm fun b15 w hm a he =>?_
 refine Bx he hm fun b16 w hm a he =>?_
 refine Qq he hm (fun a he =>?_) (o:=by exact fun _ _ _ he hs=>z4t true he rfl rfl rfl)
 refine go he hm fun a he =>?_
 replace hm:=hm.dl [1,0]
 refine Ret1 hQ he hm ?_
 exact z0v hm (by rw [deepP_zero])
theorem deep_succ {d0:List Value} {e:Ex} {m:Nat} (rpe:REx Φ d0 e) (hmb:m < 100000) (ih:∀{Φ:Fz} {K:List Res} {w:World} {d:List Value} {e:Ex},REx Φ d e→Mem Φ K w→Calls Tryz.prog 82 (List.toArray [.agg d.toArray,.int .i64 ((m:Nat):Int)]) w (fun ee w'=>ee=.returned (.bool (z5i m e))∧Mem Φ K w')) (hm:Mem Φ K w) :
  Calls Tryz.prog 82 (List.toArray [.agg d0.toArray,.int .i64 ((m+1:Nat):Int)]) w (fun ee w'=>ee=.returned (.bool (z5i (m+1) e))∧Mem Φ K w'):=by
 obtain ⟨p3,c4,p9,c10,rfl,hi13,h2,h8,hm5,hn6,hm11,hn12⟩:=REx.fm rpe
 refine z0l func82 ntmps82 fun Q hQ a he =>?_
 refine Bx he hm fun b15 w hm a he =>?_
 refine Bx he hm fun b16 w hm a he =>?_
 refine go he hm fun a he =>?_
 by_cases h19:m+1=0
 refine go he hm fun a he =>?_
 replace hm:=hm.dl [1,0]
 refine Ret1 hQ he hm ?_
 exact z0v hm (by exact absurd h19 (by omega))
 refine z1n call115 he hm (fun hB22 w hm a he =>?_) (fun hB22 w hm a he =>?_) (c:=anyFunc_Ex (Φ:=Φ) (K:=.blk b16 (ob [.int .i64 ((m+1:Nat):Int)] 3)::.blk b15 (ob [.int .i64 (e.kind),.int .i64 (e.num),.string e.name,.slice p3 e.args.length c4,.slice p9 e.arms.length c10] 66)::K) (p:=z5i m) (fs:=[]) (cs:=[.pointer (some ⟨b16,0,none⟩)]) h2 call136 (fun x c w hx hc hm=>deep1_ok hc hmb ih hm) hm)
 refine go he hm fun a he =>?_
 replace hm:=hm.dl [1,0]
 refine Ret1 hQ he hm ?_
 exact z0v hm (by rw [deepP_succ];simp [*])
 refine z0y call116 he hm (fun w hm a he =>?_) (c:=anyFunc_Arm (Φ:=Φ) (K:=.blk b16 (ob [.int .i64 ((m+1:Nat):Int)] 3)::.blk b15 (ob [.int .i64 (e.kind),.int .i64 (e.num),.string e.name,.slice p3 e.args.length c4,.slice p9 e.arms.length c10] 66)::K) (p:=fun a=>z5i m a.body) (fs:=[]) (cs:=[.pointer (some ⟨b16,0,none⟩)]) h8 call137 (fun x c w hx hc hm=>deep2_ok hc hmb ih hm) hm)
 refine go he hm fun a he =>?_
 replace hm:=hm.dl [1,0]
 refine Ret1 hQ he hm ?_
 exact z0v hm (by rw [deepP_succ];simp [*])
end Go.Sw

namespace Go.Sw
open Go.Proofs
set_option maxRecDepth 20000
set_option maxHeartbeats 4000000
theorem measure_step {Φ:Fz} {K:List Res} {w:World} {left:Int} {d0:List Value} {e:Ex} {b:Nat} (rpe:REx Φ d0 e) (h0:0≤left) (h1:left≤1000000) (ih:∀x:Ex,x.sz < e.sz→∀{Φ:Fz} {K:List Res} {w:World} {d:List Value} {b:Nat} {left:Int},0≤left→left≤1000000→REx Φ d x→Mem Φ (.blk b (ob [.int .i64 left] 3)::K) w→Calls Tryz.prog 83 (List.toArray [.agg d.toArray,.pointer (some ⟨b,0,none⟩)]) w (fun ee w'=>ee=.returned (.bool (meas x left).1)∧Mem Φ (.blk b (ob [.int .i64 (meas x left).2] 3)::K) w')) (hm:Mem Φ (.blk b (ob [.int .i64 (left)] 3)::K) w) :
  Calls Tryz.prog 83 (List.toArray [.agg d0.toArray,.pointer (some ⟨b,0,none⟩)]) w (fun ee w'=>ee=.returned (.bool ((meas e left).1))∧Mem Φ (.blk b (ob [.int .i64 ((meas e left).2)] 3)::K) w'):=by
 obtain ⟨p3,c4,p9,c10,rfl,hi13,h2,h8,hm5,hn6,hm11,hn12⟩:=REx.fm rpe
 refine z0l Tryz.func83 Tryz.ntmps83 fun Q hQ a he =>?_
 refine Bx he hm fun b15 w hm a he =>?_
 refine Qq he hm (fun a he =>?_) (o:=by exact fun _ _ _ he hs=>z7h (left - 1) he rfl rfl (by rw [z1d (by omega)]))
 refine Sto 1 he hm fun w hm a he =>?_
 refine go he hm fun a he =>?_
 by_cases h19:left - 1 < 0
 refine go he hm fun a he =>?_
 replace hm:=hm.dl [0]
 refine Ret1 hQ he hm ?_
 have hr_:meas e left=(true,left - 1):=by rw [meas_eq,if_pos h19]
 show _∧_;rw [hr_];exact ⟨rfl,hm⟩
 refine go he hm fun a he =>?_
 refine z1i (he.ks [1,2,19,20]) hm (fun R mm a w=>∃(i:Nat) (q:Int),mm=e.args.length - i∧R Φ [(21,.int .i64 ((i:Nat):Int))] [(1,.blk b (ob [.int .i64 (q)] 3))] a w∧(0≤q∧q≤1000000∧meas e left=measThen e.arms (meass (e.args.drop i) q))) (e.args.length - 0) ⟨0,left - 1,rfl,⟨he.pk,hm⟩,by refine ⟨by omega,by omega,?_⟩;rw [meas_eq,if_neg (by omega)];rfl⟩ ?_
 clear hm he
 rintro mm a w ⟨i,q,hmu,⟨he,hm⟩,hI24⟩ L23 hL23
 replace hm:=hm.nf
 obtain ⟨hq0,hq1,hq2⟩:=hI24
 refine go he hm fun a he =>?_
 by_cases h26:i < e.args.length
 refine go he hm fun a he =>?_
 obtain ⟨q30,rfl,x31,hx32,cs33,hl34,ha35,hr36⟩:=h2.el hn6 h26
 obtain ⟨p39,c40,p45,c46,rfl,hi49,h38,h44,hm41,hn42,hm47,hn48⟩:=REx.fm hr36
 refine Alc he hm fun b50 w hm a he =>?_
 refine Sto 0 he hm fun w hm a he =>?_
 replace hm:=hm.pl 2
 refine z1n Tryz.call83 he hm (fun hB52 w hm a he =>?_) (fun hB52 w hm a he =>?_) (c:=ih _ (by first | exact Ex.lt_args (List.mem_of_getElem? hx32) | exact Ex.lt_arms (List.mem_of_getElem? hx32)) (by omega) (by omega) hr36 hm)
 refine go he hm fun a he =>?_
 replace hm:=hm.dl [2,1]
 refine Ret1 hQ he hm ?_
 have hr_:meas e left=(true,(meas x31 q).2):=by rw [hq2,z0a hx32,meass_cons,hB52];rfl
 show _∧_;rw [hr_];exact ⟨rfl,hm⟩
 refine go he hm fun a he =>?_
 replace hm:=hm.ar [1] [1]
 refine hL23 _ _ _ (by subst hmu;omega) ⟨(i+1),((meas x31 q).2),rfl,⟨he.pk,hm⟩,?_⟩
 have hle:=z4n x31 q hB52
 refine ⟨hle.1,by omega,?_⟩
 rw [hq2,z0a hx32,meass_cons,hB52];rfl
 refine go he hm fun a he =>?_
 refine z1i (he.ks [1,30,31]) hm (fun R mm a w=>∃(i:Nat) (q:Int),mm=e.arms.length - i∧R Φ [(32,.int .i64 ((i:Nat):Int))] [(1,.blk b (ob [.int .i64 (q)] 3))] a w∧(0≤q∧q≤1000000∧meas e left=measa (e.arms.drop i) q)) (e.arms.length - 0) ⟨0,q,rfl,⟨he.pk,hm⟩,by refine ⟨hq0,hq1,?_⟩;rw [hq2,z0g h26];rfl⟩ ?_
 clear hm he
 rintro mm a w ⟨i,q,hmu,⟨he,hm⟩,hI58⟩ L57 hL57
 replace hm:=hm.nf
 clear hq0 hq1 hq2
 obtain ⟨hq0,hq1,hq2⟩:=hI58
 refine go he hm fun a he =>?_
 by_cases h60:i < e.arms.length
 refine go he hm fun a he =>?_
 obtain ⟨q64,rfl,x65,hx66,cs67,hl68,ha69,hr70⟩:=h8.el hn12 h60
 obtain ⟨s71,b77,rfl,h72,h78⟩:=RArm.iff.1 hr70
 obtain ⟨p73,c74,rfl,hm75,hn76⟩:=h72.fm
 obtain ⟨p81,c82,p87,c88,rfl,hi91,h80,h86,hm83,hn84,hm89,hn90⟩:=REx.fm h78
 refine Alc he hm fun b92 w hm a he =>?_
 refine Sto 0 he hm fun w hm a he =>?_
 refine go he hm fun a he =>?_
 by_cases h94:16 < x65.vars.length
 refine go he hm fun a he =>?_
 replace hm:=hm.dl [1,0]
 refine Ret1 hQ he hm ?_
 have hr_:meas e left=(true,q):=by rw [hq2,z0a hx66,z9x,if_pos h94]
 show _∧_;rw [hr_];exact ⟨rfl,hm⟩
 replace hm:=hm.pl 2
 refine z1n Tryz.call83 he hm (fun hB96 w hm a he =>?_) (fun hB96 w hm a he =>?_) (c:=ih _ (by first | exact Ex.lt_args (List.mem_of_getElem? hx66) | exact Ex.lt_arms (List.mem_of_getElem? hx66)) (by omega) (by omega) h78 hm)
 refine go he hm fun a he =>?_
 replace hm:=hm.dl [2,1]
 refine Ret1 hQ he hm ?_
 have hr_:meas e left=(true,(meas x65.body q).2):=by rw [hq2,z0a hx66,z9x,if_neg h94,hB96];rfl
 show _∧_;rw [hr_];exact ⟨rfl,hm⟩
 refine go he hm fun a he =>?_
 replace hm:=hm.ar [1] [1]
 refine hL57 _ _ _ (by subst hmu;omega) ⟨(i+1),((meas x65.body q).2),rfl,⟨he.pk,hm⟩,?_⟩
 have hle:=z4n x65.body q hB96
 refine ⟨hle.1,by omega,?_⟩
 rw [hq2,z0a hx66,z9x,if_neg h94,hB96];rfl
 refine go he hm fun a he =>?_
 replace hm:=hm.dl [0]
 refine Ret1 hQ he hm ?_
 have hr_:meas e left=(false,q):=by rw [hq2,z0g h60];rfl
 show _∧_;rw [hr_];exact ⟨rfl,hm⟩
theorem measure_ok {Φ:Fz} {K:List Res} {w:World} {d:List Value} {e:Ex} {b:Nat} {left:Int} (h0:0≤left) (h1:left≤1000000) (re:REx Φ d e) (hm:Mem Φ (.blk b (ob [.int .i64 left] 3)::K) w) :
  Calls Tryz.prog 83 (List.toArray [.agg d.toArray,.pointer (some ⟨b,0,none⟩)]) w (fun ee w'=>ee=.returned (.bool (meas e left).1)∧Mem Φ (.blk b (ob [.int .i64 (meas e left).2] 3)::K) w'):=by
 suffices H:∀n (e:Ex),e.sz < n→∀{Φ:Fz} {K:List Res} {w:World} {d:List Value} {b:Nat} {left:Int},0≤left→left≤1000000→REx Φ d e→Mem Φ (.blk b (ob [.int .i64 left] 3)::K) w→Calls Tryz.prog 83 (List.toArray [.agg d.toArray,.pointer (some ⟨b,0,none⟩)]) w (fun ee w'=>ee=.returned (.bool (meas e left).1)∧Mem Φ (.blk b (ob [.int .i64 (meas e left).2] 3)::K) w') from H _ e (Nat.lt_succ_self _) h0 h1 re hm
 intro n
 induction n with
 | zero=>intro e h;omega
 | succ n ih=>intro e h Φ K w d b left h0 h1 re hm;exact measure_step re h0 h1 (fun x hx _ _ _ _ _ _ g0 g1 r m=>ih x (by omega) g0 g1 r m) hm
end Go.Sw

namespace Go.Sw
open Go.Proofs.Tryz
open Go.Proofs
set_option maxRecDepth 20000
set_option maxHeartbeats 4000000
variable {Φ:Fz} {K:List Res} {w:World}
theorem reads1_ok {e:Ex} {d0:List Value} {ar:Arm} (rpar:RArm Φ d0 ar) (hs:ar.body.sz < e.sz) (ih:∀x:Ex,x.sz < e.sz→∀{Φ:Fz} {K:List Res} {w:World} {d:List Value},REx Φ d x→Mem Φ K w→Calls Tryz.prog 63 (List.toArray [.agg d.toArray]) w (fun ee w'=>ee=.returned (.bool (z3u x))∧Mem Φ K w')) (hm:Mem Φ K w) :
  Calls Tryz.prog 117 (List.toArray [.agg d0.toArray]) w (fun ee w'=>ee=.returned (.bool (z3u ar.body))∧Mem Φ K w'):=by
 obtain ⟨s1,b7,rfl,h2,h8⟩:=RArm.iff.1 rpar
 obtain ⟨p3,c4,rfl,hm5,hn6⟩:=h2.fm
 obtain ⟨p11,c12,p17,c18,rfl,hi21,h10,h16,hm13,hn14,hm19,hn20⟩:=REx.fm h8
 refine z0l func117 ntmps117 fun Q hQ a he =>?_
 refine Bx he hm fun b23 w hm a he =>?_
 refine z0y call63 he hm (fun w hm a he =>?_) (c:=ih _ hs (by assumption) hm)
 refine go he hm fun a he =>?_
 replace hm:=hm.dl [0]
 refine Ret1 hQ he hm ?_
 exact z0v hm (by rfl)
theorem reads_step {d0:List Value} {e:Ex} (rpe:REx Φ d0 e) (ih:∀x:Ex,x.sz < e.sz→∀{Φ:Fz} {K:List Res} {w:World} {d:List Value},REx Φ d x→Mem Φ K w→Calls Tryz.prog 63 (List.toArray [.agg d.toArray]) w (fun ee w'=>ee=.returned (.bool (z3u x))∧Mem Φ K w')) (hm:Mem Φ K w) :
  Calls Tryz.prog 63 (List.toArray [.agg d0.toArray]) w (fun ee w'=>ee=.returned (.bool (z3u e))∧Mem Φ K w'):=by
 obtain ⟨p3,c4,p9,c10,rfl,hi13,h2,h8,hm5,hn6,hm11,hn12⟩:=REx.fm rpe
 refine z0l func63 ntmps63 fun Q hQ a he =>?_
 refine Bx he hm fun b15 w hm a he =>?_
 refine go he hm fun a he =>?_
 by_cases h17:e.kind=3
 refine go he hm fun a he =>?_
 replace hm:=hm.dl [0]
 refine Ret1 hQ he hm ?_
 exact z0v hm (by rw [z8j];simp [*])
 refine z1n call115 he hm (fun hB18 w hm a he =>?_) (fun hB18 w hm a he =>?_) (c:=anyFunc_Ex (Φ:=Φ) (K:=.blk b15 (ob [.int .i64 (e.kind),.int .i64 (e.num),.string e.name,.slice p3 e.args.length c4,.slice p9 e.arms.length c10] 66)::K) (p:=z3u) (fs:=[]) (cs:=[]) h2 call63 (fun x c w hx hc hm=>ih x (Ex.lt_args hx) hc hm) hm)
 refine go he hm fun a he =>?_
 replace hm:=hm.dl [0]
 refine Ret1 hQ he hm ?_
 exact z0v hm (by rw [z8j];simp [*])
 refine z0y call116 he hm (fun w hm a he =>?_) (c:=anyFunc_Arm (Φ:=Φ) (K:=.blk b15 (ob [.int .i64 (e.kind),.int .i64 (e.num),.string e.name,.slice p3 e.args.length c4,.slice p9 e.arms.length c10] 66)::K) (p:=fun a=>z3u a.body) (fs:=[]) (cs:=[]) h8 call117 (fun x c w hx hc hm=>reads1_ok hc (Ex.lt_arms hx) ih hm) hm)
 refine go he hm fun a he =>?_
 replace hm:=hm.dl [0]
 refine Ret1 hQ he hm ?_
 exact z0v hm (by rw [z8j];simp [*])
theorem reads_ok {d:List Value} {e:Ex} (re:REx Φ d e) (hm:Mem Φ K w) :
  Calls Tryz.prog 63 (List.toArray [.agg d.toArray]) w (fun ee w'=>ee=.returned (.bool (z3u e))∧Mem Φ K w'):=by
 suffices H:∀n (e:Ex),e.sz < n→∀{Φ:Fz} {K:List Res} {w:World} {d:List Value},REx Φ d e→Mem Φ K w→Calls Tryz.prog 63 (List.toArray [.agg d.toArray]) w (fun ee w'=>ee=.returned (.bool (z3u e))∧Mem Φ K w') from H _ e (Nat.lt_succ_self _) re hm
 intro n
 induction n with
 | zero=>intro e h;omega
 | succ n ih=>intro e h Φ K w d re hm;exact reads_step re (fun x hx _ _ _ _ r m=>ih x (by omega) r m) hm
theorem deep_ok {m:Nat} (hmb:m < 100000):∀{Φ:Fz} {K:List Res} {w:World} {d:List Value} {e:Ex},REx Φ d e→Mem Φ K w→Calls Tryz.prog 82 (List.toArray [.agg d.toArray,.int .i64 ((m:Nat):Int)]) w (fun ee w'=>ee=.returned (.bool (z5i m e))∧Mem Φ K w'):=by
 induction m with
 | zero=>intro Φ K w d e re hm;exact deep_zero re hm
 | succ m ih=>intro Φ K w d e re hm;exact deep_succ re (by omega) (fun r h=>ih (by omega) r h) hm
theorem look1_ok {d0:List Value} {f:Fun} (rpf:RFun Φ d0 f) (hm:Mem Φ K w) :
  Calls Tryz.prog 97 (List.toArray [.agg d0.toArray]) w (fun ee w'=>ee=.returned (.bool (z5i 250 f.body))∧Mem Φ K w'):=by
 obtain ⟨s1,b7,rfl,h2,h8⟩:=id rpf
 obtain ⟨p3,c4,rfl,hm5,hn6⟩:=h2.fm
 obtain ⟨p11,c12,p17,c18,rfl,hi21,h10,h16,hm13,hn14,hm19,hn20⟩:=REx.fm h8
 refine z0l func97 ntmps97 fun Q hQ a he =>?_
 refine Bx he hm fun b23 w hm a he =>?_
 refine z0y call82 he hm (fun w hm a he =>?_) (c:=deep_ok (m:=250) (by omega) h8 hm)
 refine go he hm fun a he =>?_
 replace hm:=hm.dl [0]
 refine Ret1 hQ he hm ?_
 exact z0v hm (by rfl)
theorem long1_ok {d0:List Value} {x:Con} (rpx:RCon Φ d0 x) (hm:Mem Φ K w) :
  Calls Tryz.prog 152 (List.toArray [.agg d0.toArray]) w (fun ee w'=>ee=.returned (.bool (decide (16 < x.fields.length)))∧Mem Φ K w'):=by
 obtain ⟨s1,rfl,h2⟩:=id rpx
 obtain ⟨p3,c4,rfl,hm5,hn6⟩:=h2.fm
 refine z0l func152 ntmps152 fun Q hQ a he =>?_
 refine Bx he hm fun b8 w hm a he =>?_
 refine Qq he hm (fun a he =>?_) (o:=by exact fun _ _ _ he hs=>y_gtrN (i:=x.fields.length) (j:=16) he rfl rfl)
 refine go he hm fun a he =>?_
 replace hm:=hm.dl [0]
 refine Ret1 hQ he hm ?_
 exact z0v hm (by exact decide_eq_decide.2 (by omega))
end Go.Sw

namespace Go.Sw
open Go.Proofs
set_option maxRecDepth 20000
set_option maxHeartbeats 4000000
theorem longX_ok {Φ:Fz} {K:List Res} {w:World} {d0:List Value} {c:Core} {vx:Value} (rpc:RCoreX Φ d0 c vx) (hm:Mem Φ K w) :
  Calls Tryz.prog 98 (List.toArray [.agg d0.toArray]) w (fun ee w'=>ee=.returned (.bool (z4y c))∧Mem Φ K w'):=by
 obtain ⟨s1,s2,s3,q4,cc5,rfl,rfl,h6,h7,h8⟩:=id rpc
 obtain ⟨p9,c10,rfl,hm11,hn12⟩:=h6.fm
 obtain ⟨p13,c14,rfl,hm15,hn16⟩:=h7.fm
 obtain ⟨p17,c18,rfl,hm19,hn20⟩:=h8.fm
 refine z0l Tryz.func98 Tryz.ntmps98 fun Q hQ a he =>?_
 refine Bx he hm fun b22 w hm a he =>?_
 refine go he hm fun a he =>?_
 by_cases h25:60 < c.datas.length
 refine go he hm fun a he =>?_
 replace hm:=hm.dl [0]
 refine Ret1 hQ he hm ?_
 exact z0v hm (by simp [z4y,h25])
 refine go he hm fun a he =>?_
 by_cases h27:6 < c.inputs.length
 refine go he hm fun a he =>?_
 replace hm:=hm.dl [0]
 refine Ret1 hQ he hm ?_
 exact z0v hm (by simp [z4y,h27])
 refine go he hm fun a he =>?_
 by_cases h29:300 < c.funs.length
 refine go he hm fun a he =>?_
 replace hm:=hm.dl [0]
 refine Ret1 hQ he hm ?_
 exact z0v hm (by simp [z4y,h29])
 refine go he hm fun a he =>?_
 by_cases h31:6 < c.outputs.length
 refine go he hm fun a he =>?_
 replace hm:=hm.dl [0]
 refine Ret1 hQ he hm ?_
 exact z0v hm (by simp [z4y,h31])
 refine go he hm fun a he =>?_
 refine z1i (he.ks [1,31,32]) hm (fun R mm a w=>∃(i:Nat),mm=c.datas.length - i∧R Φ [(33,.int .i64 ((i:Nat):Int))] [] a w∧(z4y c=((c.datas.drop i).any longD || measF c.funs 6000))) (c.datas.length - 0) ⟨0,rfl,⟨he.pk,hm⟩,by simp [z4y, *]⟩ ?_
 clear hm he
 rintro mm a w ⟨i,hmu,⟨he,hm⟩,hI36⟩ L35 hL35
 refine go he hm fun a he =>?_
 by_cases h38:i < c.datas.length
 refine go he hm fun a he =>?_
 obtain ⟨q42,rfl,x43,hx44,cs45,hl46,ha47,hr48⟩:=h6.el hn12 h38
 obtain ⟨s49,rfl,h50⟩:=id hr48
 obtain ⟨p51,c52,rfl,hm53,hn54⟩:=h50.fm
 refine Alc he hm fun b55 w hm a he =>?_
 refine Sto 0 he hm fun w hm a he =>?_
 refine go he hm fun a he =>?_
 by_cases h57:16 < x43.cons.length
 refine go he hm fun a he =>?_
 replace hm:=hm.dl [1,0]
 refine Ret1 hQ he hm ?_
 exact z0v hm (by rw [hI36,z0a hx44];simp [longD, *])
 refine z1n Tryz.call151 he hm (fun hB59 w hm a he =>?_) (fun hB59 w hm a he =>?_) (c:=anyFunc_Con (Φ:=Φ) (K:=.blk b55 (ob [.string x43.name,.slice p51 x43.cons.length c52] 133)::.blk b22 (ob [.slice (some q42) c.datas.length c10,.slice p13 c.inputs.length c14,.slice p17 c.funs.length c18,.slice q4 c.outputs.length cc5] 27)::K) (p:=fun x=>decide (16 < x.fields.length)) (fs:=[]) (cs:=[]) h50 Tryz.call152 (fun x c w hx hc hm=>long1_ok hc hm) hm)
 refine go he hm fun a he =>?_
 replace hm:=hm.dl [1,0]
 refine Ret1 hQ he hm ?_
 exact z0v hm (by rw [hI36,z0a hx44];simp [longD, *])
 refine go he hm fun a he =>?_
 replace hm:=hm.dl [0]
 refine hL35 _ _ _ (by subst hmu;omega) ⟨(i+1),rfl,⟨he.pk,hm⟩,?_⟩
 rw [hI36,z0a hx44];simp [longD, *]
 refine Alc he hm fun b63 w hm a he =>?_
 refine Sto 0 he hm fun w hm a he =>?_
 refine go he hm fun a he =>?_
 refine z1i (he.ks [5,48,49]) hm (fun R mm a w=>∃(i:Nat) (q:Int),mm=c.funs.length - i∧R Φ [(50,.int .i64 ((i:Nat):Int))] [(0,.blk b63 (ob [.int .i64 (q)] 3))] a w∧(0≤q∧q≤1000000∧z4y c=measF (c.funs.drop i) q)) (c.funs.length - 0) ⟨0,6000,rfl,⟨he.pk,hm⟩,by refine ⟨by omega,by omega,?_⟩;rw [hI36,z0g h38];rfl⟩ ?_
 clear hm he
 rintro mm a w ⟨i,q,hmu,⟨he,hm⟩,hI67⟩ L66 hL66
 replace hm:=hm.nf
 obtain ⟨hq0,hq1,hq2⟩:=hI67
 refine go he hm fun a he =>?_
 by_cases h69:i < c.funs.length
 refine go he hm fun a he =>?_
 obtain ⟨q73,rfl,x74,hx75,cs76,hl77,ha78,hr79⟩:=h8.el hn20 h69
 obtain ⟨s80,b86,rfl,h81,h87⟩:=id hr79
 obtain ⟨p82,c83,rfl,hm84,hn85⟩:=h81.fm
 obtain ⟨p90,c91,p96,c97,rfl,hi100,h89,h95,hm92,hn93,hm98,hn99⟩:=REx.fm h87
 refine Alc he hm fun b101 w hm a he =>?_
 refine Sto 0 he hm fun w hm a he =>?_
 refine go he hm fun a he =>?_
 by_cases h103:16 < x74.params.length
 refine go he hm fun a he =>?_
 replace hm:=hm.dl [2,1,0]
 refine Ret1 hQ he hm ?_
 exact z0v hm (by rw [hq2,z0a hx75];simp [measF, *])
 replace hm:=hm.pl 1
 refine z1n Tryz.call83 he hm (fun hB105 w hm a he =>?_) (fun hB105 w hm a he =>?_) (c:=measure_ok (by omega) (by omega) h87 hm)
 refine go he hm fun a he =>?_
 replace hm:=hm.dl [2,1,0]
 refine Ret1 hQ he hm ?_
 exact z0v hm (by rw [hq2,z0a hx75];simp [measF, *])
 refine go he hm fun a he =>?_
 replace hm:=hm.dl [1]
 refine hL66 _ _ _ (by subst hmu;omega) ⟨(i+1),((meas x74.body q).2),rfl,⟨he.pk,hm⟩,?_⟩
 have hle:=z4n x74.body q hB105
 refine ⟨hle.1,by omega,?_⟩
 rw [hq2,z0a hx75];simp [measF, *]
 refine go he hm fun a he =>?_
 replace hm:=hm.dl [1,0]
 refine Ret1 hQ he hm ?_
 exact z0v hm (by rw [hq2,z0g h69];rfl)
end Go.Sw

namespace Go.Sw
open Go.Proofs.Tryz
open Go.Proofs
set_option maxRecDepth 20000
set_option maxHeartbeats 4000000
theorem inputType1_ok {Φ:Fz} {K:List Res} {w:World} {name:Bs} {s:Bs} {b:Nat}  (hm:Mem Φ (.blk b (ob [.string name] 9)::K) w) :
  Calls Tryz.prog 166 (List.toArray [.string s,.pointer (some ⟨b,0,none⟩)]) w (fun ee w'=>ee=.returned (.bool (inF name s))∧Mem Φ (.blk b (ob [.string name] 9)::K) w'):=by
 refine z0l func166 ntmps166 fun Q hQ a he =>?_
 refine go he hm fun a he =>?_
 by_cases h3:s=(⟨#[73,110,116]⟩:ByteArray)
 refine Ret1 hQ he hm ?_
 exact z0v hm (by simp [inF,sInt, *])
 refine Qq he hm (fun a he =>?_) (o:=by exact fun _ _ _ he hs=>y_sneqD he rfl rfl)
 refine Ret1 hQ he hm ?_
 exact z0v hm (by simp [inF,sInt, *])
theorem inputType_ok {Φ:Fz} {K:List Res} {w:World} {v0:Value} {ds:List Data} {name:Bs} (rpds:SliceOf RData Φ 2 v0 ds) (hm:Mem Φ K w) :
  Calls Tryz.prog 114 (List.toArray [v0,.string name]) w (fun ee w'=>ee=.returned (.bool (z2p ds name))∧Mem Φ K w'):=by
 obtain ⟨p0,c0,rfl,hm0,hn0⟩:=rpds.fm
 refine z0l func114 ntmps114 fun Q hQ a he =>?_
 refine Bx he hm fun b2 w hm a he =>?_
 refine go he hm fun a he =>?_
 by_cases h5:name=(⟨#[73,110,116]⟩:ByteArray)
 refine go he hm fun a he =>?_
 replace hm:=hm.dl [0]
 refine Ret1 hQ he hm ?_
 exact z0v hm (by simp [z2p,sInt,h5])
 refine go he hm fun a he =>?_
 refine z1i (he.ks [3,13,14]) hm (fun R mm a w=>∃(i:Nat) (nn:Int) (o:Bool),mm=ds.length - i∧R Φ [(5,.int .i64 (nn)),(6,.bool o),(15,.int .i64 ((i:Nat):Int))] [] a w∧(z7f name ds 0 true=z7f name (ds.drop i) nn o)) (ds.length - 0) ⟨0,0,true,rfl,⟨he.pk,hm⟩,rfl⟩ ?_
 clear hm he
 rintro mm a w ⟨i,nn,o,hmu,⟨he,hm⟩,hI12⟩ L11 hL11
 refine go he hm fun a he =>?_
 by_cases h14:i < ds.length
 refine go he hm fun a he =>?_
 obtain ⟨q18,rfl,x19,hx20,cs21,hl22,ha23,hr24⟩:=rpds.el hn0 h14
 obtain ⟨s25,rfl,h26⟩:=id hr24
 obtain ⟨p27,c28,rfl,hm29,hn30⟩:=h26.fm
 refine Alc he hm fun b31 w hm a he =>?_
 refine Sto 0 he hm fun w hm a he =>?_
 refine go he hm fun a he =>?_
 by_cases h34:x19.name=name
 refine Qq he hm (fun a he =>?_) (o:=by exact fun _ _ _ he hs=>y_add _ he rfl rfl rfl)
 refine go he hm fun a he =>?_
 refine z1i (he.ks [3,5,13,14,15,26,27]) hm (fun R mm a w=>∃(k:Nat) (q:Bool),mm=x19.cons.length - k∧R Φ [(6,.bool q),(28,.int .i64 ((k:Nat):Int))] [] a w∧(inCons name x19.cons o=inCons name (x19.cons.drop k) q)) (x19.cons.length - 0) ⟨0,o,rfl,⟨he.pk,hm⟩,rfl⟩ ?_
 clear hm he
 rintro mm a w ⟨k,q,hmu,⟨he,hm⟩,hI38⟩ L37 hL37
 refine go he hm fun a he =>?_
 by_cases h40:k < x19.cons.length
 refine go he hm fun a he =>?_
 obtain ⟨q44,rfl,x45,hx46,cs47,hl48,ha49,hr50⟩:=h26.el hn30 h40
 obtain ⟨s51,rfl,h52⟩:=id hr50
 obtain ⟨p53,c54,rfl,hm55,hn56⟩:=h52.fm
 refine Alc he hm fun b57 w hm a he =>?_
 refine Sto 0 he hm fun w hm a he =>?_
 refine go he hm fun a he =>?_
 cases q
 refine go he hm fun a he =>?_
 replace hm:=hm.dl [0]
 refine hL37 _ _ _ (by subst hmu;omega) ⟨(k+1),(false),rfl,⟨he.pk,hm⟩,?_⟩
 rw [hI38,z0a hx46];simp [inCons, *]
 replace hm:=hm.pl 2
 refine z1n call154 he hm (fun hB58 w hm a he =>?_) (fun hB58 w hm a he =>?_) (c:=anyFunc_Bs (Φ:=Φ) (K:=.blk b2 (ob [.string name] 9)::.blk b57 (ob [.string x45.name,.slice p53 x45.fields.length c54] 135)::.blk b31 (ob [.string x19.name,.slice (some q44) x19.cons.length c28] 133)::K) (p:=inF name) (fs:=[]) (cs:=[.pointer (some ⟨b2,0,none⟩)]) h52 call166 (fun x c w hx hc hm=>inputType1_ok hm) hm)
 refine go he hm fun a he =>?_
 replace hm:=hm.ar [1] [1]
 refine hL37 _ _ _ (by subst hmu;omega) ⟨(k+1),(false),rfl,⟨he.pk,hm⟩,?_⟩
 rw [hI38,z0a hx46];simp [inCons, *]
 refine go he hm fun a he =>?_
 replace hm:=hm.ar [1] [1]
 refine hL37 _ _ _ (by subst hmu;omega) ⟨(k+1),(true),rfl,⟨he.pk,hm⟩,?_⟩
 rw [hI38,z0a hx46];simp [inCons, *]
 refine go he hm fun a he =>?_
 replace hm:=hm.dl [0]
 refine hL11 _ _ _ (by subst hmu;omega) ⟨(i+1),(IntKind.i64.wrap (nn+1)),(q),rfl,⟨he.pk,hm⟩,?_⟩
 rw [hI12,z0a hx20];simp [z0g,z7f,inCons, *]
 refine go he hm fun a he =>?_
 replace hm:=hm.dl [0]
 refine hL11 _ _ _ (by subst hmu;omega) ⟨(i+1),(nn),(o),rfl,⟨he.pk,hm⟩,?_⟩
 rw [hI12,z0a hx20];simp [z0g,z7f,inCons, *]
 refine go he hm fun a he =>?_
 by_cases h62:nn=1
 refine go he hm fun a he =>?_
 replace hm:=hm.dl [0]
 refine Ret1 hQ he hm ?_
 exact z0v hm (by rw [z0g h14] at hI12;simp [z2p,sInt,z7f, *])
 refine go he hm fun a he =>?_
 replace hm:=hm.dl [0]
 refine Ret1 hQ he hm ?_
 exact z0v hm (by rw [z0g h14] at hI12;simp [z2p,sInt,z7f, *])
end Go.Sw

namespace Go.Sw
open Go.Proofs.Tryz
open Go.Proofs
set_option maxRecDepth 20000
set_option maxHeartbeats 4000000
theorem binders_step {Φ:Fz} {K:List Res} {w:World} {l:List Bs} {d0:List Value} {e:Ex} {v:Value} (rpe:REx Φ d0 e) (hb:l.length+(z0n e).length≤8796093000000) (ih:∀x:Ex,x.sz < e.sz→∀{Φ:Fz} {K:List Res} {w:World} {d:List Value} {v:Value} {l:List Bs},l.length+(z0n x).length≤8796093000000→REx Φ d x→Mem Φ (.gs v 9 1 (strs l)::K) w→Calls Tryz.prog 85 (List.toArray [.agg d.toArray,v]) w (fun ee w'=>∃v,ee=.returned v∧Mem Φ (.gs v 9 1 (strs (l++z0n x))::K) w')) (hm:Mem Φ (.gs v 9 1 (strs l)::K) w) :
  Calls Tryz.prog 85 (List.toArray [.agg d0.toArray,v]) w (fun ee w'=>∃v,ee=.returned v∧Mem Φ (.gs v 9 1 (strs (l++z0n e))::K) w'):=by
 obtain ⟨p3,c4,p9,c10,rfl,hi13,h2,h8,hm5,hn6,hm11,hn12⟩:=REx.fm rpe
 refine z0l func85 ntmps85 fun Q hQ a he =>?_
 refine Bx he hm fun b15 w hm a he =>?_
 refine go he hm fun a he =>?_
 by_cases h18:e.kind=6
 refine BldS he hm fun v19 w hm a he =>?_
 refine App_ 2 z9k he hm (fun v20 w hm a he =>?_) (hb:=by simp [z1m];omega)
 first | rw [z2u] at hm | rw [← z1l] at hm
 refine go he hm fun a he =>?_
 refine z8x (fun mm a w=>∃(i:Nat) (u:Value) (m:List Bs),mm=e.args.length - i∧EnvR 44 [(1,u),(2,.pointer (some ⟨b15,0,none⟩)),(18,.slice p3 e.args.length c4),(19,.int .i64 ((e.args.length:Nat):Int)),(20,.int .i64 ((i:Nat):Int))] [] a∧Mem Φ (.gs (v19) 9 1 [.string e.name]::.blk b15 (ob [.int .i64 (e.kind),.int .i64 (e.num),.string e.name,.slice p3 e.args.length c4,.slice p9 e.arms.length c10] 66)::.gs (u) 9 1 (strs m)::K) w∧(l++z0n e=m++bindPs (e.args.drop i)++bindPa e.arms)) (e.args.length - 0) ⟨0,v20,(l++[e.name]),rfl,he.pk,hm,by rw [z6u];simp [*]⟩ ?_
 clear hm he
 rintro mm a w ⟨i,u,m,hmu,he,hm,hI24⟩ L23 hL23
 refine go he hm fun a he =>?_
 by_cases h26:i < e.args.length
 refine go he hm fun a he =>?_
 obtain ⟨q30,rfl,x31,hx32,cs33,hl34,ha35,hr36⟩:=h2.el hn6 h26
 obtain ⟨p39,c40,p45,c46,rfl,hi49,h38,h44,hm41,hn42,hm47,hn48⟩:=REx.fm hr36
 refine Alc he hm fun b50 w hm a he =>?_
 refine Sto 0 he hm fun w hm a he =>?_
 refine go he hm fun a he =>?_
 replace hm:=hm.pl 3
 refine st he rfl rfl rfl (z4d he rfl call85 (ih _ (by first | exact Ex.lt_args (List.mem_of_getElem? hx32) | exact Ex.lt_arms (List.mem_of_getElem? hx32)) (l:=m) (by have hq:=congrArg List.length hI24;rw [z0a hx32] at hq;simp only [bindPs,z1j,List.length_append] at hq hb ⊢;omega) hr36 hm) fun v51 w hm a he =>?_)
 replace hm:=hm.nf
 refine go he hm fun a he =>?_
 replace hm:=hm.ar [1] [2,2]
 refine hL23 _ _ _ (by subst hmu;omega) ⟨(i+1),(v51),((m++z0n x31)),rfl,he.pk,hm,?_⟩
 rw [hI24,z0a hx32];simp [bindPs]
 refine go he hm fun a he =>?_
 refine z8x (fun mm a w=>∃(j:Nat) (u2:Value) (m2:List Bs),mm=e.arms.length - j∧EnvR 44 [(1,u2),(29,.slice p9 e.arms.length c10),(30,.int .i64 ((e.arms.length:Nat):Int)),(31,.int .i64 ((j:Nat):Int))] [] a∧Mem Φ (.gs (v19) 9 1 [.string e.name]::.blk b15 (ob [.int .i64 (e.kind),.int .i64 (e.num),.string e.name,.slice p3 e.args.length c4,.slice p9 e.arms.length c10] 66)::.gs (u2) 9 1 (strs m2)::K) w∧(l++z0n e=m2++bindPa (e.arms.drop j))) (e.arms.length - 0) ⟨0,u,m,rfl,he.pk,hm,by rw [hI24,z0g h26];simp [bindPs]⟩ ?_
 clear hm he
 rintro mm a w ⟨j,u2,m2,hmu,he,hm,hI56⟩ L55 hL55
 refine go he hm fun a he =>?_
 by_cases h58:j < e.arms.length
 refine go he hm fun a he =>?_
 obtain ⟨q62,rfl,x63,hx64,cs65,hl66,ha67,hr68⟩:=h8.el hn12 h58
 obtain ⟨s69,b75,rfl,h70,h76⟩:=RArm.iff.1 hr68
 obtain ⟨p71,c72,rfl,hm73,hn74⟩:=h70.fm
 obtain ⟨p79,c80,p85,c86,rfl,hi89,h78,h84,hm81,hn82,hm87,hn88⟩:=REx.fm h76
 refine Alc he hm fun b90 w hm a he =>?_
 refine Sto 0 he hm fun w hm a he =>?_
 refine Reg [1,2,1,1,2,0,0,1] [0,1,2] he hm fun w hm a he =>?_
 refine App_ 3 z9k he hm (fun v91 w hm a he =>?_) (hr:=(SliceOf.strs.1 h70).rowIn hm.toSees) (h1:=z7t _) (hb:=by have hq:=congrArg List.length hI56;rw [z0a hx64,z1j] at hq;simp only [List.length_append,z1m] at hq hb ⊢;omega)
 first | rw [z2u] at hm | rw [← z1l] at hm
 replace hm:=hm.pl 3
 refine d_e he rfl rfl rfl (z4d he rfl call85 (ih _ (by first | exact Ex.lt_args (List.mem_of_getElem? hx64) | exact Ex.lt_arms (List.mem_of_getElem? hx64)) (l:=(m2++x63.vars)) (by have hq:=congrArg List.length hI56;rw [z0a hx64] at hq;simp only [bindPs,z1j,List.length_append] at hq hb ⊢;omega) h76 hm) fun v92 w hm=>⟨fun _=>hm.sn (Fz.Le.refl _),fun a he =>?_⟩)
 replace hm:=hm.nf
 refine go he hm fun a he =>?_
 replace hm:=hm.ar [1] [2,2]
 refine hL55 _ _ _ (by subst hmu;omega) ⟨(j+1),(v92),(((m2++x63.vars)++z0n x63.body)),rfl,he.pk,hm,?_⟩
 rw [hI56,z0a hx64,z1j];simp
 refine go he hm fun a he =>?_
 replace hm:=hm.dl [1,0]
 refine Ret1 hQ he hm ?_
 refine ⟨_,rfl,?_⟩
 rw [show (strs (l++z0n e))=(strs m2) by rw [hI56,z0g h58];simp [bindPa]];exact hm
 refine go he hm fun a he =>?_
 refine z8x (fun mm a w=>∃(i:Nat) (u:Value) (m:List Bs),mm=e.args.length - i∧EnvR 44 [(1,u),(2,.pointer (some ⟨b15,0,none⟩)),(18,.slice p3 e.args.length c4),(19,.int .i64 ((e.args.length:Nat):Int)),(20,.int .i64 ((i:Nat):Int))] [] a∧Mem Φ (.blk b15 (ob [.int .i64 (e.kind),.int .i64 (e.num),.string e.name,.slice p3 e.args.length c4,.slice p9 e.arms.length c10] 66)::.gs (u) 9 1 (strs m)::K) w∧(l++z0n e=m++bindPs (e.args.drop i)++bindPa e.arms)) (e.args.length - 0) ⟨0,v,l,rfl,he.pk,hm,by rw [z6u];simp [*]⟩ ?_
 clear hm he
 rintro mm a w ⟨i,u,m,hmu,he,hm,hI98⟩ L97 hL97
 refine go he hm fun a he =>?_
 by_cases h100:i < e.args.length
 refine go he hm fun a he =>?_
 obtain ⟨q104,rfl,x105,hx106,cs107,hl108,ha109,hr110⟩:=h2.el hn6 h100
 obtain ⟨p113,c114,p119,c120,rfl,hi123,h112,h118,hm115,hn116,hm121,hn122⟩:=REx.fm hr110
 refine Alc he hm fun b124 w hm a he =>?_
 refine Sto 0 he hm fun w hm a he =>?_
 refine go he hm fun a he =>?_
 replace hm:=hm.pl 2
 refine st he rfl rfl rfl (z4d he rfl call85 (ih _ (by first | exact Ex.lt_args (List.mem_of_getElem? hx106) | exact Ex.lt_arms (List.mem_of_getElem? hx106)) (l:=m) (by have hq:=congrArg List.length hI98;rw [z0a hx106] at hq;simp only [bindPs,z1j,List.length_append] at hq hb ⊢;omega) hr110 hm) fun v125 w hm a he =>?_)
 replace hm:=hm.nf
 refine go he hm fun a he =>?_
 replace hm:=hm.ar [1] [1]
 refine hL97 _ _ _ (by subst hmu;omega) ⟨(i+1),(v125),((m++z0n x105)),rfl,he.pk,hm,?_⟩
 rw [hI98,z0a hx106];simp [bindPs]
 refine go he hm fun a he =>?_
 refine z8x (fun mm a w=>∃(j:Nat) (u2:Value) (m2:List Bs),mm=e.arms.length - j∧EnvR 44 [(1,u2),(29,.slice p9 e.arms.length c10),(30,.int .i64 ((e.arms.length:Nat):Int)),(31,.int .i64 ((j:Nat):Int))] [] a∧Mem Φ (.blk b15 (ob [.int .i64 (e.kind),.int .i64 (e.num),.string e.name,.slice p3 e.args.length c4,.slice p9 e.arms.length c10] 66)::.gs (u2) 9 1 (strs m2)::K) w∧(l++z0n e=m2++bindPa (e.arms.drop j))) (e.arms.length - 0) ⟨0,u,m,rfl,he.pk,hm,by rw [hI98,z0g h100];simp [bindPs]⟩ ?_
 clear hm he
 rintro mm a w ⟨j,u2,m2,hmu,he,hm,hI130⟩ L129 hL129
 refine go he hm fun a he =>?_
 by_cases h132:j < e.arms.length
 refine go he hm fun a he =>?_
 obtain ⟨q136,rfl,x137,hx138,cs139,hl140,ha141,hr142⟩:=h8.el hn12 h132
 obtain ⟨s143,b149,rfl,h144,h150⟩:=RArm.iff.1 hr142
 obtain ⟨p145,c146,rfl,hm147,hn148⟩:=h144.fm
 obtain ⟨p153,c154,p159,c160,rfl,hi163,h152,h158,hm155,hn156,hm161,hn162⟩:=REx.fm h150
 refine Alc he hm fun b164 w hm a he =>?_
 refine Sto 0 he hm fun w hm a he =>?_
 refine Reg [1,2,1,1,2,0,0,1] [0,1] he hm fun w hm a he =>?_
 refine App_ 2 z9k he hm (fun v165 w hm a he =>?_) (hr:=(SliceOf.strs.1 h144).rowIn hm.toSees) (h1:=z7t _) (hb:=by have hq:=congrArg List.length hI130;rw [z0a hx138,z1j] at hq;simp only [List.length_append,z1m] at hq hb ⊢;omega)
 first | rw [z2u] at hm | rw [← z1l] at hm
 replace hm:=hm.pl 2
 refine d_e he rfl rfl rfl (z4d he rfl call85 (ih _ (by first | exact Ex.lt_args (List.mem_of_getElem? hx138) | exact Ex.lt_arms (List.mem_of_getElem? hx138)) (l:=(m2++x137.vars)) (by have hq:=congrArg List.length hI130;rw [z0a hx138] at hq;simp only [bindPs,z1j,List.length_append] at hq hb ⊢;omega) h150 hm) fun v166 w hm=>⟨fun _=>hm.sn (Fz.Le.refl _),fun a he =>?_⟩)
 replace hm:=hm.nf
 refine go he hm fun a he =>?_
 replace hm:=hm.ar [1] [1]
 refine hL129 _ _ _ (by subst hmu;omega) ⟨(j+1),(v166),(((m2++x137.vars)++z0n x137.body)),rfl,he.pk,hm,?_⟩
 rw [hI130,z0a hx138,z1j];simp
 refine go he hm fun a he =>?_
 replace hm:=hm.dl [0]
 refine Ret1 hQ he hm ?_
 refine ⟨_,rfl,?_⟩
 rw [show (strs (l++z0n e))=(strs m2) by rw [hI130,z0g h132];simp [bindPa]];exact hm
theorem binders_ok {Φ:Fz} {K:List Res} {w:World} {d:List Value} {e:Ex} {v:Value} {l:List Bs} (hb:l.length+(z0n e).length≤8796093000000) (re:REx Φ d e) (hm:Mem Φ (.gs v 9 1 (strs l)::K) w) :
  Calls Tryz.prog 85 (List.toArray [.agg d.toArray,v]) w (fun ee w'=>∃v,ee=.returned v∧Mem Φ (.gs v 9 1 (strs (l++z0n e))::K) w'):=by
 suffices H:∀n (e:Ex),e.sz < n→∀{Φ:Fz} {K:List Res} {w:World} {d:List Value} {v:Value} {l:List Bs},l.length+(z0n e).length≤8796093000000→REx Φ d e→Mem Φ (.gs v 9 1 (strs l)::K) w→Calls Tryz.prog 85 (List.toArray [.agg d.toArray,v]) w (fun ee w'=>∃v,ee=.returned v∧Mem Φ (.gs v 9 1 (strs (l++z0n e))::K) w') from H _ e (Nat.lt_succ_self _) hb re hm
 intro n
 induction n with
 | zero=>intro e h;omega
 | succ n ih=>intro e h Φ K w d v l hb re hm;exact binders_step re hb (fun x hx _ _ _ _ _ _ g0 r m=>ih x (by omega) g0 r m) hm
end Go.Sw

namespace Go.Sw
open Go.Proofs.Tryz
open Go.Proofs
set_option maxRecDepth 20000
set_option maxHeartbeats 4000000
variable {Φ:Fz} {K:List Res} {w:World}
theorem isSmall_ok {c:UInt8}  (hm:Mem Φ K w) :
  Calls Tryz.prog 249 (List.toArray [.int .u8 ((c.toNat:Nat):Int)]) w (fun ee w'=>ee=.returned (.bool (smallB c.toNat))∧Mem Φ K w'):=by
 refine z0l func249 ntmps249 fun Q hQ a he =>?_
 refine go he hm fun a he =>?_
 by_cases h3:97≤c.toNat
 refine Qq he hm (fun a he =>?_) (o:=by exact fun _ _ _ he hs=>y_leqN (i:=c.toNat) (j:=122) he rfl rfl)
 refine Ret1 hQ he hm ?_
 exact z0v hm (by simp [smallB, *])
 refine Ret1 hQ he hm ?_
 exact z0v hm (by simp [smallB, *])
theorem isGreat_ok {c:UInt8}  (hm:Mem Φ K w) :
  Calls Tryz.prog 251 (List.toArray [.int .u8 ((c.toNat:Nat):Int)]) w (fun ee w'=>ee=.returned (.bool (greatB c.toNat))∧Mem Φ K w'):=by
 refine z0l func251 ntmps251 fun Q hQ a he =>?_
 refine go he hm fun a he =>?_
 by_cases h3:65≤c.toNat
 refine Qq he hm (fun a he =>?_) (o:=by exact fun _ _ _ he hs=>y_leqN (i:=c.toNat) (j:=90) he rfl rfl)
 refine Ret1 hQ he hm ?_
 exact z0v hm (by simp [greatB, *])
 refine Ret1 hQ he hm ?_
 exact z0v hm (by simp [greatB, *])
theorem z9v {c:UInt8}  (hm:Mem Φ K w) :
  Calls Tryz.prog 247 (List.toArray [.int .u8 ((c.toNat:Nat):Int)]) w (fun ee w'=>ee=.returned (.bool (z1y c.toNat))∧Mem Φ K w'):=by
 refine z0l func247 ntmps247 fun Q hQ a he =>?_
 refine go he hm fun a he =>?_
 by_cases h3:48≤c.toNat
 refine Qq he hm (fun a he =>?_) (o:=by exact fun _ _ _ he hs=>y_leqN (i:=c.toNat) (j:=57) he rfl rfl)
 refine Ret1 hQ he hm ?_
 exact z0v hm (by simp [z1y, *])
 refine Ret1 hQ he hm ?_
 exact z0v hm (by simp [z1y, *])
theorem isPart_ok {c:UInt8}  (hm:Mem Φ K w) :
  Calls Tryz.prog 253 (List.toArray [.int .u8 ((c.toNat:Nat):Int)]) w (fun ee w'=>ee=.returned (.bool (z3f c.toNat))∧Mem Φ K w'):=by
 refine z0l func253 ntmps253 fun Q hQ a he =>?_
 refine z1n call249 he hm (fun hB3 w hm a he =>?_) (fun hB3 w hm a he =>?_) (c:=isSmall_ok hm)
 refine Ret1 hQ he hm ?_
 exact z0v hm (by simp [z3f, *])
 refine z1n call251 he hm (fun hB4 w hm a he =>?_) (fun hB4 w hm a he =>?_) (c:=isGreat_ok hm)
 refine Ret1 hQ he hm ?_
 exact z0v hm (by simp [z3f, *])
 refine z1n call247 he hm (fun hB5 w hm a he =>?_) (fun hB5 w hm a he =>?_) (c:=z9v hm)
 refine Ret1 hQ he hm ?_
 exact z0v hm (by simp [z3f, *])
 refine Qq he hm (fun a he =>?_) (o:=by exact fun _ _ _ he hs=>y_ieqlN (i:=c.toNat) (j:=95) he rfl rfl)
 refine Ret1 hQ he hm ?_
 exact z0v hm (by simp [z3f, *])
theorem isSpace_ok {c:UInt8}  (hm:Mem Φ K w) :
  Calls Tryz.prog 243 (List.toArray [.int .u8 ((c.toNat:Nat):Int)]) w (fun ee w'=>ee=.returned (.bool (z4q c.toNat))∧Mem Φ K w'):=by
 refine z0l func243 ntmps243 fun Q hQ a he =>?_
 refine go he hm fun a he =>?_
 by_cases h3:c.toNat=32
 refine Ret1 hQ he hm ?_
 exact z0v hm (by simp [z4q, *])
 refine go he hm fun a he =>?_
 by_cases h4:c.toNat=9
 refine Ret1 hQ he hm ?_
 exact z0v hm (by simp [z4q, *])
 refine go he hm fun a he =>?_
 by_cases h5:c.toNat=10
 refine Ret1 hQ he hm ?_
 exact z0v hm (by simp [z4q, *])
 refine Qq he hm (fun a he =>?_) (o:=by exact fun _ _ _ he hs=>y_ieqlN (i:=c.toNat) (j:=13) he rfl rfl)
 refine Ret1 hQ he hm ?_
 exact z0v hm (by simp [z4q, *])
theorem hasPrefix1_ok {s:Bs} {p:Bs}  (hm:Mem Φ K w) :
  Calls Tryz.prog 261 (List.toArray [.string s,.string p]) w (fun ee w'=>ee=.returned (.bool (z5t s p))∧Mem Φ K w'):=by
 refine z0l func261 ntmps261 fun Q hQ a he =>?_
 refine go he hm fun a he =>?_
 by_cases h3:p.size≤s.size
 refine Qq he hm (fun a he =>?_) (o:=by exact fun _ _ _ he hs=>z3j 0 (p.size) he rfl runUnderlying9 rfl ⟨_,rfl⟩ (by omega) (by omega))
 refine Qq he hm (fun a he =>?_) (o:=by exact fun _ _ _ he hs=>y_seqlD he rfl rfl)
 refine Ret1 hQ he hm ?_
 exact z0v hm (by simp [z5t, *])
 refine Ret1 hQ he hm ?_
 exact z0v hm (by simp [z5t, *])
theorem hasPrefix_ok {s:Bs} {p:Bs}  (hm:Mem Φ K w) :
  Calls Tryz.prog 257 (List.toArray [.string s,.string p]) w (fun ee w'=>ee=.returned (.bool (z5t s p))∧Mem Φ K w'):=by
 refine z0l func257 ntmps257 fun Q hQ a he =>?_
 refine z0y call261 he hm (fun w hm a he =>?_) (c:=hasPrefix1_ok hm)
 refine Ret1 hQ he hm ?_
 exact z0v hm (by rfl)
theorem peek_ok {t:Bs} {pos:Nat} {b:Nat} {rest:List Value} {T0:TypeId} {k:Nat}  (hk:pos+k≤1000000000) (hm:Mem Φ (.blk b (ob (.string t::.int .i64 ((pos:Nat):Int)::rest) T0)::K) w) :
  Calls Tryz.prog 246 (List.toArray [.pointer (some ⟨b,0,none⟩),.int .i64 (k:Int)]) w (fun ee w'=>ee=.returned (.int .u8 ((z0m t (pos+k):Nat):Int))∧Mem Φ (.blk b (ob (.string t::.int .i64 ((pos:Nat):Int)::rest) T0)::K) w'):=by
 refine z0l func246 ntmps246 fun Q hQ a he =>?_
 refine Reg [1,1,1,2,1,1,1,1,1,2,1,1] [0] he hm fun w hm a he =>?_
 refine Qq he hm (fun a he =>?_) (o:=by exact fun _ _ _ he hs=>z7g (i:=pos) (j:=k) he rfl rfl (by omega))
 refine go he hm fun a he =>?_
 by_cases h4:t.size≤(pos+k)
 refine Ret1 hQ he hm ?_
 exact ⟨congrArg (fun x=>Ending.returned (.int .u8 ((x:Nat):Int))) (show 0=z0m t (pos+k) by rw [byteAt_none (by omega)]),hm⟩
 refine Reg [1,1,1,2,1,1,1,2,1,1,1,1] [0] he hm fun w hm a he =>?_
 refine Qq he hm (fun a he =>?_) (o:=by exact fun _ _ _ he hs=>z7g (i:=pos) (j:=k) he rfl rfl (by omega))
 have hb7:(pos+k) < t.size:=by omega
 obtain ⟨c8,hc9⟩:=byte_of_lt hb7
 refine Qq he hm (fun a he =>?_) (o:=by exact fun _ _ _ he hs=>y1a (pos+k) c8 he rfl rfl runUnderlying9 hc9)
 refine Ret1 hQ he hm ?_
 exact ⟨congrArg (fun x=>Ending.returned (.int .u8 ((x:Nat):Int))) (show c8.toNat=z0m t (pos+k) by rw [z2r hc9]),hm⟩
theorem z8n {t:Bs} {pos:Nat} {b:Nat} {rest:List Value} {T0:TypeId} {s:Bs}  (hk:pos≤t.size) (hm:Mem Φ (.blk b (ob (.string t::.int .i64 ((pos:Nat):Int)::rest) T0)::K) w) :
  Calls Tryz.prog 244 (List.toArray [.pointer (some ⟨b,0,none⟩),.string s]) w (fun ee w'=>ee=.returned (.bool (z5t (t.extract pos t.size) s))∧Mem Φ (.blk b (ob (.string t::.int .i64 ((pos:Nat):Int)::rest) T0)::K) w'):=by
 refine z0l func244 ntmps244 fun Q hQ a he =>?_
 refine Reg [1,1,1,2,1,1,1,2,1,1,0,1] [0] he hm fun w hm a he =>?_
 refine Qq he hm (fun a he =>?_) (o:=by exact fun _ _ _ he hs=>z3j pos (t.size) he rfl runUnderlying9 ⟨_,rfl⟩ rfl (by omega) (by exact Nat.le_refl _))
 refine z0y call257 he hm (fun w hm a he =>?_) (c:=hasPrefix_ok hm)
 refine Ret1 hQ he hm ?_
 exact z0v hm (by rfl)
end Go.Sw

namespace Go.Sw
open Go.Proofs
set_option maxRecDepth 20000
set_option maxHeartbeats 4000000
theorem run_ok {Φ:Fz} {K:List Res} {w:World} {t:Bs} {pos b k g:Nat} {rest fs cs:List Value} {T0:TypeId} {p:Nat→Bool} (hg:∀args w,(callFunc g args).run Tryz.prog w=.ok (.enter g args) w)
  (hf:∀{w:World} (c:UInt8),Mem Φ (.blk b (ob (.string t::.int .i64 ((pos:Nat):Int)::rest) T0)::K) w→Calls Tryz.prog g (fs++[Value.int .u8 ((c.toNat:Nat):Int)]++cs).toArray w (fun ee w'=>ee=.returned (.bool (p c.toNat))∧Mem Φ (.blk b (ob (.string t::.int .i64 ((pos:Nat):Int)::rest) T0)::K) w'))
  (h1:pos+k≤t.size) (h2:t.size≤1000000) (hm:Mem Φ (.blk b (ob (.string t::.int .i64 ((pos:Nat):Int)::rest) T0)::K) w) :
  Calls Tryz.prog 242 (List.toArray [.pointer (some ⟨b,0,none⟩),.int .i64 ((k:Nat):Int),.func (.func g) fs.toArray cs.toArray]) w (fun ee w'=>ee=.returned (.int .i64 ((runB p t t.size (pos+k):Nat):Int))∧Mem Φ (.blk b (ob (.string t::.int .i64 ((pos:Nat):Int)::rest) T0)::K) w'):=by
 refine z0l Tryz.func242 Tryz.ntmps242 fun Q hQ a he =>?_
 refine go he hm fun a he =>?_
 refine z1i (he.ks [0,1,2]) hm (fun R mm a w=>∃(j:Nat),mm=t.size - (pos+k+j)∧R Φ [(7,.int .i64 ((j:Nat):Int))] [] a w∧(pos+k+j≤t.size∧runB p t t.size (pos+k)=runB p t t.size (pos+k+j)+j)) (t.size - (pos+k+0)) ⟨0,rfl,⟨he.pk,hm⟩,by exact ⟨by omega,rfl⟩⟩ ?_
 clear hm he
 rintro mm a w ⟨j,hmu,⟨he,hm⟩,hI5⟩ L4 hL4
 obtain ⟨hj0,hj1⟩:=hI5
 refine Reg [1,1,1,2,1,1,1,1,1,1,1,2,1,1,1,1,1,1,1,2,1,1,1,2,1,1,1,1,1,0,1] [0] he hm fun w hm a he =>?_
 refine Qq he hm (fun a he =>?_) (o:=by exact fun _ _ _ he hs=>z7g (i:=pos) (j:=k) he rfl rfl (by omega))
 refine Qq he hm (fun a he =>?_) (o:=by exact fun _ _ _ he hs=>z7g (i:=(pos+k)) (j:=j) he rfl rfl (by omega))
 refine go he hm fun a he =>?_
 by_cases h8:((pos+k)+j) < t.size
 refine Qq he hm (fun a he =>?_) (o:=by exact fun _ _ _ he hs=>z7g (i:=pos) (j:=k) he rfl rfl (by omega))
 refine Qq he hm (fun a he =>?_) (o:=by exact fun _ _ _ he hs=>z7g (i:=(pos+k)) (j:=j) he rfl rfl (by omega))
 obtain ⟨c9,hc10⟩:=byte_of_lt h8
 refine Qq he hm (fun a he =>?_) (o:=by exact fun _ _ _ he hs=>y1a ((pos+k)+j) c9 he rfl rfl Tryz.runUnderlying9 hc10)
 refine FunB hg he hm (fun hB11 w hm a he =>?_) (fun hB11 w hm a he =>?_) (c:=by exact hf _ hm)
 refine go he hm fun a he =>?_
 refine hL4 _ _ _ (by subst hmu;omega) ⟨(j+1),rfl,⟨he.pk,hm⟩,?_⟩
 refine ⟨by omega,?_⟩
 rw [hj1,runB_step p t (pos+k+j),if_pos ⟨by omega,by rw [z2r hc10];exact hB11⟩,show pos+k+(j+1)=pos+k+j+1 from rfl];omega
 refine Ret1 hQ he hm ?_
 exact ret_i hm (by rw [hj1,runB_step,if_neg (by rintro ⟨_,h⟩;rw [z2r hc10,hB11] at h;cases h)];omega)
 refine Ret1 hQ he hm ?_
 exact ret_i hm (by rw [hj1,runB_step,if_neg (by omega)];omega)
theorem run0_ok {Φ:Fz} {K:List Res} {w:World} {t:Bs} {pos b g:Nat} {rest fs cs:List Value} {T0:TypeId} {p:Nat→Bool} (hg:∀args w,(callFunc g args).run Tryz.prog w=.ok (.enter g args) w)
  (hf:∀{w:World} (c:UInt8),Mem Φ (.blk b (ob (.string t::.int .i64 ((pos:Nat):Int)::rest) T0)::K) w→Calls Tryz.prog g (fs++[Value.int .u8 ((c.toNat:Nat):Int)]++cs).toArray w (fun ee w'=>ee=.returned (.bool (p c.toNat))∧Mem Φ (.blk b (ob (.string t::.int .i64 ((pos:Nat):Int)::rest) T0)::K) w'))
  (h1:pos≤t.size) (h2:t.size≤1000000) (hm:Mem Φ (.blk b (ob (.string t::.int .i64 ((pos:Nat):Int)::rest) T0)::K) w) :
  Calls Tryz.prog 242 (List.toArray [.pointer (some ⟨b,0,none⟩),.int .i64 ((0:Nat):Int),.func (.func g) fs.toArray cs.toArray]) w (fun ee w'=>ee=.returned (.int .i64 ((runB p t t.size pos:Nat):Int))∧Mem Φ (.blk b (ob (.string t::.int .i64 ((pos:Nat):Int)::rest) T0)::K) w') :=
 run_ok (k:=0) hg hf (by omega) h2 hm
end Go.Sw

namespace Go.Sw
open Go.Proofs.Tryz
open Go.Proofs
set_option maxRecDepth 20000
set_option maxHeartbeats 4000000
theorem comment_ok {Φ:Fz} {K:List Res} {w:World} {t:Bs} {pos b:Nat} {rest:List Value} {T0:TypeId} (h1:pos≤t.size) (h2:t.size≤1000000) (hm:Mem Φ (.blk b (ob (.string t::.int .i64 ((pos:Nat):Int)::rest) T0)::K) w) :
  Calls Tryz.prog 245 (List.toArray [.pointer (some ⟨b,0,none⟩)]) w (fun ee w'=>Out (z3w t pos pos 0)
   (fun q=>ee=.returned (.tuple #[])∧Mem Φ (.blk b (ob (.string t::.int .i64 ((q:Nat):Int)::rest) T0)::K) w')
   (fun c=>ee=.panicked (wrongC c)∧Mem Φ K w')):=by
 refine z0l func245 ntmps245 fun Q hQ a he =>?_
 refine go he hm fun a he =>?_
 refine z1i (he.ks [0,2]) hm (fun R mm a w=>∃(i:Nat) (o:Int),mm=t.size - i∧R Φ [(3,.int .i64 (o))] [(0,.blk b (ob (.string t::.int .i64 ((i:Nat):Int)::rest) T0))] a w∧(i≤t.size∧-(i:Int)≤o∧o≤100∧z3w t pos pos 0=z3w t pos i o)) (t.size - pos) ⟨pos,0,rfl,⟨he.pk,hm⟩,by exact ⟨h1,by omega,by omega,rfl⟩⟩ ?_
 clear hm he
 rintro mm a w ⟨i,o,hmu,⟨he,hm⟩,hI3⟩ L2 hL2
 replace hm:=hm.nf
 obtain ⟨hi0,hi1,hi2,hi3⟩:=hI3
 refine Reg [1,1,1,1,2,1,1,1,1,2,1,1,1] [0] he hm fun w hm a he =>?_
 refine go he hm fun a he =>?_
 by_cases h5:t.size≤i
 refine z1h he hm fun a he =>?_
 refine Qq he hm (fun a he =>?_) (o:=by exact fun _ _ _ he hs=>z1e he rfl runUnderlying270 (by intro ms h;cases h))
 refine st0 he rfl rfl (z3m he rfl (z3p _) (fun a hd=>hQ _ _ _ (z0z hd ?_)))
 replace hm:=hm.dl [0]
 show Out (z3w t pos pos 0) _ _
 rw [hi3,z6p,if_pos h5];exact ⟨rfl,hm⟩
 refine z1n call244 he hm (fun hB7 w hm a he =>?_) (fun hB7 w hm a he =>?_) (c:=z8n (by omega) hm)
 refine go he hm fun a he =>?_
 by_cases h10:100≤o
 refine z1h he hm fun a he =>?_
 refine Qq he hm (fun a he =>?_) (o:=by exact fun _ _ _ he hs=>z1e he rfl runUnderlying270 (by intro ms h;cases h))
 refine st0 he rfl rfl (z3m he rfl (z3p _) (fun a hd=>hQ _ _ _ (z0z hd ?_)))
 replace hm:=hm.dl [0]
 show Out (z3w t pos pos 0) _ _
 rw [hi3,z6p,if_neg h5,if_pos hB7,if_pos h10];exact ⟨rfl,hm⟩
 refine Qq he hm (fun a he =>?_) (o:=by exact fun _ _ _ he hs=>y_add (o+1) he rfl rfl (by rw [z1d (by omega)]))
 refine Qq he hm (fun a he =>?_) (o:=by exact fun _ _ _ he hs=>z7g (i:=i) (j:=2) he rfl rfl (by omega))
 refine Sto 0 he hm fun w hm a he =>?_
 refine go he hm fun a he =>?_
 refine hL2 (t.size - ((i+2))) _ _ (by subst hmu;first | omega | (have h:=z2j hB7;have:(⟨#[40,42]⟩:ByteArray).size=2:=rfl;have:(⟨#[42,41]⟩:ByteArray).size=2:=rfl;omega)) ⟨((i+2)),(o+1),rfl,⟨he.pk,hm⟩,?_⟩
 refine ⟨by first | omega | (have h:=z2j hB7;have:(⟨#[40,42]⟩:ByteArray).size=2:=rfl;have:(⟨#[42,41]⟩:ByteArray).size=2:=rfl;omega),by omega,by omega,?_⟩
 rw [hi3,z6p,if_neg h5]
 simp [*]
 refine z1n call244 he hm (fun hB13 w hm a he =>?_) (fun hB13 w hm a he =>?_) (c:=z8n (by omega) hm)
 refine Qq he hm (fun a he =>?_) (o:=by exact fun _ _ _ he hs=>z7h (o - 1) he rfl rfl (by rw [z1d (by omega)]))
 refine Qq he hm (fun a he =>?_) (o:=by exact fun _ _ _ he hs=>z7g (i:=i) (j:=2) he rfl rfl (by omega))
 refine Sto 0 he hm fun w hm a he =>?_
 refine go he hm fun a he =>?_
 by_cases h17:o - 1=0
 refine go he hm fun a he =>?_
 refine hQ _ _ _ (ret0 he results245 ?_)
 show Out (z3w t pos pos 0) _ _
 rw [hi3,z6p,if_neg h5,if_neg (by simp [*]),if_pos hB13,if_pos h17];exact ⟨rfl,hm⟩
 refine go he hm fun a he =>?_
 refine hL2 (t.size - ((i+2))) _ _ (by subst hmu;first | omega | (have h:=z2j hB13;have:(⟨#[40,42]⟩:ByteArray).size=2:=rfl;have:(⟨#[42,41]⟩:ByteArray).size=2:=rfl;omega)) ⟨((i+2)),(o - 1),rfl,⟨he.pk,hm⟩,?_⟩
 refine ⟨by first | omega | (have h:=z2j hB13;have:(⟨#[40,42]⟩:ByteArray).size=2:=rfl;have:(⟨#[42,41]⟩:ByteArray).size=2:=rfl;omega),by omega,by omega,?_⟩
 rw [hi3,z6p,if_neg h5]
 simp [*]
 refine Sto 0 he hm fun w hm a he =>?_
 refine go he hm fun a he =>?_
 refine hL2 (t.size - ((i+1))) _ _ (by subst hmu;first | omega | (have h:=z2j hB13;have:(⟨#[40,42]⟩:ByteArray).size=2:=rfl;have:(⟨#[42,41]⟩:ByteArray).size=2:=rfl;omega)) ⟨((i+1)),(o),rfl,⟨he.pk,hm⟩,?_⟩
 refine ⟨by first | omega | (have h:=z2j hB13;have:(⟨#[40,42]⟩:ByteArray).size=2:=rfl;have:(⟨#[42,41]⟩:ByteArray).size=2:=rfl;omega),by omega,by omega,?_⟩
 rw [hi3,z6p,if_neg h5]
 simp [*]
end Go.Sw

namespace Go.Sw
open Go.Proofs.Tryz
open Go.Proofs
set_option maxRecDepth 20000
set_option maxHeartbeats 4000000
theorem pass_ok {Φ:Fz} {K:List Res} {w:World} {t:Bs} {pos b:Nat} {mv cv:Value} {cs:List Value} (h1:pos≤t.size) (h2:t.size≤1000000) (h3:cs.length≤2 * pos) (hm:Mem Φ (.blk b (ob [.string t,.int .i64 ((pos:Nat):Int),mv,cv] 301)::.gs cv 314 2 cs::K) w) :
  Calls Tryz.prog 232 (List.toArray [.pointer (some ⟨b,0,none⟩)]) w (fun ee w'=>Out (passF t pos)
   (fun q=>∃y:Value×List Value,ee=.returned (.tuple #[])∧y.2.length≤2 * q∧Mem Φ (.blk b (ob [.string t,.int .i64 ((q:Nat):Int),mv,y.1] 301)::.gs y.1 314 2 y.2::K) w')
   (fun c=>ee=.panicked (wrongC c)∧Mem Φ K w')):=by
 refine z0l func232 ntmps232 fun Q hQ a he =>?_
 refine go he hm fun a he =>?_
 refine z1i (he.ks [0]) hm (fun R mm a w=>∃(i:Nat) (u:Value) (ds:List Value),mm=t.size - i∧R Φ [] [(0,.blk b (ob [.string t,.int .i64 ((i:Nat):Int),mv,u] 301)),(1,.gs (u) 314 2 ds)] a w∧(i≤t.size∧ds.length≤2 * i∧passF t pos=passF t i)) (t.size - pos) ⟨pos,cv,cs,rfl,⟨he.pk,hm⟩,by exact ⟨h1,h3,rfl⟩⟩ ?_
 clear hm he
 rintro mm a w ⟨i,u,ds,hmu,⟨he,hm⟩,hI2⟩ L1 hL1
 replace hm:=hm.nf
 obtain ⟨hi0,hi1,hi2⟩:=hI2
 have hrl:=z5h z4q t t.size i hi0
 refine Reg [1,1,1,1,2,1,1,1,0,1,1,1,1,0] [0,1] he hm fun w hm a he =>?_
 refine z0y call242 he hm (fun w hm a he =>?_) (c:=run0_ok (p:=z4q) (pos:=i) (fs:=[]) (cs:=[]) call243 (fun c hm=>isSpace_ok hm) (by omega) (by omega) hm)
 refine Qq he hm (fun a he =>?_) (o:=by exact fun _ _ _ he hs=>z7g (i:=i) (j:=(runB z4q t t.size i)) he rfl rfl (by omega))
 refine Sto 0 he hm fun w hm a he =>?_
 refine z1n call244 he hm (fun hB6 w hm a he =>?_) (fun hB6 w hm a he =>?_) (c:=z8n (by omega) hm)
 refine z3b hQ call245 he hm (fun q9 w hq10 hm a he =>?_) (fun q9 w hq10 hm =>?_) (c:=comment_ok (pos:=((i+(runB z4q t t.size i)))) (by omega) (by omega) hm)
 refine Reg [1,1,1,1,2,1,1,1,1,1,2,1,0,0,1,1,0] [0] he hm fun w hm a he =>?_
 refine z1h he hm fun a he =>?_
 refine BldS he hm fun v11 w hm a he =>?_
 refine App_ 2 rt_299 he hm (fun v12 w hm a he =>?_)
 refine Sto 1 he hm fun w hm a he =>?_
 refine go he hm fun a he =>?_
 replace hm:=hm.dl [0]
 refine hL1 (t.size - q9) _ _ (by subst hmu;have hgt:=z5s _ _ _ _ _ _ hq10;omega) ⟨(q9),(v12),((ds++[.int .i64 ((((i+(runB z4q t t.size i))):Nat):Int),.int .i64 ((q9:Nat):Int)])),rfl,⟨he.pk,by exact hm⟩,?_⟩
 have hgt:=z5s _ _ _ _ _ _ hq10
 refine ⟨hgt.2,by simp only [List.length_append,List.length_cons,List.length_nil];omega,?_⟩
 rw [hi2,passF_eq t i hi0,if_pos hB6,hq10]
 replace hm:=hm.dl [0]
 show Out (passF t pos) _ _
 rw [hi2,passF_eq t i hi0,if_pos hB6,hq10];exact ⟨rfl,hm⟩
 refine go he hm fun a he =>?_
 refine hQ _ _ _ (ret0 he results232 ?_)
 show Out (passF t pos) _ _
 rw [hi2,passF_eq t i hi0,if_neg (by simp [*])];exact ⟨⟨u,ds⟩,rfl,by simp only;omega,hm⟩
end Go.Sw

namespace Go.Sw
open Go.Proofs.Tryz
open Go.Proofs
set_option maxRecDepth 20000
set_option maxHeartbeats 4000000
theorem y0r {Φ:Fz} {K:List Res} {w:World} {t:Bs} {pos b:Nat} {rest:List Value} {T0:TypeId} {kd:Int} {n:Nat} (h1:pos+n≤t.size) (h2:t.size≤1000000) (hm:Mem Φ (.blk b (ob (.string t::.int .i64 ((pos:Nat):Int)::rest) T0)::K) w) :
  Calls Tryz.prog 252 (List.toArray [.pointer (some ⟨b,0,none⟩),.int .i64 kd,.int .i64 ((n:Nat):Int)]) w (fun ee w'=>Out (z6l t pos kd n) (fun q=>ee=.returned (tokV q)∧Mem Φ (.blk b (ob (.string t::.int .i64 ((pos:Nat):Int)::rest) T0)::K) w') (fun c=>ee=.panicked (wrongC c)∧Mem Φ K w')):=by
 refine z0l func252 ntmps252 fun Q hQ a he =>?_
 refine Alc he hm fun b2 w hm a he =>?_
 refine go he hm fun a he =>?_
 by_cases h5:24 < n
 refine z1h he hm fun a he =>?_
 refine Qq he hm (fun a he =>?_) (o:=by exact fun _ _ _ he hs=>z1e he rfl runUnderlying270 (by intro ms h;cases h))
 refine st0 he rfl rfl (z3m he rfl (z3p _) (fun a hd=>hQ _ _ _ (z0z hd ?_)))
 replace hm:=hm.dl [1,0]
 show Out (z6l t pos kd n) _ _
 rw [z6l,if_pos h5];exact ⟨rfl,hm⟩
 refine Reg [1,1,1,1,1,2,1,1,1,1,2,1,1,1,1,2,1,1,1,1,1,1,1,2,1,0] [0,1] he hm fun w hm a he =>?_
 refine Qq he hm (fun a he =>?_) (o:=by exact fun _ _ _ he hs=>z7g (i:=pos) (j:=n) he rfl rfl (by omega))
 refine Qq he hm (fun a he =>?_) (o:=by exact fun _ _ _ he hs=>z3j pos ((pos+n)) he rfl runUnderlying9 ⟨_,rfl⟩ ⟨_,rfl⟩ (by omega) (by omega))
 refine z1h he hm fun a he =>?_
 refine Sto 0 he hm fun w hm a he =>?_
 refine go he hm fun a he =>?_
 have hmr:=hm
 replace hm:=hm.dl [0]
 refine RetA hQ he hmr ?_
 show Out (z6l t pos kd n) _ _
 rw [z6l,if_neg h5];exact ⟨rfl,hm⟩
theorem name_ok {Φ:Fz} {K:List Res} {w:World} {t:Bs} {pos b mb:Nat} {cv:Value} {kd:Int} (hmap:MapAt Φ mb wordsM) (h1:pos≤t.size) (h2:t.size≤1000000) (hm:Mem Φ (.blk b (ob [.string t,.int .i64 ((pos:Nat):Int),.map (some mb),cv] 301)::K) w) :
  Calls Tryz.prog 250 (List.toArray [.pointer (some ⟨b,0,none⟩),.int .i64 kd]) w (fun ee w'=>Out (z7n t pos kd) (fun q=>ee=.returned (tokV q)∧Mem Φ (.blk b (ob [.string t,.int .i64 ((pos:Nat):Int),.map (some mb),cv] 301)::K) w') (fun c=>ee=.panicked (wrongC c)∧Mem Φ K w')):=by
 refine z0l func250 ntmps250 fun Q hQ a he =>?_
 refine Alc he hm fun b2 w hm a he =>?_
 refine go he hm fun a he =>?_
 have hr1:=z5h z3f t t.size pos h1
 replace hm:=hm.pl 1
 refine z0y call242 he hm (fun w hm a he =>?_) (c:=run0_ok (p:=z3f) (pos:=pos) (fs:=[]) (cs:=[]) call253 (fun c hm=>isPart_ok hm) (by omega) (by omega) hm)
 refine z0y call246 he hm (fun w hm a he =>?_) (c:=peek_ok (by omega) hm)
 by_cases h6:z0m t (pos+((runB z3f t t.size pos)))=39
 refine go he hm fun a he =>?_
 have hb39:=byteAt_lt (t:=t) (i:=pos+runB z3f t t.size pos) (by omega)
 have hr2:=z5h z1y t t.size (pos+(runB z3f t t.size pos+1)) (by omega)
 refine z0y call242 he hm (fun w hm a he =>?_) (c:=run_ok (p:=z1y) (pos:=pos) (k:=((runB z3f t t.size pos)+1)) (fs:=[]) (cs:=[]) call247 (fun c hm=>z9v hm) (by omega) (by omega) hm)
 refine go he hm fun a he =>?_
 by_cases h9:0 < (runB z1y t t.size (pos+((runB z3f t t.size pos)+1)))
 refine Qq he hm (fun a he =>?_) (o:=by exact fun _ _ _ he hs=>z7g (i:=1) (j:=(runB z1y t t.size (pos+((runB z3f t t.size pos)+1)))) he rfl rfl (by omega))
 refine Qq he hm (fun a he =>?_) (o:=by exact fun _ _ _ he hs=>z7g (i:=(runB z3f t t.size pos)) (j:=(1+(runB z1y t t.size (pos+((runB z3f t t.size pos)+1))))) he rfl rfl (by omega))
 refine z3b hQ call252 he hm (fun q11 w hq12 hm a he =>?_) (fun q11 w hq12 hm =>?_) (c:=y0r (pos:=pos) (kd:=kd) (n:=((runB z3f t t.size pos)+(1+(runB z1y t t.size (pos+((runB z3f t t.size pos)+1)))))) (by omega) (by omega) hm)
 refine Alc he hm fun b13 w hm a he =>?_
 refine Sto 0 he hm fun w hm a he =>?_
 refine Reg [1,1,1,2,1,2,2,1,1,1,1,1] [0,1,2] he hm fun w hm a he =>?_
 refine go he hm fun a he =>?_
 rcases hf16:mget (wordsM) q11.text with _ | vf17
 have hf16_:=congrArg (z0i true (.int .i64 ((0:Nat):Int))) hf16
 refine Qq he hm (fun a he =>?_) (o:=by exact fun _ _ _ he hs=>Ok.cast (z0o runUnderlying298 runUnderlying9 zeroValue3 he hs rfl rfl hmap) (show z0i true (.int .i64 ((0:Nat):Int)) (mget (wordsM) q11.text)=.tuple (List.toArray [.int .i64 ((0:Nat):Int),.bool false]) from hf16_))
 refine Sto 2 he hm fun w hm a he =>?_
 refine go he hm fun a he =>?_
 have hmr:=hm
 replace hm:=hm.dl [2,0]
 refine RetA hQ he hmr ?_
 show Out (z7n t pos kd) _ _
 first | rw [name_ok1 hq12 hf16 (by simp [z2s, *])] | rw [name_ok2 hq12 hf16 (by simp [z2s, *])]
 exact ⟨rfl,hm⟩
 obtain rfl:=wordsM_val hf16
 have hf16_:=congrArg (z0i true (.int .i64 ((0:Nat):Int))) hf16
 refine Qq he hm (fun a he =>?_) (o:=by exact fun _ _ _ he hs=>Ok.cast (z0o runUnderlying298 runUnderlying9 zeroValue3 he hs rfl rfl hmap) (show z0i true (.int .i64 ((0:Nat):Int)) (mget (wordsM) q11.text)=.tuple (List.toArray [.int .i64 ((5:Nat):Int),.bool true]) from hf16_))
 refine Sto 0 he hm fun w hm a he =>?_
 refine Sto 2 he hm fun w hm a he =>?_
 refine go he hm fun a he =>?_
 have hmr:=hm
 replace hm:=hm.dl [2,0]
 refine RetA hQ he hmr ?_
 show Out (z7n t pos kd) _ _
 first | rw [name_ok1 hq12 hf16 (by simp [z2s, *])] | rw [name_ok2 hq12 hf16 (by simp [z2s, *])]
 exact ⟨rfl,hm⟩
 replace hm:=hm.dl [0]
 show Out (z7n t pos kd) _ _
 rw [name_err hq12 (by simp [z2s, *])];exact ⟨rfl,hm⟩
 refine z3b hQ call252 he hm (fun q23 w hq24 hm a he =>?_) (fun q23 w hq24 hm =>?_) (c:=y0r (pos:=pos) (kd:=kd) (n:=(runB z3f t t.size pos)) (by omega) (by omega) hm)
 refine Alc he hm fun b25 w hm a he =>?_
 refine Sto 0 he hm fun w hm a he =>?_
 refine Reg [1,1,1,2,1,2,2,1,1,1,1,1] [0,1,2] he hm fun w hm a he =>?_
 refine go he hm fun a he =>?_
 rcases hf28:mget (wordsM) q23.text with _ | vf29
 have hf28_:=congrArg (z0i true (.int .i64 ((0:Nat):Int))) hf28
 refine Qq he hm (fun a he =>?_) (o:=by exact fun _ _ _ he hs=>Ok.cast (z0o runUnderlying298 runUnderlying9 zeroValue3 he hs rfl rfl hmap) (show z0i true (.int .i64 ((0:Nat):Int)) (mget (wordsM) q23.text)=.tuple (List.toArray [.int .i64 ((0:Nat):Int),.bool false]) from hf28_))
 refine Sto 2 he hm fun w hm a he =>?_
 refine go he hm fun a he =>?_
 have hmr:=hm
 replace hm:=hm.dl [2,0]
 refine RetA hQ he hmr ?_
 show Out (z7n t pos kd) _ _
 first | rw [name_ok1 hq24 hf28 (by simp [z2s, *])] | rw [name_ok2 hq24 hf28 (by simp [z2s, *])]
 exact ⟨rfl,hm⟩
 obtain rfl:=wordsM_val hf28
 have hf28_:=congrArg (z0i true (.int .i64 ((0:Nat):Int))) hf28
 refine Qq he hm (fun a he =>?_) (o:=by exact fun _ _ _ he hs=>Ok.cast (z0o runUnderlying298 runUnderlying9 zeroValue3 he hs rfl rfl hmap) (show z0i true (.int .i64 ((0:Nat):Int)) (mget (wordsM) q23.text)=.tuple (List.toArray [.int .i64 ((5:Nat):Int),.bool true]) from hf28_))
 refine Sto 0 he hm fun w hm a he =>?_
 refine Sto 2 he hm fun w hm a he =>?_
 refine go he hm fun a he =>?_
 have hmr:=hm
 replace hm:=hm.dl [2,0]
 refine RetA hQ he hmr ?_
 show Out (z7n t pos kd) _ _
 first | rw [name_ok1 hq24 hf28 (by simp [z2s, *])] | rw [name_ok2 hq24 hf28 (by simp [z2s, *])]
 exact ⟨rfl,hm⟩
 replace hm:=hm.dl [0]
 show Out (z7n t pos kd) _ _
 rw [name_err hq24 (by simp [z2s, *])];exact ⟨rfl,hm⟩
 refine z3b hQ call252 he hm (fun q35 w hq36 hm a he =>?_) (fun q35 w hq36 hm =>?_) (c:=y0r (pos:=pos) (kd:=kd) (n:=(runB z3f t t.size pos)) (by omega) (by omega) hm)
 refine Alc he hm fun b37 w hm a he =>?_
 refine Sto 0 he hm fun w hm a he =>?_
 refine Reg [1,1,1,2,1,2,2,1,1,1,1,1] [0,1,2] he hm fun w hm a he =>?_
 refine go he hm fun a he =>?_
 rcases hf40:mget (wordsM) q35.text with _ | vf41
 have hf40_:=congrArg (z0i true (.int .i64 ((0:Nat):Int))) hf40
 refine Qq he hm (fun a he =>?_) (o:=by exact fun _ _ _ he hs=>Ok.cast (z0o runUnderlying298 runUnderlying9 zeroValue3 he hs rfl rfl hmap) (show z0i true (.int .i64 ((0:Nat):Int)) (mget (wordsM) q35.text)=.tuple (List.toArray [.int .i64 ((0:Nat):Int),.bool false]) from hf40_))
 refine Sto 2 he hm fun w hm a he =>?_
 refine go he hm fun a he =>?_
 have hmr:=hm
 replace hm:=hm.dl [2,0]
 refine RetA hQ he hmr ?_
 show Out (z7n t pos kd) _ _
 first | rw [name_ok1 hq36 hf40 (by simp [z2s, *])] | rw [name_ok2 hq36 hf40 (by simp [z2s, *])]
 exact ⟨rfl,hm⟩
 obtain rfl:=wordsM_val hf40
 have hf40_:=congrArg (z0i true (.int .i64 ((0:Nat):Int))) hf40
 refine Qq he hm (fun a he =>?_) (o:=by exact fun _ _ _ he hs=>Ok.cast (z0o runUnderlying298 runUnderlying9 zeroValue3 he hs rfl rfl hmap) (show z0i true (.int .i64 ((0:Nat):Int)) (mget (wordsM) q35.text)=.tuple (List.toArray [.int .i64 ((5:Nat):Int),.bool true]) from hf40_))
 refine Sto 0 he hm fun w hm a he =>?_
 refine Sto 2 he hm fun w hm a he =>?_
 refine go he hm fun a he =>?_
 have hmr:=hm
 replace hm:=hm.dl [2,0]
 refine RetA hQ he hmr ?_
 show Out (z7n t pos kd) _ _
 first | rw [name_ok1 hq36 hf40 (by simp [z2s, *])] | rw [name_ok2 hq36 hf40 (by simp [z2s, *])]
 exact ⟨rfl,hm⟩
 replace hm:=hm.dl [0]
 show Out (z7n t pos kd) _ _
 rw [name_err hq36 (by simp [z2s, *])];exact ⟨rfl,hm⟩
end Go.Sw
