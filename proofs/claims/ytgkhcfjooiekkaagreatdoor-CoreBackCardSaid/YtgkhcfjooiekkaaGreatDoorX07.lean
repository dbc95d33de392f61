import Derived.Test.YtgkhcfjooiekkaaGreatDoorProg
import Derived.Test.YtgkhcfjooiekkaaGreatDoorX01
import Derived.Test.YtgkhcfjooiekkaaGreatDoorX03
import Derived.Test.YtgkhcfjooiekkaaGreatDoorX04
import Derived.Test.YtgkhcfjooiekkaaGreatDoorX06
set_option linter.unusedVariables false
set_option linter.unusedSimpArgs false
namespace Go.Sw
open Go.Proofs
theorem y1z (p:Nat→Bool) (t:Bs):∀(f i j:Nat),j < runB p t f i→i+j < t.size∧p (z0k t (i+j))=true
 | 0,i,j,h=>by simp [runB] at h
 | f+1,i,j,h=>by
  simp only [runB] at h
  split at h
  ·rename_i h1
   cases j with
   | zero=>exact h1
   | succ j =>
    have:=y1z p t f (i+1) j (by omega)
    rw [show i+(j+1)=i+1+j by omega];exact this
  ·omega
theorem runB_end (p:Nat→Bool) (t:Bs):∀(f i:Nat),t.size≤i+f→i+runB p t f i < t.size→p (z0k t (i+runB p t f i))=false
 | 0,i,h,h2=>by simp only [runB] at h2 ⊢;omega
 | f+1,i,h,h2=>by
  by_cases h1:i < t.size∧p (z0k t i)=true
  ·have e:runB p t (f+1) i=runB p t f (i+1)+1:=by simp only [runB];rw [if_pos h1]
   rw [e] at h2 ⊢
   have:=runB_end p t f (i+1) (by omega) (by omega)
   rw [show i+(runB p t f (i+1)+1)=i+1+runB p t f (i+1) by omega];exact this
  ·have e:runB p t (f+1) i=0:=by simp only [runB];rw [if_neg h1]
   rw [e] at h2 ⊢
   cases hp:p (z0k t (i+0)) with
   | false=>rfl
   | true=>exact absurd ⟨by omega,hp⟩ h1
theorem byte_eq (b k:UInt8):(b==k)=decide (b.toNat=k.toNat):=by
 rw [Bool.eq_iff_iff];simp [UInt8.toNat_inj]
theorem sep_contains (b:UInt8):([32,10,40,41]:List UInt8).contains b=sepB b.toNat:=by
 simp only [List.contains_cons,List.contains_nil,sepB,byte_eq,Bool.or_false]
 simp [Bool.or_assoc]
theorem ext_byte {t:Bs} {i j:Nat} (hi:i+j < t.size):(t.extract i t.size).data.toList[j]? = some t[i+j]:=by
 rw [Array.getElem?_toList]
 have h:=ByteArray.data_extract (a:=t) (b:=i) (e:=t.size)
 rw [h,Array.getElem?_extract]
 have:t.data.size=t.size:=rfl
 rw [if_pos (by omega),Array.getElem?_eq_getElem (by omega)]
 rfl
theorem z8g {t:Bs} {i:Nat} (h:i < t.size):z0k t i=t[i].toNat:=by simp [z0k,h]
theorem ext_none {t:Bs} {i:Nat} {x:UInt8} {j:Nat} (h:(t.extract i t.size).data.toList[j]? = some x):i+j < t.size:=by
 have h1:=(List.getElem?_eq_some_iff.1 h).1
 have h2:(t.extract i t.size).data.toList.length=(t.extract i t.size).size:=by rw [Array.length_toList];rfl
 have h3:=ByteArray.size_extract (a:=t) (b:=i) (e:=t.size)
 omega
theorem wordLen_le {t:Bs} {i:Nat} (h:i≤t.size):i+z1e t i≤t.size:=z5l _ t t.size i h
theorem any_words {t:Bs} {i:Nat} (hi:i≤t.size):Lib.indexAny (t.extract i t.size).data.toList [32,10,40,41]=if i+z1e t i < t.size then ((z1e t i:Nat):Int) else -1:=by
 have hN:∀n,n≤z1e t i→Lib.NoAny (t.extract i t.size).data.toList [32,10,40,41] n:=fun n hn j b hj hb=>by
  have h1:=ext_none hb
  rw [ext_byte h1] at hb
  simp only [Option.some.injEq] at hb
  have h2:=(y1z (fun c => !sepB c) t t.size i j (by unfold z1e at hn;omega)).2
  rw [sep_contains,← hb,← z8g h1]
  simpa using h2
 split
 ·rename_i h
  have h2:=runB_end (fun c => !sepB c) t t.size i (by omega) h
  refine Lib.indexAny_hit (x:=t[i+z1e t i]) (hN _ (Nat.le_refl _)) (ext_byte h) ?_
  rw [sep_contains,← z8g h]
  simpa [z1e] using h2
 ·rename_i h
  refine Lib.indexAny_none ?_
  have h1:=wordLen_le hi
  have h2:(t.extract i t.size).data.toList.length=(t.extract i t.size).size:=by rw [Array.length_toList];rfl
  have h3:=ByteArray.size_extract (a:=t) (b:=i) (e:=t.size)
  exact hN _ (by omega)
def AscB (t:Bs):Prop:=∀(j:Nat) b,t.data.toList[j]? = some b→b.toNat < 128
theorem anyIx_ok {Φ:Fz} {K:List Res} {w:World} {t:Bs} {i:Nat} (ha:AscB t) (h2:t.size≤1000000) (hi:i≤t.size) (hm:Mem Φ K w) :
  Calls Tryz.prog 175 (List.toArray [.string (t.extract i t.size),.string ⟨#[32,10,40,41]⟩]) w (fun ee w'=>ee=.returned (.int .i64 (if i+z1e t i < t.size then ((z1e t i:Nat):Int) else -1))∧Mem Φ K w'):=by
 have h3:=ByteArray.size_extract (a:=t) (b:=i) (e:=t.size)
 refine (Tryz.strings_IndexAny_laid (t.extract i t.size) ⟨#[32,10,40,41]⟩ w (by omega) (by decide) (fun j b hb =>?_) (by
  intro j b hb
  have hl:(⟨#[32,10,40,41]⟩:ByteArray).data.toList=[32,10,40,41]:=rfl
  rw [hl] at hb
  have:=List.mem_of_getElem? hb
  simp only [List.mem_cons,List.not_mem_nil,or_false] at this
  rcases this with rfl | rfl | rfl | rfl <;> decide)).mono fun e w' he =>?_
 ·have h1:=ext_none hb
  rw [ext_byte h1] at hb
  refine ha (i+j) b ?_
  rw [← hb,Array.getElem?_toList]
  exact Array.getElem?_eq_getElem h1
 ·obtain ⟨rfl,hb⟩:=he
  refine ⟨?_,hm.below hb⟩
  rw [← any_words hi]
theorem word_neg {t:Bs} {i:Nat} (hi:i≤t.size) (h:(if i+z1e t i < t.size then ((z1e t i:Nat):Int) else -1) < 0):i+z1e t i=t.size:=by
 have:=wordLen_le hi
 split at h <;> omega
theorem word_pos {t:Bs} {i:Nat} (h:¬(if i+z1e t i < t.size then ((z1e t i:Nat):Int) else -1) < 0):(if i+z1e t i < t.size then ((z1e t i:Nat):Int) else -1)=((z1e t i:Nat):Int):=by
 split at h
 ·rename_i h1;rw [if_pos h1]
 ·omega
theorem words_end {t:Bs} {f i:Nat} (h:¬i < t.size):z5f t f i=[]:=by cases f with
 | zero=>rfl
 | succ f=>rw [z5f,if_neg h]
theorem words_sp {t:Bs} {f i:Nat} (h:i < t.size) (hf:t.size≤i+f) (hb:z0k t i=32∨z0k t i=10):z5f t f i=z5f t (f - 1) (i+1):=by
 obtain ⟨f,rfl⟩:∃k,f=k+1:=⟨f - 1,by omega⟩
 rw [z5f,if_pos h,if_pos hb];rfl
theorem words_par {t:Bs} {f i:Nat} (h:i < t.size) (hf:t.size≤i+f) (hn:¬(z0k t i=32∨z0k t i=10)) (hb:z0k t i=40∨z0k t i=41):z5f t f i=t.extract i (i+1)::z5f t (f - 1) (i+1):=by
 obtain ⟨f,rfl⟩:∃k,f=k+1:=⟨f - 1,by omega⟩
 rw [z5f,if_pos h,if_neg hn,if_pos hb];rfl
theorem words_word {t:Bs} {f i:Nat} (h:i < t.size) (hf:t.size≤i+f) (hn:¬(z0k t i=32∨z0k t i=10)) (hb:¬(z0k t i=40∨z0k t i=41)):z5f t f i=t.extract i (i+z1e t i)::z5f t (f - 1) (i+z1e t i):=by
 obtain ⟨f,rfl⟩:∃k,f=k+1:=⟨f - 1,by omega⟩
 rw [z5f,if_pos h,if_neg hn,if_neg hb];rfl
theorem wordLen_pos {t:Bs} {i:Nat} (h:i < t.size) (hn:¬(z0k t i=32∨z0k t i=10)) (hb:¬(z0k t i=40∨z0k t i=41)):0 < z1e t i:=by
 unfold z1e
 rw [runB_step,if_pos]
 ·omega
 ·refine ⟨h,?_⟩
  simp only [sepB]
  simp only [not_or] at hn hb
  simp [hn.1,hn.2,hb.1,hb.2]
theorem y2f {t:Bs}:∀f i s,s∈z5f t f i→s.size≤t.size
 | 0,i,s,h=>by cases h
 | f+1,i,s,h=>by
  have hx:∀a b,(t.extract a b).size≤t.size:=fun a b=>by have:=ByteArray.size_extract (a:=t) (b:=a) (e:=b);omega
  simp only [z5f] at h
  split at h
  ·split at h
   ·exact y2f f _ s h
   ·split at h
    ·rcases List.mem_cons.1 h with rfl | h
     ·exact hx _ _
     ·exact y2f f _ s h
    ·rcases List.mem_cons.1 h with rfl | h
     ·exact hx _ _
     ·exact y2f f _ s h
  ·cases h
theorem y2e {t:Bs}:∀f i,(z5f t f i).length≤f
 | 0,i=>by simp [z5f]
 | f+1,i=>by
  simp only [z5f]
  split
  ·split
   ·exact Nat.le_succ_of_le (y2e f _)
   ·split
    ·simpa using y2e f _
    ·simpa using y2e f _
  ·simp
theorem peek_size {ws:List Bs} {n:Nat} (h:∀s∈ws,s.size≤n) (j:Nat):(z0c ws j).size≤n:=by
 unfold z0c
 rw [List.getD_eq_getElem?_getD]
 cases hj:ws[j]? with
 | none=>exact Nat.zero_le _
 | some x=>exact h _ (List.mem_of_getElem? hj)
end Go.Sw

namespace Go.Sw
variable {Φ:Fz} {K:List Res} {w:World}
theorem Mem.freezeRowT {v:Value} {T:TypeId} {k i:Nat} {cs:List Value} (hm:Mem Φ K w) (hk:kget K i=some (.gs v T k cs)) :
  ∃Ψ,Φ.Le Ψ∧Mem Ψ (kdel K i) w∧Row Ψ v k cs∧∀K' w',Mem Ψ K' w'→Mem Φ (.gs v T k cs::K') w':=by
 have h:=hm.pull hk
 obtain ⟨m,hl,h2⟩:=hm.own _ (z1c hk)
 rcases h2 with ⟨rfl,rfl⟩ | ⟨b,cap,cur,rfl,h0,hg,hc,hmx,hcs,htake⟩
 ·refine ⟨Φ,Fz.Le.refl Φ,h.tail,.inl ⟨rfl,List.eq_nil_of_length_eq_zero (by simpa using hl)⟩,fun K' w' h' =>?_⟩
  have:cs=[]:=List.eq_nil_of_length_eq_zero (by simpa using hl)
  subst this
  exact h'.nilRow T k
 ·have hno:=h.no (b:=b) rfl
  refine ⟨_,Fz.le_add hno _,h.freezeHead (b:=b) rfl hg,.inr ⟨_,m,cap,rfl,hl,Nat.le_trans hc hmx,fun _=>⟨rfl,cur,T,(0,0),by simp [Fz.add],fun j v hj =>?_⟩⟩,fun K' w' h' =>?_⟩
  ·rw [← htake,List.getElem?_take] at hj
   split at hj
   ·simpa using hj
   ·cases hj
  ·have hb:w'.heap[b]? = some (.cells cur T (0,0)):=h'.fz b _ (by simp [Fz.add])
   have hk':∀c∈keys K',c≠b:=fun c hc e=>by
    have:=h'.apart c hc
    subst e
    simp [Fz.add] at this
   refine { fz:=fun c o hc=>h'.fz c o ((Fz.le_add hno _).obj c o hc),own:=fun r hr =>?_,os:=h'.os,out:=h'.out,nodup := ?_,apart:=fun c hc =>?_ }
   ·rcases List.mem_cons.1 hr with rfl | hr
    ·exact ⟨m,hl,.inr ⟨b,cap,cur,rfl,h0,hb,hc,hmx,hcs,htake⟩⟩
    ·exact h'.own r hr
   ·show (keys (.gs _ _ _ _::K')).Nodup
    simp only [keys,List.filterMap_cons,Res.foot,Value.ownBlock,List.nodup_cons]
    exact ⟨fun hc=>hk' _ hc rfl,h'.nodup⟩
   ·simp only [keys,List.filterMap_cons,Res.foot,Value.ownBlock,List.mem_cons] at hc
    rcases hc with rfl | hc
    ·exact hno
    ·have h3:=h'.apart c hc
     simp only [Fz.add,if_neg (hk' c hc)] at h3
     exact h3
theorem SliceOf.formO {α:Type} {R:Fz→List Value→α→Prop} {Φ:Fz} {k c:Nat} {q:Option Addr} {xs:List α} (h:SliceOf R Φ k (.slice q xs.length c) xs) (hk:0 < k) :
  xs.length≤9223372036854775807∧(xs≠[]→∃p,q=some p):=by
 obtain ⟨p,c',e,h1,h2⟩:=h.form hk
 injection e with e1 e2 e3
 subst e1
 exact ⟨h1,h2⟩
def Thaw (R:List Res) (Φ:Fz) (v:Value) (l:List Bs):Prop :=
 ∀(Ψ:Fz) (K:List Res) (w:World),Φ.Le Ψ→Mem Ψ (R++K) w→∃Ψ2,Ψ.Le Ψ2∧Mem Ψ2 K w∧SliceOf RStr Ψ2 1 v l∧∀K' w',Mem Ψ2 K' w'→Mem Ψ (R++K') w'
theorem Thaw.none {Φ:Fz} {v:Value} {l:List Bs} (h:SliceOf RStr Φ 1 v l):Thaw [] Φ v l :=
 fun Ψ _ _ hl hm=>⟨Ψ,Fz.Le.refl _,hm,h.mono RStr.mono hl,fun _ _ h=>h⟩
theorem Thaw.own {Φ:Fz} {v:Value} {l:List Bs}:Thaw [.gs v 9 1 (strs l)] Φ v l:=fun _ _ _ _ hm =>
 let ⟨Ψ2,h1,h2,h3,h4⟩:=hm.freezeRowT (i:=0) rfl
 ⟨Ψ2,h1,h2,SliceOf.strs.2 h3,h4⟩
theorem Thaw.mono {R:List Res} {Φ Ψ:Fz} {v:Value} {l:List Bs} (h:Thaw R Φ v l) (hl:Φ.Le Ψ):Thaw R Ψ v l :=
 fun Ψ2 K w h2 hm=>h Ψ2 K w (hl.trans h2) hm
def NewRow (Φ:Fz) (v:Value):Prop:=∀p n c,v=.slice (some p) n c→Φ.obj p.block=none
theorem NewRow.nil {Φ:Fz}:NewRow Φ (.slice none 0 0):=fun _ _ _ h=>by cases h
theorem NewRow.anti {Φ Ψ:Fz} {v:Value} (h:NewRow Ψ v) (hl:Φ.Le Ψ):NewRow Φ v:=fun p n c e=>by
 cases ho:Φ.obj p.block with
 | none=>rfl
 | some o=>exact absurd (hl.obj _ _ ho) (by rw [h p n c e];simp)
theorem Mem.freezeRowN {v:Value} {T:TypeId} {k i:Nat} {cs:List Value} (hm:Mem Φ K w) (hk:kget K i=some (.gs v T k cs)) :
  ∃Ψ,Φ.Le Ψ∧Mem Ψ (kdel K i) w∧Row Ψ v k cs∧NewRow Φ v:=by
 obtain ⟨Ψ,h1,h2,h3⟩:=hm.freezeRow hk
 refine ⟨Ψ,h1,h2,h3,fun p n c e =>?_⟩
 have h:=hm.pull hk
 obtain ⟨m,hl,h2⟩:=hm.own _ (z1c hk)
 rcases h2 with ⟨rfl,rfl⟩ | ⟨b,cap,cur,rfl,h0,hg,hc,hmx,hcs,htake⟩
 ·cases e
 ·have hno:=h.no (b:=b) rfl
  injection e with e1 _ _
  injection e1 with e1
  subst e1
  exact hno
def Fz.del (Φ:Fz) (b:Nat):Fz:={ Φ with obj:=fun c=>if c=b then none else Φ.obj c }
theorem At.del {Φ:Fz} {p:Addr} {cs:List Value} {b:Nat} (h:At Φ p cs) (hb:p.block≠b):At (Φ.del b) p cs:=by
 obtain ⟨h1,cur,T,o,h2,h3⟩:=h
 exact ⟨h1,cur,T,o,by simp only [Fz.del,if_neg hb];exact h2,h3⟩
structure Frozen (Φ Ψ:Fz) (b:Nat) (r:Res):Prop where
 le:Φ.Le Ψ
 has:∃o,Ψ.obj b=some o
 back:∀Ψ2 K w,Ψ.Le Ψ2→Mem Ψ2 K w→Φ.Le (Ψ2.del b)∧Mem (Ψ2.del b) (r::K) w
theorem Mem.freezeRowD {v:Value} {T:TypeId} {k i:Nat} {cs:List Value} (hm:Mem Φ K w) (hk:kget K i=some (.gs v T k cs)) (hne:cs≠[]) :
  ∃Ψ b,Mem Ψ (kdel K i) w∧Row Ψ v k cs∧Frozen Φ Ψ b (.gs v T k cs):=by
 have h:=hm.pull hk
 obtain ⟨m,hl,h2⟩:=hm.own _ (z1c hk)
 rcases h2 with ⟨rfl,rfl⟩ | ⟨b,cap,cur,rfl,h0,hg,hc,hmx,hcs,htake⟩
 ·exact absurd (List.eq_nil_of_length_eq_zero (by simpa using hl)) hne
 ·have hno:=h.no (b:=b) rfl
  refine ⟨_,b,h.freezeHead (b:=b) rfl hg,.inr ⟨_,m,cap,rfl,hl,Nat.le_trans hc hmx,fun _=>⟨rfl,cur,T,(0,0),by simp [Fz.add],fun j v hj =>?_⟩⟩,⟨Fz.le_add hno _,⟨.cells cur T (0,0),by simp [Fz.add]⟩,fun Ψ2 K' w' hl2 h' =>?_⟩⟩
  ·rw [← htake,List.getElem?_take] at hj
   split at hj
   ·simpa using hj
   ·cases hj
  ·have hb0:Ψ2.obj b=some (.cells cur T (0,0)):=hl2.obj b _ (by simp [Fz.add])
   have hb:w'.heap[b]? = some (.cells cur T (0,0)):=h'.fz b _ hb0
   have hk':∀c∈keys K',c≠b:=fun c hc e=>by
    have:=h'.apart c hc
    subst e
    rw [hb0] at this
    cases this
   refine ⟨⟨fun c o hc =>?_,(hl2.os).trans rfl,(hl2.out).trans rfl⟩,{ fz:=fun c o hc =>?_,own:=fun r hr =>?_,os:=h'.os,out:=h'.out,nodup := ?_,apart:=fun c hc =>?_ }⟩
   ·have hcb:c≠b:=fun e=>by subst e;rw [hno] at hc;cases hc
    simp only [Fz.del,if_neg hcb]
    exact hl2.obj c o ((Fz.le_add hno _).obj c o hc)
   ·simp only [Fz.del] at hc
    split at hc
    ·cases hc
    ·exact h'.fz c o hc
   ·rcases List.mem_cons.1 hr with rfl | hr
    ·exact ⟨m,hl,.inr ⟨b,cap,cur,rfl,h0,hb,hc,hmx,hcs,htake⟩⟩
    ·exact h'.own r hr
   ·show (keys (.gs _ _ _ _::K')).Nodup
    simp only [keys,List.filterMap_cons,Res.foot,Value.ownBlock,List.nodup_cons]
    exact ⟨fun hc=>hk' _ hc rfl,h'.nodup⟩
   ·simp only [keys,List.filterMap_cons,Res.foot,Value.ownBlock,List.mem_cons] at hc
    simp only [Fz.del]
    split
    ·rfl
    ·rename_i hcb
     rcases hc with rfl | hc
     ·exact absurd rfl hcb
     ·exact h'.apart c hc
theorem Frozen.ne {Φ Ψ Ψ2:Fz} {b:Nat} {r:Res} {v:Value} {p:Addr} {n c:Nat} (h:Frozen Φ Ψ b r) (hl:Ψ.Le Ψ2) (hn:NewRow Ψ2 v) (e:v=.slice (some p) n c):p.block≠b:=fun hb=>by
 obtain ⟨o,ho⟩:=h.has
 have h1:=hn p n c e
 rw [hb,hl.obj _ _ ho] at h1
 cases h1
end Go.Sw

namespace Go.Sw
open Go.Proofs.Tryz
open Go.Proofs
set_option maxRecDepth 20000
set_option maxHeartbeats 4000000
theorem apart_ok {Φ:Fz} {K:List Res} {w:World} {v0:Value} {l:List Bs} (rpl:SliceOf RStr Φ 1 v0 l) (G:Glob Φ) (hm:Mem Φ K w) :
  Calls Tryz.prog 84 (List.toArray [v0]) w (fun ee w'=>ee=.returned (.bool (apartP z0q [] l))∧Mem Φ K w'):=by
 obtain ⟨p0,c0,rfl,hm0,hn0⟩:=rpl.fm
 refine z0m func84 ntmps84 fun Q hQ a he =>?_
 refine MkM he hm fun b3 w hm a he =>?_
 refine go he hm fun a he =>?_
 refine z1l (he.ks [3,7,8]) hm (fun R m a w=>∃(i:Nat) (ds:List Bs),m=l.length - i∧R Φ [(9,.int .i64 ((i:Nat):Int))] [(0,.mp b3 (z3i ds))] a w∧(apartP z0q [] l=apartP z0q ds (l.drop i))) (l.length - 0) ⟨0,[],rfl,⟨he.pk,hm⟩,rfl⟩ ?_
 clear hm he
 rintro mm a w ⟨i,ds,hmu,⟨he,hm⟩,hI7⟩ L6 hL6
 replace hm:=hm.nf
 refine go he hm fun a he =>?_
 by_cases h9:i < l.length
 refine go he hm fun a he =>?_
 obtain ⟨q13,rfl,x14,hx15,cs16,hl17,ha18,hr19⟩:=rpl.el hn0 h9
 obtain rfl:cs16=[.string x14]:=hr19
 refine z1u call138 he hm (fun hB22 w hm a he =>?_) (fun hB22 w hm a he =>?_) (c:=isName_ok G hm)
 refine go he hm fun a he =>?_
 rcases hf23:mget ((z3i ds)) x14 with _ | vf24
 have hf23_:=congrArg (z0h false (.bool false)) hf23
 refine Qq he hm (fun a he =>?_) (o:=by exact fun _ _ _ he hs=>Ok.cast (z1g 0 runUnderlying121 runUnderlying9 zeroValue4 he hs rfl rfl rfl) (show z0h false (.bool false) (mget ((z3i ds)) x14)=.bool false from hf23_))
 refine MapU 0 runUnderlying121 runUnderlying9 he hm fun w hm a he =>?_
 rw [← seenM_snoc] at hm
 refine go he hm fun a he =>?_
 refine hL6 _ _ _ (by subst hmu;omega) ⟨(i+1),(ds++[x14]),rfl,⟨he.pk,hm⟩,?_⟩
 rw [hI7,z0a hx15];have hn_:=seen_not hf23;simp [apartP, *]
 obtain ⟨rfl,hs25⟩:=seen_val hf23
 have hf23_:=congrArg (z0h false (.bool false)) hf23
 refine Qq he hm (fun a he =>?_) (o:=by exact fun _ _ _ he hs=>Ok.cast (z1g 0 runUnderlying121 runUnderlying9 zeroValue4 he hs rfl rfl rfl) (show z0h false (.bool false) (mget ((z3i ds)) x14)=.bool true from hf23_))
 refine go he hm fun a he =>?_
 replace hm:=hm.dl [0]
 refine Ret1 hQ he hm ?_
 exact z0w hm (by rw [hI7,z0a hx15];simp [apartP, *])
 refine go he hm fun a he =>?_
 replace hm:=hm.dl [0]
 refine Ret1 hQ he hm ?_
 exact z0w hm (by rw [hI7,z0a hx15];simp [apartP, *])
 refine go he hm fun a he =>?_
 replace hm:=hm.dl [0]
 refine Ret1 hQ he hm ?_
 exact z0w hm (by rw [hI7,z0g h9];rfl)
end Go.Sw

namespace Go.Sw
open Go.Proofs.Tryz
open Go.Proofs
set_option maxRecDepth 20000
set_option maxHeartbeats 4000000
variable {Φ:Fz} {K:List Res} {w:World}
theorem once_Data_ok {b:Nat} {m:List (Bs×Value)} {l:List (Bs×Data)} {name:Bs} {d2:List Value} {x:Data} (rpl:MapRel (RVa RData Φ) m l) (rpx:RData Φ d2 x) (hm:Mem Φ (.mp b m::K) w) :
  Calls Tryz.prog 190 (List.toArray [.map (some b),.string name,.agg d2.toArray]) w (fun ee w'=>ee=.returned (.bool ((lget l name).isNone))∧Mem Φ (.mp b (z5o m name (.agg d2.toArray))::K) w'):=by
 obtain ⟨s1,rfl,h2⟩:=id rpx
 obtain ⟨p3,c4,rfl,hm5,hn6⟩:=h2.fm
 refine z0m func190 ntmps190 fun Q hQ a he =>?_
 refine Bx he hm fun b8 w hm a he =>?_
 refine go he hm fun a he =>?_
 rcases hf11:mget (m) name with _ | vf12
 have hf11_:=congrArg (z0h true (.agg (List.toArray [.string ⟨#[]⟩,.slice none 0 0]))) hf11
 refine Qq he hm (fun a he =>?_) (o:=by exact fun _ _ _ he hs=>Ok.cast (z1g 1 runUnderlying101 runUnderlying9 zeroValue133 he hs rfl rfl rfl) (show z0h true (.agg (List.toArray [.string ⟨#[]⟩,.slice none 0 0])) (mget (m) name)=.tuple (List.toArray [.agg (List.toArray [.string ⟨#[]⟩,.slice none 0 0]),.bool false]) from hf11_))
 refine Alc he hm fun b13 w hm a he =>?_
 refine Sto 0 he hm fun w hm a he =>?_
 refine MapU 2 runUnderlying101 runUnderlying9 he hm fun w hm a he =>?_
 refine go he hm fun a he =>?_
 replace hm:=hm.dl [1,0]
 refine Ret1 hQ he hm ?_
 refine ⟨?_,?_⟩
 rw [rpl.none hf11];rfl
 simp only [z5o,hf11];exact hm
 obtain ⟨y17,hy18,cs19,rfl,hr20⟩:=rpl.get hf11
 obtain ⟨s21,rfl,h22⟩:=id hr20
 obtain ⟨p23,c24,rfl,hm25,hn26⟩:=h22.fm
 have hf11_:=congrArg (z0h true (.agg (List.toArray [.string ⟨#[]⟩,.slice none 0 0]))) hf11
 refine Qq he hm (fun a he =>?_) (o:=by exact fun _ _ _ he hs=>Ok.cast (z1g 1 runUnderlying101 runUnderlying9 zeroValue133 he hs rfl rfl rfl) (show z0h true (.agg (List.toArray [.string ⟨#[]⟩,.slice none 0 0])) (mget (m) name)=.tuple (List.toArray [.agg (List.toArray [.string y17.name,.slice p23 y17.cons.length c24]),.bool true]) from hf11_))
 refine Alc he hm fun b27 w hm a he =>?_
 refine Sto 0 he hm fun w hm a he =>?_
 refine go he hm fun a he =>?_
 replace hm:=hm.dl [1,0]
 refine Ret1 hQ he hm ?_
 refine ⟨?_,?_⟩
 rw [hy18];rfl
 simp only [z5o,hf11];exact hm
theorem z5c {b:Nat} {m:List (Bs×Value)} {l:List (Bs×Maker)} {name:Bs} {d2:List Value} {x:Maker} (rpl:MapRel (RVa RMaker Φ) m l) (rpx:RMaker Φ d2 x) (hm:Mem Φ (.mp b m::K) w) :
  Calls Tryz.prog 191 (List.toArray [.map (some b),.string name,.agg d2.toArray]) w (fun ee w'=>ee=.returned (.bool ((lget l name).isNone))∧Mem Φ (.mp b (z5o m name (.agg d2.toArray))::K) w'):=by
 obtain ⟨b1,rfl,h2⟩:=id rpx
 obtain ⟨s3,rfl,h4⟩:=id h2
 obtain ⟨p5,c6,rfl,hm7,hn8⟩:=h4.fm
 refine z0m func191 ntmps191 fun Q hQ a he =>?_
 refine Bx he hm fun b10 w hm a he =>?_
 refine go he hm fun a he =>?_
 rcases hf13:mget (m) name with _ | vf14
 have hf13_:=congrArg (z0h true (.agg (List.toArray [.string ⟨#[]⟩,.string ⟨#[]⟩,.slice none 0 0]))) hf13
 refine Qq he hm (fun a he =>?_) (o:=by exact fun _ _ _ he hs=>Ok.cast (z1g 1 runUnderlying102 runUnderlying9 zeroValue190 he hs rfl rfl rfl) (show z0h true (.agg (List.toArray [.string ⟨#[]⟩,.string ⟨#[]⟩,.slice none 0 0])) (mget (m) name)=.tuple (List.toArray [.agg (List.toArray [.string ⟨#[]⟩,.string ⟨#[]⟩,.slice none 0 0]),.bool false]) from hf13_))
 refine Alc he hm fun b15 w hm a he =>?_
 refine Sto 0 he hm fun w hm a he =>?_
 refine MapU 2 runUnderlying102 runUnderlying9 he hm fun w hm a he =>?_
 refine go he hm fun a he =>?_
 replace hm:=hm.dl [1,0]
 refine Ret1 hQ he hm ?_
 refine ⟨?_,?_⟩
 rw [rpl.none hf13];rfl
 simp only [z5o,hf13];exact hm
 obtain ⟨y19,hy20,cs21,rfl,hr22⟩:=rpl.get hf13
 obtain ⟨b23,rfl,h24⟩:=id hr22
 obtain ⟨s25,rfl,h26⟩:=id h24
 obtain ⟨p27,c28,rfl,hm29,hn30⟩:=h26.fm
 have hf13_:=congrArg (z0h true (.agg (List.toArray [.string ⟨#[]⟩,.string ⟨#[]⟩,.slice none 0 0]))) hf13
 refine Qq he hm (fun a he =>?_) (o:=by exact fun _ _ _ he hs=>Ok.cast (z1g 1 runUnderlying102 runUnderlying9 zeroValue190 he hs rfl rfl rfl) (show z0h true (.agg (List.toArray [.string ⟨#[]⟩,.string ⟨#[]⟩,.slice none 0 0])) (mget (m) name)=.tuple (List.toArray [.agg (List.toArray [.string y19.data,.string y19.con.name,.slice p27 y19.con.fields.length c28]),.bool true]) from hf13_))
 refine Alc he hm fun b31 w hm a he =>?_
 refine Sto 0 he hm fun w hm a he =>?_
 refine go he hm fun a he =>?_
 replace hm:=hm.dl [1,0]
 refine Ret1 hQ he hm ?_
 refine ⟨?_,?_⟩
 rw [hy20];rfl
 simp only [z5o,hf13];exact hm
theorem once_Fun_ok {b:Nat} {m:List (Bs×Value)} {l:List (Bs×Fun)} {name:Bs} {d2:List Value} {x:Fun} (rpl:MapRel (RVa RFun Φ) m l) (rpx:RFun Φ d2 x) (hm:Mem Φ (.mp b m::K) w) :
  Calls Tryz.prog 192 (List.toArray [.map (some b),.string name,.agg d2.toArray]) w (fun ee w'=>ee=.returned (.bool ((lget l name).isNone))∧Mem Φ (.mp b (z5o m name (.agg d2.toArray))::K) w'):=by
 obtain ⟨s1,b7,rfl,h2,h8⟩:=id rpx
 obtain ⟨p3,c4,rfl,hm5,hn6⟩:=h2.fm
 obtain ⟨p11,c12,p17,c18,rfl,hi21,h10,h16,hm13,hn14,hm19,hn20⟩:=REx.fm h8
 refine z0m func192 ntmps192 fun Q hQ a he =>?_
 refine Bx he hm fun b23 w hm a he =>?_
 refine go he hm fun a he =>?_
 rcases hf26:mget (m) name with _ | vf27
 have hf26_:=congrArg (z0h true (.agg (List.toArray [.string ⟨#[]⟩,.slice none 0 0,.string ⟨#[]⟩,.int .i64 ((0:Nat):Int),.int .i64 ((0:Nat):Int),.string ⟨#[]⟩,.slice none 0 0,.slice none 0 0]))) hf26
 refine Qq he hm (fun a he =>?_) (o:=by exact fun _ _ _ he hs=>Ok.cast (z1g 1 runUnderlying103 runUnderlying9 zeroValue68 he hs rfl rfl rfl) (show z0h true (.agg (List.toArray [.string ⟨#[]⟩,.slice none 0 0,.string ⟨#[]⟩,.int .i64 ((0:Nat):Int),.int .i64 ((0:Nat):Int),.string ⟨#[]⟩,.slice none 0 0,.slice none 0 0])) (mget (m) name)=.tuple (List.toArray [.agg (List.toArray [.string ⟨#[]⟩,.slice none 0 0,.string ⟨#[]⟩,.int .i64 ((0:Nat):Int),.int .i64 ((0:Nat):Int),.string ⟨#[]⟩,.slice none 0 0,.slice none 0 0]),.bool false]) from hf26_))
 refine Alc he hm fun b28 w hm a he =>?_
 refine Sto 0 he hm fun w hm a he =>?_
 refine MapU 2 runUnderlying103 runUnderlying9 he hm fun w hm a he =>?_
 refine go he hm fun a he =>?_
 replace hm:=hm.dl [1,0]
 refine Ret1 hQ he hm ?_
 refine ⟨?_,?_⟩
 rw [rpl.none hf26];rfl
 simp only [z5o,hf26];exact hm
 obtain ⟨y32,hy33,cs34,rfl,hr35⟩:=rpl.get hf26
 obtain ⟨s36,b42,rfl,h37,h43⟩:=id hr35
 obtain ⟨p38,c39,rfl,hm40,hn41⟩:=h37.fm
 obtain ⟨p46,c47,p52,c53,rfl,hi56,h45,h51,hm48,hn49,hm54,hn55⟩:=REx.fm h43
 have hf26_:=congrArg (z0h true (.agg (List.toArray [.string ⟨#[]⟩,.slice none 0 0,.string ⟨#[]⟩,.int .i64 ((0:Nat):Int),.int .i64 ((0:Nat):Int),.string ⟨#[]⟩,.slice none 0 0,.slice none 0 0]))) hf26
 refine Qq he hm (fun a he =>?_) (o:=by exact fun _ _ _ he hs=>Ok.cast (z1g 1 runUnderlying103 runUnderlying9 zeroValue68 he hs rfl rfl rfl) (show z0h true (.agg (List.toArray [.string ⟨#[]⟩,.slice none 0 0,.string ⟨#[]⟩,.int .i64 ((0:Nat):Int),.int .i64 ((0:Nat):Int),.string ⟨#[]⟩,.slice none 0 0,.slice none 0 0])) (mget (m) name)=.tuple (List.toArray [.agg (List.toArray [.string y32.name,.slice p38 y32.params.length c39,.string y32.result,.int .i64 (y32.body.kind),.int .i64 (y32.body.num),.string y32.body.name,.slice p46 y32.body.args.length c47,.slice p52 y32.body.arms.length c53]),.bool true]) from hf26_))
 refine Alc he hm fun b57 w hm a he =>?_
 refine Sto 0 he hm fun w hm a he =>?_
 refine go he hm fun a he =>?_
 replace hm:=hm.dl [1,0]
 refine Ret1 hQ he hm ?_
 refine ⟨?_,?_⟩
 rw [hy33];rfl
 simp only [z5o,hf26];exact hm
theorem once_Bs_ok {b:Nat} {m:List (Bs×Value)} {l:List (Bs×Bs)} {name:Bs} {x:Bs} (rpl:MapRel RVs m l) (hm:Mem Φ (.mp b m::K) w) :
  Calls Tryz.prog 193 (List.toArray [.map (some b),.string name,.string x]) w (fun ee w'=>ee=.returned (.bool ((lget l name).isNone))∧Mem Φ (.mp b (z5o m name (.string x))::K) w'):=by
 refine z0m func193 ntmps193 fun Q hQ a he =>?_
 refine go he hm fun a he =>?_
 rcases hf4:mget (m) name with _ | vf5
 have hf4_:=congrArg (z0h true (.string ⟨#[]⟩)) hf4
 refine Qq he hm (fun a he =>?_) (o:=by exact fun _ _ _ he hs=>Ok.cast (z1g 0 runUnderlying104 runUnderlying9 zeroValue9 he hs rfl rfl rfl) (show z0h true (.string ⟨#[]⟩) (mget (m) name)=.tuple (List.toArray [.string ⟨#[]⟩,.bool false]) from hf4_))
 refine MapU 0 runUnderlying104 runUnderlying9 he hm fun w hm a he =>?_
 refine Ret1 hQ he hm ?_
 refine ⟨?_,?_⟩
 rw [rpl.none hf4];rfl
 simp only [z5o,hf4];exact hm
 obtain ⟨y9,hy10,rfl⟩:=rpl.get hf4
 have hf4_:=congrArg (z0h true (.string ⟨#[]⟩)) hf4
 refine Qq he hm (fun a he =>?_) (o:=by exact fun _ _ _ he hs=>Ok.cast (z1g 0 runUnderlying104 runUnderlying9 zeroValue9 he hs rfl rfl rfl) (show z0h true (.string ⟨#[]⟩) (mget (m) name)=.tuple (List.toArray [.string y9,.bool true]) from hf4_))
 refine Ret1 hQ he hm ?_
 refine ⟨?_,?_⟩
 rw [hy10];rfl
 simp only [z5o,hf4];exact hm
end Go.Sw

namespace Go.Sw
open Go.Proofs.Tryz
open Go.Proofs
set_option maxRecDepth 20000
set_option maxHeartbeats 4000000
theorem isType_ok {Φ:Fz} {K:List Res} {w:World} {p0:Addr} {T:Table} {name:Bs} (rpT:RTable Φ p0 T) (hm:Mem Φ K w) :
  Calls Tryz.prog 80 (List.toArray [.pointer (some p0),.string name]) w (fun ee w'=>ee=.returned (.bool (z4k T name))∧Mem Φ K w'):=by
 obtain ⟨cs17,m1,m2,m3,m4,d5,d6,d7,d8,hat18,hcl19,hcore20,ma9,mr13,ma10,mr14,ma11,mr15,ma12,mr16⟩:=rpT.ex
 obtain ⟨p23,c24,p29,c30,p35,c36,p41,c42,rfl,h22,h28,h34,h40,hm25,hn26,hm31,hn32,hm37,hn38,hm43,hn44⟩:=RCore.fm hcore20
 refine z0m func80 ntmps80 fun Q hQ a he =>?_
 refine go he hm fun a he =>?_
 rcases hf47:mget (d5) name with _ | vf48
 have hf47_:=congrArg (z0h true (.agg (List.toArray [.string ⟨#[]⟩,.slice none 0 0]))) hf47
 refine Qq he hm (fun a he =>?_) (o:=by exact fun _ _ _ he hs=>Ok.cast (z0p runUnderlying101 runUnderlying9 zeroValue133 he hs rfl rfl ma9) (show z0h true (.agg (List.toArray [.string ⟨#[]⟩,.slice none 0 0])) (mget (d5) name)=.tuple (List.toArray [.agg (List.toArray [.string ⟨#[]⟩,.slice none 0 0]),.bool false]) from hf47_))
 refine Alc he hm fun b49 w hm a he =>?_
 refine Sto 0 he hm fun w hm a he =>?_
 refine Qq he hm (fun a he =>?_) (o:=by exact fun _ _ _ he hs=>y_seqlD he rfl rfl)
 refine go he hm fun a he =>?_
 replace hm:=hm.dl [0]
 refine Ret1 hQ he hm ?_
 exact z0w hm (by have e_:=MapRel.none mr13 hf47;simp [z4k,sInt, *] <;> rfl)
 obtain ⟨y51,hy52,cs53,rfl,hr54⟩:=mr13.get hf47
 obtain ⟨s55,rfl,h56⟩:=id hr54
 obtain ⟨p57,c58,rfl,hm59,hn60⟩:=h56.fm
 have hf47_:=congrArg (z0h true (.agg (List.toArray [.string ⟨#[]⟩,.slice none 0 0]))) hf47
 refine Qq he hm (fun a he =>?_) (o:=by exact fun _ _ _ he hs=>Ok.cast (z0p runUnderlying101 runUnderlying9 zeroValue133 he hs rfl rfl ma9) (show z0h true (.agg (List.toArray [.string ⟨#[]⟩,.slice none 0 0])) (mget (d5) name)=.tuple (List.toArray [.agg (List.toArray [.string y51.name,.slice p57 y51.cons.length c58]),.bool true]) from hf47_))
 refine Alc he hm fun b61 w hm a he =>?_
 refine Sto 0 he hm fun w hm a he =>?_
 refine go he hm fun a he =>?_
 replace hm:=hm.dl [0]
 refine Ret1 hQ he hm ?_
 exact z0w hm (by simp [z4k,sInt, *] <;> rfl)
theorem bare_ok {Φ:Fz} {K:List Res} {w:World} {d0:List Value} {e:Ex} {nm:Bool} {sn:Bool} {ar:Int} {rm:Int} (rpe:REx Φ d0 e) (hm:Mem Φ K w) :
  Calls Tryz.prog 186 (List.toArray [.agg d0.toArray,.bool nm,.bool sn,.int .i64 ar,.int .i64 rm]) w (fun ee w'=>ee=.returned (.bool (z2x e nm sn ar rm))∧Mem Φ K w'):=by
 obtain ⟨p3,c4,p9,c10,rfl,hi13,h2,h8,hm5,hn6,hm11,hn12⟩:=REx.fm rpe
 refine z0m func186 ntmps186 fun Q hQ a he =>?_
 refine Bx he hm fun b15 w hm a he =>?_
 refine go he hm fun a he =>?_
 cases nm
 refine go he hm fun a he =>?_
 by_cases h17:e.num=0
 refine go he hm fun a he =>?_
 cases sn
 refine go he hm fun a he =>?_
 by_cases h18:e.name=(⟨#[]⟩:ByteArray)
 refine go he hm fun a he =>?_
 by_cases h19:ar < 0
 refine go he hm fun a he =>?_
 by_cases h20:rm < 0
 refine go he hm fun a he =>?_
 replace hm:=hm.dl [0]
 refine Ret1 hQ he hm ?_
 exact z0w hm (by simp [z2x, *] <;> omega)
 refine Qq he hm (fun a he =>?_) (o:=by exact fun _ _ _ he hs=>z9k he rfl rfl)
 refine go he hm fun a he =>?_
 replace hm:=hm.dl [0]
 refine Ret1 hQ he hm ?_
 exact z0w hm (by simp [z2x, *] <;> omega)
 refine go he hm fun a he =>?_
 by_cases h21:((e.args.length:Nat):Int)=ar
 refine go he hm fun a he =>?_
 by_cases h22:rm < 0
 refine go he hm fun a he =>?_
 replace hm:=hm.dl [0]
 refine Ret1 hQ he hm ?_
 exact z0w hm (by simp [z2x, *] <;> omega)
 refine Qq he hm (fun a he =>?_) (o:=by exact fun _ _ _ he hs=>z9k he rfl rfl)
 refine go he hm fun a he =>?_
 replace hm:=hm.dl [0]
 refine Ret1 hQ he hm ?_
 exact z0w hm (by simp [z2x, *] <;> omega)
 refine go he hm fun a he =>?_
 replace hm:=hm.dl [0]
 refine Ret1 hQ he hm ?_
 exact z0w hm (by simp [z2x, *] <;> omega)
 refine go he hm fun a he =>?_
 replace hm:=hm.dl [0]
 refine Ret1 hQ he hm ?_
 exact z0w hm (by simp [z2x, *] <;> omega)
 refine go he hm fun a he =>?_
 by_cases h23:ar < 0
 refine go he hm fun a he =>?_
 by_cases h24:rm < 0
 refine go he hm fun a he =>?_
 replace hm:=hm.dl [0]
 refine Ret1 hQ he hm ?_
 exact z0w hm (by simp [z2x, *] <;> omega)
 refine Qq he hm (fun a he =>?_) (o:=by exact fun _ _ _ he hs=>z9k he rfl rfl)
 refine go he hm fun a he =>?_
 replace hm:=hm.dl [0]
 refine Ret1 hQ he hm ?_
 exact z0w hm (by simp [z2x, *] <;> omega)
 refine go he hm fun a he =>?_
 by_cases h25:((e.args.length:Nat):Int)=ar
 refine go he hm fun a he =>?_
 by_cases h26:rm < 0
 refine go he hm fun a he =>?_
 replace hm:=hm.dl [0]
 refine Ret1 hQ he hm ?_
 exact z0w hm (by simp [z2x, *] <;> omega)
 refine Qq he hm (fun a he =>?_) (o:=by exact fun _ _ _ he hs=>z9k he rfl rfl)
 refine go he hm fun a he =>?_
 replace hm:=hm.dl [0]
 refine Ret1 hQ he hm ?_
 exact z0w hm (by simp [z2x, *] <;> omega)
 refine go he hm fun a he =>?_
 replace hm:=hm.dl [0]
 refine Ret1 hQ he hm ?_
 exact z0w hm (by simp [z2x, *] <;> omega)
 refine go he hm fun a he =>?_
 replace hm:=hm.dl [0]
 refine Ret1 hQ he hm ?_
 exact z0w hm (by simp [z2x, *] <;> omega)
 refine go he hm fun a he =>?_
 cases sn
 refine go he hm fun a he =>?_
 by_cases h27:e.name=(⟨#[]⟩:ByteArray)
 refine go he hm fun a he =>?_
 by_cases h28:ar < 0
 refine go he hm fun a he =>?_
 by_cases h29:rm < 0
 refine go he hm fun a he =>?_
 replace hm:=hm.dl [0]
 refine Ret1 hQ he hm ?_
 exact z0w hm (by simp [z2x, *] <;> omega)
 refine Qq he hm (fun a he =>?_) (o:=by exact fun _ _ _ he hs=>z9k he rfl rfl)
 refine go he hm fun a he =>?_
 replace hm:=hm.dl [0]
 refine Ret1 hQ he hm ?_
 exact z0w hm (by simp [z2x, *] <;> omega)
 refine go he hm fun a he =>?_
 by_cases h30:((e.args.length:Nat):Int)=ar
 refine go he hm fun a he =>?_
 by_cases h31:rm < 0
 refine go he hm fun a he =>?_
 replace hm:=hm.dl [0]
 refine Ret1 hQ he hm ?_
 exact z0w hm (by simp [z2x, *] <;> omega)
 refine Qq he hm (fun a he =>?_) (o:=by exact fun _ _ _ he hs=>z9k he rfl rfl)
 refine go he hm fun a he =>?_
 replace hm:=hm.dl [0]
 refine Ret1 hQ he hm ?_
 exact z0w hm (by simp [z2x, *] <;> omega)
 refine go he hm fun a he =>?_
 replace hm:=hm.dl [0]
 refine Ret1 hQ he hm ?_
 exact z0w hm (by simp [z2x, *] <;> omega)
 refine go he hm fun a he =>?_
 replace hm:=hm.dl [0]
 refine Ret1 hQ he hm ?_
 exact z0w hm (by simp [z2x, *] <;> omega)
 refine go he hm fun a he =>?_
 by_cases h32:ar < 0
 refine go he hm fun a he =>?_
 by_cases h33:rm < 0
 refine go he hm fun a he =>?_
 replace hm:=hm.dl [0]
 refine Ret1 hQ he hm ?_
 exact z0w hm (by simp [z2x, *] <;> omega)
 refine Qq he hm (fun a he =>?_) (o:=by exact fun _ _ _ he hs=>z9k he rfl rfl)
 refine go he hm fun a he =>?_
 replace hm:=hm.dl [0]
 refine Ret1 hQ he hm ?_
 exact z0w hm (by simp [z2x, *] <;> omega)
 refine go he hm fun a he =>?_
 by_cases h34:((e.args.length:Nat):Int)=ar
 refine go he hm fun a he =>?_
 by_cases h35:rm < 0
 refine go he hm fun a he =>?_
 replace hm:=hm.dl [0]
 refine Ret1 hQ he hm ?_
 exact z0w hm (by simp [z2x, *] <;> omega)
 refine Qq he hm (fun a he =>?_) (o:=by exact fun _ _ _ he hs=>z9k he rfl rfl)
 refine go he hm fun a he =>?_
 replace hm:=hm.dl [0]
 refine Ret1 hQ he hm ?_
 exact z0w hm (by simp [z2x, *] <;> omega)
 refine go he hm fun a he =>?_
 replace hm:=hm.dl [0]
 refine Ret1 hQ he hm ?_
 exact z0w hm (by simp [z2x, *] <;> omega)
end Go.Sw

namespace Go.Sw
open Go.Proofs.Tryz
open Go.Proofs
set_option maxRecDepth 20000
set_option maxHeartbeats 4000000
variable {Φ:Fz} {K:List Res} {w:World}
theorem number_ok {p0:Addr} {T:Table} {d1:List Value} {e:Ex} {b:Nat} {s:Scope} (rpT:RTable Φ p0 T) (rpe:REx Φ d1 e) (hm:Mem Φ (.mp b (smap s)::K) w) :
  Calls Tryz.prog 139 (List.toArray [.pointer (some p0),.agg d1.toArray,.map (some b)]) w (fun ee w'=>ee=.returned (.string (y1v e))∧Mem Φ (.mp b (smap s)::K) w'):=by
 obtain ⟨cs17,m1,m2,m3,m4,d5,d6,d7,d8,hat18,hcl19,hcore20,ma9,mr13,ma10,mr14,ma11,mr15,ma12,mr16⟩:=rpT.ex
 obtain ⟨p23,c24,p29,c30,p35,c36,p41,c42,rfl,h22,h28,h34,h40,hm25,hn26,hm31,hn32,hm37,hn38,hm43,hn44⟩:=RCore.fm hcore20
 obtain ⟨p47,c48,p53,c54,rfl,hi57,h46,h52,hm49,hn50,hm55,hn56⟩:=REx.fm rpe
 refine z0m func139 ntmps139 fun Q hQ a he =>?_
 refine Bx he hm fun b59 w hm a he =>?_
 refine z1u call186 he hm (fun hB62 w hm a he =>?_) (fun hB62 w hm a he =>?_) (c:=bare_ok rpe hm)
 refine go he hm fun a he =>?_
 replace hm:=hm.dl [0]
 refine Ret1 hQ he hm ?_
 exact ret_s hm (by simp [y1v,sNo,sInt,hB62])
 refine go he hm fun a he =>?_
 replace hm:=hm.dl [0]
 refine Ret1 hQ he hm ?_
 exact ret_s hm (by simp [y1v,sNo,sInt,hB62])
theorem variable_ok {p0:Addr} {T:Table} {d1:List Value} {e:Ex} {b:Nat} {s:Scope} (rpT:RTable Φ p0 T) (rpe:REx Φ d1 e) (hm:Mem Φ (.mp b (smap s)::K) w) :
  Calls Tryz.prog 140 (List.toArray [.pointer (some p0),.agg d1.toArray,.map (some b)]) w (fun ee w'=>ee=.returned (.string (z5r e s))∧Mem Φ (.mp b (smap s)::K) w'):=by
 obtain ⟨cs17,m1,m2,m3,m4,d5,d6,d7,d8,hat18,hcl19,hcore20,ma9,mr13,ma10,mr14,ma11,mr15,ma12,mr16⟩:=rpT.ex
 obtain ⟨p23,c24,p29,c30,p35,c36,p41,c42,rfl,h22,h28,h34,h40,hm25,hn26,hm31,hn32,hm37,hn38,hm43,hn44⟩:=RCore.fm hcore20
 obtain ⟨p47,c48,p53,c54,rfl,hi57,h46,h52,hm49,hn50,hm55,hn56⟩:=REx.fm rpe
 refine z0m func140 ntmps140 fun Q hQ a he =>?_
 refine Bx he hm fun b59 w hm a he =>?_
 refine z1u call186 he hm (fun hB62 w hm a he =>?_) (fun hB62 w hm a he =>?_) (c:=bare_ok rpe hm)
 refine go he hm fun a he =>?_
 rcases hf64:mget ((smap s)) e.name with _ | vf65
 have hf64_:=congrArg (z0h false (.string ⟨#[]⟩)) hf64
 refine Qq he hm (fun a he =>?_) (o:=by exact fun _ _ _ he hs=>Ok.cast (z1g 1 runUnderlying157 runUnderlying9 zeroValue9 he hs rfl rfl rfl) (show z0h false (.string ⟨#[]⟩) (mget ((smap s)) e.name)=.string ⟨#[]⟩ from hf64_))
 refine go he hm fun a he =>?_
 replace hm:=hm.dl [0]
 refine Ret1 hQ he hm ?_
 exact ret_s hm (by have e_:=smap_none hf64;simp [z5r,sNo,hB62,e_])
 obtain ⟨y66,hy67,rfl⟩:=smap_some hf64
 have hf64_:=congrArg (z0h false (.string ⟨#[]⟩)) hf64
 refine Qq he hm (fun a he =>?_) (o:=by exact fun _ _ _ he hs=>Ok.cast (z1g 1 runUnderlying157 runUnderlying9 zeroValue9 he hs rfl rfl rfl) (show z0h false (.string ⟨#[]⟩) (mget ((smap s)) e.name)=.string y66 from hf64_))
 refine go he hm fun a he =>?_
 replace hm:=hm.dl [0]
 refine Ret1 hQ he hm ?_
 exact ret_s hm (by simp [z5r,sNo,hB62,hy67])
 refine go he hm fun a he =>?_
 replace hm:=hm.dl [0]
 refine Ret1 hQ he hm ?_
 exact ret_s hm (by simp [z5r,sNo,hB62])
theorem inputT_ok {p0:Addr} {T:Table} {d1:List Value} {e:Ex} {b:Nat} {s:Scope} (rpT:RTable Φ p0 T) (rpe:REx Φ d1 e) (hm:Mem Φ (.mp b (smap s)::K) w) :
  Calls Tryz.prog 141 (List.toArray [.pointer (some p0),.agg d1.toArray,.map (some b)]) w (fun ee w'=>ee=.returned (.string (inputT T e))∧Mem Φ (.mp b (smap s)::K) w'):=by
 obtain ⟨cs17,m1,m2,m3,m4,d5,d6,d7,d8,hat18,hcl19,hcore20,ma9,mr13,ma10,mr14,ma11,mr15,ma12,mr16⟩:=rpT.ex
 obtain ⟨p23,c24,p29,c30,p35,c36,p41,c42,rfl,h22,h28,h34,h40,hm25,hn26,hm31,hn32,hm37,hn38,hm43,hn44⟩:=RCore.fm hcore20
 obtain ⟨p47,c48,p53,c54,rfl,hi57,h46,h52,hm49,hn50,hm55,hn56⟩:=REx.fm rpe
 refine z0m func141 ntmps141 fun Q hQ a he =>?_
 refine Bx he hm fun b59 w hm a he =>?_
 refine z1u call186 he hm (fun hB62 w hm a he =>?_) (fun hB62 w hm a he =>?_) (c:=bare_ok rpe hm)
 refine Reg [1,1,1,2,1,2,2,1] [0,1] he hm fun w hm a he =>?_
 refine go he hm fun a he =>?_
 rcases hf64:mget (d8) e.name with _ | vf65
 have hf64_:=congrArg (z0h false (.string ⟨#[]⟩)) hf64
 refine Qq he hm (fun a he =>?_) (o:=by exact fun _ _ _ he hs=>Ok.cast (z0p runUnderlying104 runUnderlying9 zeroValue9 he hs rfl rfl ma12) (show z0h false (.string ⟨#[]⟩) (mget (d8) e.name)=.string ⟨#[]⟩ from hf64_))
 refine go he hm fun a he =>?_
 replace hm:=hm.dl [0]
 refine Ret1 hQ he hm ?_
 exact ret_s hm (by have e_:=MapRel.none mr16 hf64;simp [inputT,sNo,hB62,e_])
 obtain ⟨y66,hy67,rfl⟩:=mr16.get hf64
 have hf64_:=congrArg (z0h false (.string ⟨#[]⟩)) hf64
 refine Qq he hm (fun a he =>?_) (o:=by exact fun _ _ _ he hs=>Ok.cast (z0p runUnderlying104 runUnderlying9 zeroValue9 he hs rfl rfl ma12) (show z0h false (.string ⟨#[]⟩) (mget (d8) e.name)=.string y66 from hf64_))
 refine go he hm fun a he =>?_
 replace hm:=hm.dl [0]
 refine Ret1 hQ he hm ?_
 exact ret_s hm (by simp [inputT,sNo,hB62,hy67])
 refine go he hm fun a he =>?_
 replace hm:=hm.dl [0]
 refine Ret1 hQ he hm ?_
 exact ret_s hm (by simp [inputT,sNo,hB62])
theorem all_ok {p0:Addr} {T:Table} {v1:Value} {xs:List Ex} {b:Nat} {s:Scope} {v3:Value} {ts:List Bs} (rpT:RTable Φ p0 T) (rpxs:SliceOf REx Φ 5 v1 xs) (rpts:SliceOf RStr Φ 1 v3 ts) (ih:∀x:Ex,x∈xs→∀{Φ:Fz} {K:List Res} {w:World} {p:Addr} {d:List Value} {b:Nat} {s:Scope},RTable Φ p T→REx Φ d x→Mem Φ (.mp b (smap s)::K) w→Calls Tryz.prog 86 (List.toArray [.pointer (some p),.agg d.toArray,.map (some b)]) w (fun ee w'=>ee=.returned (.string (z0f T x s).1)∧Mem Φ (.mp b (smap (z0f T x s).2)::K) w')) (hm:Mem Φ (.mp b (smap s)::K) w) :
  Calls Tryz.prog 187 (List.toArray [.pointer (some p0),v1,.map (some b),v3]) w (fun ee w'=>ee=.returned (.bool ((allP T xs s ts).1))∧Mem Φ (.mp b (smap (allP T xs s ts).2)::K) w'):=by
 obtain ⟨cs17,m1,m2,m3,m4,d5,d6,d7,d8,hat18,hcl19,hcore20,ma9,mr13,ma10,mr14,ma11,mr15,ma12,mr16⟩:=rpT.ex
 obtain ⟨p23,c24,p29,c30,p35,c36,p41,c42,rfl,h22,h28,h34,h40,hm25,hn26,hm31,hn32,hm37,hn38,hm43,hn44⟩:=RCore.fm hcore20
 obtain ⟨p1,c1,rfl,hm1,hn1⟩:=rpxs.fm
 obtain ⟨p3,c3,rfl,hm3,hn3⟩:=rpts.fm
 refine z0m func187 ntmps187 fun Q hQ a he =>?_
 refine go he hm fun a he =>?_
 by_cases h48:xs.length=ts.length
 refine go he hm fun a he =>?_
 refine z1l (he.ks [0,2,3,17,18]) hm (fun R m a w=>∃(i:Nat) (q:Scope),m=xs.length - i∧R Φ [(19,.int .i64 ((i:Nat):Int))] [(0,.mp b (smap q))] a w∧(allP T xs s ts=allQ T (xs.drop i) q (ts.drop i))) (xs.length - 0) ⟨0,s,rfl,⟨he.pk,hm⟩,by simp [allP, *]⟩ ?_
 clear hm he
 rintro mm a w ⟨i,q,hmu,⟨he,hm⟩,hI52⟩ L51 hL51
 replace hm:=hm.nf
 refine go he hm fun a he =>?_
 by_cases h54:i < xs.length
 refine go he hm fun a he =>?_
 obtain ⟨q58,rfl,x59,hx60,cs61,hl62,ha63,hr64⟩:=rpxs.el hn1 h54
 obtain ⟨p67,c68,p73,c74,rfl,hi77,h66,h72,hm69,hn70,hm75,hn76⟩:=REx.fm hr64
 refine Alc he hm fun b78 w hm a he =>?_
 refine Sto 0 he hm fun w hm a he =>?_
 replace hm:=hm.pl 1
 refine z0x call86 he hm (fun w hm a he =>?_) (c:=ih _ (by exact List.mem_of_getElem? hx60) rpT hr64 hm)
 refine go he hm fun a he =>?_
 by_cases h81:(z0f T x59 q).1=(⟨#[]⟩:ByteArray)
 refine go he hm fun a he =>?_
 replace hm:=hm.dl [1]
 refine Ret1 hQ he hm ?_
 have hr_:allP T xs s ts=(false,(z0f T x59 q).2):=by
  rw [hI52,z0a hx60];simp [allQ,sNo, *]
 show _∧_;rw [hr_];exact ⟨rfl,hm⟩
 refine go he hm fun a he =>?_
 have hb83:i < ts.length:=by omega
 obtain ⟨q84,rfl,x85,hx86,cs87,hl88,ha89,hr90⟩:=rpts.el hn3 hb83
 obtain rfl:cs87=[.string x85]:=hr90
 refine go he hm fun a he =>?_
 by_cases h91:(z0f T x59 q).1=x85
 refine go he hm fun a he =>?_
 replace hm:=hm.dl [1]
 refine hL51 _ _ _ (by subst hmu;omega) ⟨(i+1),((z0f T x59 q).2),rfl,⟨he.pk,hm⟩,?_⟩
 rw [hI52,z0a hx60,z0a hx86];rw [allQ_cons,if_neg (by rintro (h_ | h_) <;> simp_all [sNo])]
 refine go he hm fun a he =>?_
 replace hm:=hm.dl [1]
 refine Ret1 hQ he hm ?_
 have hr_:allP T xs s ts=(false,(z0f T x59 q).2):=by
  rw [hI52,z0a hx60,z0a hx86];simp [allQ,sNo, *]
 show _∧_;rw [hr_];exact ⟨rfl,hm⟩
 refine Ret1 hQ he hm ?_
 have hr_:allP T xs s ts=(true,q):=by
  rw [hI52,z0g h54];rfl
 show _∧_;rw [hr_];exact ⟨rfl,hm⟩
 refine Ret1 hQ he hm ?_
 have hr_:allP T xs s ts=(false,s):=by
  simp [allP, *]
 show _∧_;rw [hr_];exact ⟨rfl,hm⟩
end Go.Sw

namespace Go.Sw
open Go.Proofs.Tryz
open Go.Proofs
set_option maxRecDepth 20000
set_option maxHeartbeats 4000000
theorem con_ok {Φ:Fz} {K:List Res} {w:World} {p0:Addr} {T:Table} {d1:List Value} {e:Ex} {b:Nat} {s:Scope} (rpT:RTable Φ p0 T) (rpe:REx Φ d1 e) (ih:∀x:Ex,x.sz < e.sz→∀{Φ:Fz} {K:List Res} {w:World} {p:Addr} {d:List Value} {b:Nat} {s:Scope},RTable Φ p T→REx Φ d x→Mem Φ (.mp b (smap s)::K) w→Calls Tryz.prog 86 (List.toArray [.pointer (some p),.agg d.toArray,.map (some b)]) w (fun ee w'=>ee=.returned (.string (z0f T x s).1)∧Mem Φ (.mp b (smap (z0f T x s).2)::K) w')) (hm:Mem Φ (.mp b (smap s)::K) w) :
  Calls Tryz.prog 142 (List.toArray [.pointer (some p0),.agg d1.toArray,.map (some b)]) w (fun ee w'=>ee=.returned (.string ((conT T e s).1))∧Mem Φ (.mp b (smap (conT T e s).2)::K) w'):=by
 obtain ⟨cs17,m1,m2,m3,m4,d5,d6,d7,d8,hat18,hcl19,hcore20,ma9,mr13,ma10,mr14,ma11,mr15,ma12,mr16⟩:=rpT.ex
 obtain ⟨p23,c24,p29,c30,p35,c36,p41,c42,rfl,h22,h28,h34,h40,hm25,hn26,hm31,hn32,hm37,hn38,hm43,hn44⟩:=RCore.fm hcore20
 obtain ⟨p47,c48,p53,c54,rfl,hi57,h46,h52,hm49,hn50,hm55,hn56⟩:=REx.fm rpe
 refine z0m func142 ntmps142 fun Q hQ a he =>?_
 refine Bx he hm fun b59 w hm a he =>?_
 refine Reg [1,1,1,2,1,2,2,1,1,1,0,0,1] [0,1] he hm fun w hm a he =>?_
 refine go he hm fun a he =>?_
 rcases hf61:mget (d6) e.name with _ | vf62
 have hf61_:=congrArg (z0h true (.agg (List.toArray [.string ⟨#[]⟩,.string ⟨#[]⟩,.slice none 0 0]))) hf61
 refine Qq he hm (fun a he =>?_) (o:=by exact fun _ _ _ he hs=>Ok.cast (z0p runUnderlying102 runUnderlying9 zeroValue190 he hs rfl rfl ma10) (show z0h true (.agg (List.toArray [.string ⟨#[]⟩,.string ⟨#[]⟩,.slice none 0 0])) (mget (d6) e.name)=.tuple (List.toArray [.agg (List.toArray [.string ⟨#[]⟩,.string ⟨#[]⟩,.slice none 0 0]),.bool false]) from hf61_))
 refine Alc he hm fun b63 w hm a he =>?_
 refine Sto 0 he hm fun w hm a he =>?_
 refine go he hm fun a he =>?_
 replace hm:=hm.dl [1,0]
 refine Ret1 hQ he hm ?_
 have hr_:conT T e s=((⟨#[]⟩:ByteArray),s):=by
  have e_:=MapRel.none mr14 hf61
  simp [conT,sNo, *]
 show _∧_;rw [hr_];exact ⟨rfl,hm⟩
 obtain ⟨y67,hy68,cs69,rfl,hr70⟩:=mr14.get hf61
 obtain ⟨b71,rfl,h72⟩:=id hr70
 obtain ⟨s73,rfl,h74⟩:=id h72
 obtain ⟨p75,c76,rfl,hm77,hn78⟩:=h74.fm
 have hf61_:=congrArg (z0h true (.agg (List.toArray [.string ⟨#[]⟩,.string ⟨#[]⟩,.slice none 0 0]))) hf61
 refine Qq he hm (fun a he =>?_) (o:=by exact fun _ _ _ he hs=>Ok.cast (z0p runUnderlying102 runUnderlying9 zeroValue190 he hs rfl rfl ma10) (show z0h true (.agg (List.toArray [.string ⟨#[]⟩,.string ⟨#[]⟩,.slice none 0 0])) (mget (d6) e.name)=.tuple (List.toArray [.agg (List.toArray [.string y67.data,.string y67.con.name,.slice p75 y67.con.fields.length c76]),.bool true]) from hf61_))
 refine Alc he hm fun b79 w hm a he =>?_
 refine Sto 0 he hm fun w hm a he =>?_
 refine z1u call186 he hm (fun hB82 w hm a he =>?_) (fun hB82 w hm a he =>?_) (c:=bare_ok rpe hm)
 replace hm:=hm.pl 2
 refine z1u call187 he hm (fun hB83 w hm a he =>?_) (fun hB83 w hm a he =>?_) (c:=all_ok (T:=T) rpT h46 h74 (fun x hx=>ih x (Ex.lt_args hx)) hm)
 refine go he hm fun a he =>?_
 replace hm:=hm.dl [2,1]
 refine Ret1 hQ he hm ?_
 have hr_:conT T e s=(y67.data,(allP T e.args s y67.con.fields).2):=by
  simp [conT,sNo, *]
 show _∧_;rw [hr_];exact ⟨rfl,hm⟩
 refine go he hm fun a he =>?_
 replace hm:=hm.dl [2,1]
 refine Ret1 hQ he hm ?_
 have hr_:conT T e s=((⟨#[]⟩:ByteArray),(allP T e.args s y67.con.fields).2):=by
  simp [conT,sNo, *]
 show _∧_;rw [hr_];exact ⟨rfl,hm⟩
 refine go he hm fun a he =>?_
 replace hm:=hm.dl [1,0]
 refine Ret1 hQ he hm ?_
 have hr_:conT T e s=((⟨#[]⟩:ByteArray),s):=by
  simp [conT,sNo, *]
 show _∧_;rw [hr_];exact ⟨rfl,hm⟩
end Go.Sw

namespace Go.Sw
open Go.Proofs
set_option maxRecDepth 20000
set_option maxHeartbeats 4000000
theorem truths_ok {Φ:Fz} {K:List Res} {w:World} (hm:Mem Φ K w) :
  Calls Tryz.prog 188 (List.toArray []) w (fun ee w'=>∃y:Fz×List Value,ee=.returned (.agg y.2.toArray)∧(Φ.Le y.1∧RData y.1 y.2 truthsD)∧Mem y.1 K w'):=by
 refine z0m Tryz.func188 Tryz.ntmps188 fun Q hQ a he =>?_
 refine Alc he hm fun b2 w hm a he =>?_
 refine z1n he hm fun a he =>?_
 refine z1n he hm fun a he =>?_
 refine BldS he hm fun v4 w hm a he =>?_
 have hm0_:=hm
 clear hm
 obtain ⟨Ψ5,le6,hm,hrow7⟩:=hm0_.freezeRow (i:=0) rfl
 clear hm0_
 replace hm:=hm.nf
 have hsl8:SliceOf RCon Ψ5 2 _ (truthsD.cons):=⟨_,hrow7,⟨[_,_],[_,_],rfl,rfl,⟨_,rfl,SliceOf.nil 1⟩,[_,_],[],rfl,rfl,⟨_,rfl,SliceOf.nil 1⟩,rfl⟩⟩
 obtain ⟨p9,c10,hv_,hm11,hn12⟩:=hsl8.form (by decide)
 have hmk_:=hm
 clear hm
 subst hv_
 have hm:=hmk_
 clear hmk_
 refine z1n he hm fun a he =>?_
 refine Sto 0 he hm fun w hm a he =>?_
 refine go he hm fun a he =>?_
 have hmr:=hm
 replace hm:=hm.dl [0]
 refine RetA hQ he hmr ?_
 exact ⟨(Ψ5,_),rfl,⟨le6,_,rfl,hsl8⟩,hm⟩
end Go.Sw

namespace Go.Sw
open Go.Proofs.Tryz
open Go.Proofs
set_option maxRecDepth 20000
set_option maxHeartbeats 4000000
theorem op_ok {Φ:Fz} {K:List Res} {w:World} {p0:Addr} {T:Table} {d1:List Value} {e:Ex} {b:Nat} {s:Scope} (rpT:RTable Φ p0 T) (rpe:REx Φ d1 e) (ih:∀x:Ex,x.sz < e.sz→∀{Φ:Fz} {K:List Res} {w:World} {p:Addr} {d:List Value} {b:Nat} {s:Scope},RTable Φ p T→REx Φ d x→Mem Φ (.mp b (smap s)::K) w→Calls Tryz.prog 86 (List.toArray [.pointer (some p),.agg d.toArray,.map (some b)]) w (fun ee w'=>ee=.returned (.string (z0f T x s).1)∧Mem Φ (.mp b (smap (z0f T x s).2)::K) w')) (hm:Mem Φ (.mp b (smap s)::K) w) :
  Calls Tryz.prog 146 (List.toArray [.pointer (some p0),.agg d1.toArray,.map (some b)]) w (fun ee w'=>ee=.returned (.string ((opsT T e s).1))∧Mem Φ (.mp b (smap (opsT T e s).2)::K) w'):=by
 obtain ⟨cs17,m1,m2,m3,m4,d5,d6,d7,d8,hat18,hcl19,hcore20,ma9,mr13,ma10,mr14,ma11,mr15,ma12,mr16⟩:=rpT.ex
 obtain ⟨p23,c24,p29,c30,p35,c36,p41,c42,rfl,h22,h28,h34,h40,hm25,hn26,hm31,hn32,hm37,hn38,hm43,hn44⟩:=RCore.fm hcore20
 obtain ⟨p47,c48,p53,c54,rfl,hi57,h46,h52,hm49,hn50,hm55,hn56⟩:=REx.fm rpe
 refine z0m func146 ntmps146 fun Q hQ a he =>?_
 refine Bx he hm fun b59 w hm a he =>?_
 refine z1u call186 he hm (fun hB62 w hm a he =>?_) (fun hB62 w hm a he =>?_) (c:=bare_ok rpe hm)
 refine BldS he hm fun v63 w hm a he =>?_
 have hm0_:=hm
 clear hm
 obtain ⟨Ψ64,le65,hm,hrow66⟩:=hm0_.freezeRow (i:=0) rfl
 clear hm0_
 replace rpT:=rpT.mono le65
 replace h46:=h46.up le65
 replace rpe:=REx.mono _ _ _ _ le65 rpe
 replace hm:=hm.nf
 have hsl67:SliceOf RStr Ψ64 1 _ ([sInt,sInt]):=SliceOf.strs.2 hrow66
 obtain ⟨p68,c69,hv_,hm70,hn71⟩:=hsl67.form (by decide)
 have hmk_:=hm
 clear hm
 subst hv_
 have hm:=hmk_
 clear hmk_
 replace hm:=hm.pl 1
 refine z1u call187 he hm (fun hB72 w hm a he =>?_) (fun hB72 w hm a he =>?_) (c:=all_ok (T:=T) rpT h46 hsl67 (fun x hx=>ih x (Ex.lt_args hx)) hm)
 refine go he hm fun a he =>?_
 by_cases h77:e.name=(⟨#[43]⟩:ByteArray)
 refine go he hm fun a he =>?_
 replace hm:=hm.le (le65)
 replace hm:=hm.dl [1]
 refine Ret1 hQ he hm ?_
 have hr_:opsT T e s=((⟨#[73,110,116]⟩:ByteArray),(allP T e.args s ([sInt,sInt])).2):=by simp [opsT,opT,sNo,sBool,truthsD, *] <;> rfl
 show _∧_;rw [hr_];exact ⟨rfl,hm⟩
 refine go he hm fun a he =>?_
 by_cases h80:e.name=(⟨#[45]⟩:ByteArray)
 refine go he hm fun a he =>?_
 replace hm:=hm.le (le65)
 replace hm:=hm.dl [1]
 refine Ret1 hQ he hm ?_
 have hr_:opsT T e s=((⟨#[73,110,116]⟩:ByteArray),(allP T e.args s ([sInt,sInt])).2):=by simp [opsT,opT,sNo,sBool,truthsD, *] <;> rfl
 show _∧_;rw [hr_];exact ⟨rfl,hm⟩
 refine go he hm fun a he =>?_
 by_cases h83:e.name=(⟨#[42]⟩:ByteArray)
 refine go he hm fun a he =>?_
 replace hm:=hm.le (le65)
 replace hm:=hm.dl [1]
 refine Ret1 hQ he hm ?_
 have hr_:opsT T e s=((⟨#[73,110,116]⟩:ByteArray),(allP T e.args s ([sInt,sInt])).2):=by simp [opsT,opT,sNo,sBool,truthsD, *] <;> rfl
 show _∧_;rw [hr_];exact ⟨rfl,hm⟩
 refine go he hm fun a he =>?_
 by_cases h86:e.name=(⟨#[47]⟩:ByteArray)
 refine go he hm fun a he =>?_
 replace hm:=hm.le (le65)
 replace hm:=hm.dl [1]
 refine Ret1 hQ he hm ?_
 have hr_:opsT T e s=((⟨#[73,110,116]⟩:ByteArray),(allP T e.args s ([sInt,sInt])).2):=by simp [opsT,opT,sNo,sBool,truthsD, *] <;> rfl
 show _∧_;rw [hr_];exact ⟨rfl,hm⟩
 refine go he hm fun a he =>?_
 by_cases h88:e.name=(⟨#[37]⟩:ByteArray)
 refine go he hm fun a he =>?_
 replace hm:=hm.le (le65)
 replace hm:=hm.dl [1]
 refine Ret1 hQ he hm ?_
 have hr_:opsT T e s=((⟨#[73,110,116]⟩:ByteArray),(allP T e.args s ([sInt,sInt])).2):=by simp [opsT,opT,sNo,sBool,truthsD, *] <;> rfl
 show _∧_;rw [hr_];exact ⟨rfl,hm⟩
 refine go he hm fun a he =>?_
 by_cases h92:e.name=(⟨#[60]⟩:ByteArray)
 refine z2n call188 he hm (fun y94 w hG95 hm a he =>?_) (c:=truths_ok hm)
 obtain ⟨Ψ96,d97⟩:=y94
 obtain ⟨le98,hr99⟩:=hG95
 simp only at le98 hr99 hm he
 replace rpe:=REx.mono _ _ _ _ le98 rpe
 replace hm:=hm.nf
 obtain ⟨s100,rfl,h101⟩:=id hr99
 obtain ⟨p102,c103,rfl,hm104,hn105⟩:=h101.fm
 refine Qq he hm (fun a he =>?_) (o:=by exact fun _ _ _ he hs=>y_field runUnderlying133 rfl isAgg9 he rfl rfl)
 refine go he hm fun a he =>?_
 replace hm:=hm.le ((le65).trans le98)
 replace hm:=hm.dl [1]
 refine Ret1 hQ he hm ?_
 have hr_:opsT T e s=(truthsD.name,(allP T e.args s ([sInt,sInt])).2):=by simp [opsT,opT,sNo,sBool,truthsD, *] <;> rfl
 show _∧_;rw [hr_];exact ⟨rfl,hm⟩
 refine go he hm fun a he =>?_
 by_cases h106:e.name=(⟨#[61]⟩:ByteArray)
 refine z2n call188 he hm (fun y108 w hG109 hm a he =>?_) (c:=truths_ok hm)
 obtain ⟨Ψ110,d111⟩:=y108
 obtain ⟨le112,hr113⟩:=hG109
 simp only at le112 hr113 hm he
 replace rpe:=REx.mono _ _ _ _ le112 rpe
 replace hm:=hm.nf
 obtain ⟨s114,rfl,h115⟩:=id hr113
 obtain ⟨p116,c117,rfl,hm118,hn119⟩:=h115.fm
 refine Qq he hm (fun a he =>?_) (o:=by exact fun _ _ _ he hs=>y_field runUnderlying133 rfl isAgg9 he rfl rfl)
 refine go he hm fun a he =>?_
 replace hm:=hm.le ((le65).trans le112)
 replace hm:=hm.dl [1]
 refine Ret1 hQ he hm ?_
 have hr_:opsT T e s=(truthsD.name,(allP T e.args s ([sInt,sInt])).2):=by simp [opsT,opT,sNo,sBool,truthsD, *] <;> rfl
 show _∧_;rw [hr_];exact ⟨rfl,hm⟩
 refine go he hm fun a he =>?_
 replace hm:=hm.le (le65)
 replace hm:=hm.dl [1]
 refine Ret1 hQ he hm ?_
 have hr_:opsT T e s=((⟨#[]⟩:ByteArray),(allP T e.args s ([sInt,sInt])).2):=by simp [opsT,opT,sNo,sBool,truthsD, *] <;> rfl
 show _∧_;rw [hr_];exact ⟨rfl,hm⟩
 refine go he hm fun a he =>?_
 replace hm:=hm.le (le65)
 replace hm:=hm.dl [1]
 refine Ret1 hQ he hm ?_
 have hr_:opsT T e s=((⟨#[]⟩:ByteArray),(allP T e.args s ([sInt,sInt])).2):=by simp [opsT,opT,sNo,sBool,truthsD, *] <;> rfl
 show _∧_;rw [hr_];exact ⟨rfl,hm⟩
 refine go he hm fun a he =>?_
 replace hm:=hm.dl [0]
 refine Ret1 hQ he hm ?_
 have hr_:opsT T e s=((⟨#[]⟩:ByteArray),s):=by simp [opsT,opT,sNo,sBool,truthsD, *] <;> rfl
 show _∧_;rw [hr_];exact ⟨rfl,hm⟩
end Go.Sw

namespace Go.Sw
open Go.Proofs.Tryz
open Go.Proofs
set_option maxRecDepth 20000
set_option maxHeartbeats 4000000
theorem call_ok {Φ:Fz} {K:List Res} {w:World} {p0:Addr} {T:Table} {d1:List Value} {e:Ex} {b:Nat} {s:Scope} (rpT:RTable Φ p0 T) (rpe:REx Φ d1 e) (hT:∀n f,lget T.funs n=some f→f.params.length≤1000) (ih:∀x:Ex,x.sz < e.sz→∀{Φ:Fz} {K:List Res} {w:World} {p:Addr} {d:List Value} {b:Nat} {s:Scope},RTable Φ p T→REx Φ d x→Mem Φ (.mp b (smap s)::K) w→Calls Tryz.prog 86 (List.toArray [.pointer (some p),.agg d.toArray,.map (some b)]) w (fun ee w'=>ee=.returned (.string (z0f T x s).1)∧Mem Φ (.mp b (smap (z0f T x s).2)::K) w')) (hm:Mem Φ (.mp b (smap s)::K) w) :
  Calls Tryz.prog 143 (List.toArray [.pointer (some p0),.agg d1.toArray,.map (some b)]) w (fun ee w'=>ee=.returned (.string ((callT T e s).1))∧Mem Φ (.mp b (smap (callT T e s).2)::K) w'):=by
 obtain ⟨cs17,m1,m2,m3,m4,d5,d6,d7,d8,hat18,hcl19,hcore20,ma9,mr13,ma10,mr14,ma11,mr15,ma12,mr16⟩:=rpT.ex
 obtain ⟨p23,c24,p29,c30,p35,c36,p41,c42,rfl,h22,h28,h34,h40,hm25,hn26,hm31,hn32,hm37,hn38,hm43,hn44⟩:=RCore.fm hcore20
 obtain ⟨p47,c48,p53,c54,rfl,hi57,h46,h52,hm49,hn50,hm55,hn56⟩:=REx.fm rpe
 refine z0m func143 ntmps143 fun Q hQ a he =>?_
 refine Bx he hm fun b59 w hm a he =>?_
 refine Reg [1,1,1,2,1,2,2,1,1,1,0,0,1] [0,1] he hm fun w hm a he =>?_
 refine go he hm fun a he =>?_
 rcases hf61:mget (d7) e.name with _ | vf62
 have hf61_:=congrArg (z0h true (.agg (List.toArray [.string ⟨#[]⟩,.slice none 0 0,.string ⟨#[]⟩,.int .i64 ((0:Nat):Int),.int .i64 ((0:Nat):Int),.string ⟨#[]⟩,.slice none 0 0,.slice none 0 0]))) hf61
 refine Qq he hm (fun a he =>?_) (o:=by exact fun _ _ _ he hs=>Ok.cast (z0p runUnderlying103 runUnderlying9 zeroValue68 he hs rfl rfl ma11) (show z0h true (.agg (List.toArray [.string ⟨#[]⟩,.slice none 0 0,.string ⟨#[]⟩,.int .i64 ((0:Nat):Int),.int .i64 ((0:Nat):Int),.string ⟨#[]⟩,.slice none 0 0,.slice none 0 0])) (mget (d7) e.name)=.tuple (List.toArray [.agg (List.toArray [.string ⟨#[]⟩,.slice none 0 0,.string ⟨#[]⟩,.int .i64 ((0:Nat):Int),.int .i64 ((0:Nat):Int),.string ⟨#[]⟩,.slice none 0 0,.slice none 0 0]),.bool false]) from hf61_))
 refine Alc he hm fun b63 w hm a he =>?_
 refine Sto 0 he hm fun w hm a he =>?_
 refine go he hm fun a he =>?_
 replace hm:=hm.dl [1,0]
 refine Ret1 hQ he hm ?_
 have hr_:callT T e s=((⟨#[]⟩:ByteArray),s):=by
  have e_:=MapRel.none mr15 hf61
  simp [callT,sNo, *]
 show _∧_;rw [hr_];exact ⟨rfl,hm⟩
 obtain ⟨y67,hy68,cs69,rfl,hr70⟩:=mr15.get hf61
 obtain ⟨s71,b77,rfl,h72,h78⟩:=id hr70
 obtain ⟨p73,c74,rfl,hm75,hn76⟩:=h72.fm
 obtain ⟨p81,c82,p87,c88,rfl,hi91,h80,h86,hm83,hn84,hm89,hn90⟩:=REx.fm h78
 have hf61_:=congrArg (z0h true (.agg (List.toArray [.string ⟨#[]⟩,.slice none 0 0,.string ⟨#[]⟩,.int .i64 ((0:Nat):Int),.int .i64 ((0:Nat):Int),.string ⟨#[]⟩,.slice none 0 0,.slice none 0 0]))) hf61
 refine Qq he hm (fun a he =>?_) (o:=by exact fun _ _ _ he hs=>Ok.cast (z0p runUnderlying103 runUnderlying9 zeroValue68 he hs rfl rfl ma11) (show z0h true (.agg (List.toArray [.string ⟨#[]⟩,.slice none 0 0,.string ⟨#[]⟩,.int .i64 ((0:Nat):Int),.int .i64 ((0:Nat):Int),.string ⟨#[]⟩,.slice none 0 0,.slice none 0 0])) (mget (d7) e.name)=.tuple (List.toArray [.agg (List.toArray [.string y67.name,.slice p73 y67.params.length c74,.string y67.result,.int .i64 (y67.body.kind),.int .i64 (y67.body.num),.string y67.body.name,.slice p81 y67.body.args.length c82,.slice p87 y67.body.arms.length c88]),.bool true]) from hf61_))
 refine Alc he hm fun b92 w hm a he =>?_
 refine Sto 0 he hm fun w hm a he =>?_
 refine z1u call186 he hm (fun hB95 w hm a he =>?_) (fun hB95 w hm a he =>?_) (c:=bare_ok rpe hm)
 refine go he hm fun a he =>?_
 replace hm:=hm.nilRow 9 1
 replace hm:=hm.nf
 refine go he hm fun a he =>?_
 refine z1l (he.ks [0,2,4,7,30,31]) hm (fun R m a w=>∃(i:Nat) (u:Value) (ty:List Bs),m=y67.params.length - i∧R Φ [(9,u),(32,.int .i64 ((i:Nat):Int))] [(0,.gs (u) 9 1 (strs ty))] a w∧(y67.params.map Param.type=ty++(y67.params.drop i).map Param.type)) (y67.params.length - 0) ⟨0,.slice none 0 0,[],rfl,⟨he.pk,hm⟩,by simp⟩ ?_
 clear hm he
 rintro mm a w ⟨i,u,ty,hmu,⟨he,hm⟩,hI100⟩ L99 hL99
 replace hm:=hm.nf
 refine go he hm fun a he =>?_
 by_cases h102:i < y67.params.length
 refine go he hm fun a he =>?_
 obtain ⟨q106,rfl,x107,hx108,cs109,hl110,ha111,hr112⟩:=h72.el hn76 h102
 obtain rfl:=id hr112
 refine Alc he hm fun b113 w hm a he =>?_
 refine Sto 0 he hm fun w hm a he =>?_
 refine BldS he hm fun v114 w hm a he =>?_
 refine App_ 2 rt_25 he hm (fun v115 w hm a he =>?_) (hb:=by have hq_:=congrArg List.length hI100;have hp_:=hT _ _ hy68;simp only [List.length_map,List.length_append,z2h,List.length_cons,List.length_nil] at hq_ ⊢;omega)
 first | rw [z4x] at hm | rw [← z2g] at hm
 refine go he hm fun a he =>?_
 replace hm:=hm.dl [1,0]
 refine hL99 _ _ _ (by subst hmu;omega) ⟨(i+1),(v115),((ty++[x107.type])),rfl,⟨he.pk,hm⟩,?_⟩
 rw [hI100,z0a hx108];simp
 refine go he hm fun a he =>?_
 have htyp:ty=y67.params.map Param.type:=by rw [hI100,z0g h102];simp
 subst htyp
 refine go he hm fun a he =>?_
 have hm0_:=hm
 clear hm
 obtain ⟨Ψ119,le120,hm,hrow121⟩:=hm0_.freezeRow (i:=0) rfl
 clear hm0_
 replace rpT:=rpT.mono le120
 replace h46:=h46.up le120
 replace rpe:=REx.mono _ _ _ _ le120 rpe
 replace hr70:=RFun.mono _ _ _ _ le120 hr70
 replace h78:=REx.mono _ _ _ _ le120 h78
 replace hm:=hm.nf
 have hsl122:SliceOf RStr Ψ119 1 _ ((y67.params.map Param.type)):=SliceOf.strs.2 hrow121
 obtain ⟨p123,c124,hv_,hm125,hn126⟩:=hsl122.form (by decide)
 have hmk_:=hm
 clear hm
 subst hv_
 have hm:=hmk_
 clear hmk_
 replace hm:=hm.pl 2
 refine z1u call187 he hm (fun hB127 w hm a he =>?_) (fun hB127 w hm a he =>?_) (c:=all_ok (T:=T) rpT h46 hsl122 (fun x hx=>ih x (Ex.lt_args hx)) hm)
 refine go he hm fun a he =>?_
 replace hm:=hm.le (le120)
 replace hm:=hm.dl [2,1]
 refine Ret1 hQ he hm ?_
 have hr_:callT T e s=(y67.result,(allP T e.args s (y67.params.map Param.type)).2):=by
  clear hI100
  simp [callT,sNo, *]
 show _∧_;rw [hr_];exact ⟨rfl,hm⟩
 refine go he hm fun a he =>?_
 replace hm:=hm.le (le120)
 replace hm:=hm.dl [2,1]
 refine Ret1 hQ he hm ?_
 have hr_:callT T e s=((⟨#[]⟩:ByteArray),(allP T e.args s (y67.params.map Param.type)).2):=by
  clear hI100
  simp [callT,sNo, *]
 show _∧_;rw [hr_];exact ⟨rfl,hm⟩
 refine go he hm fun a he =>?_
 replace hm:=hm.dl [1,0]
 refine Ret1 hQ he hm ?_
 have hr_:callT T e s=((⟨#[]⟩:ByteArray),s):=by
  simp [callT,sNo, *]
 show _∧_;rw [hr_];exact ⟨rfl,hm⟩
end Go.Sw

namespace Go.Sw
open Go.Proofs.Tryz
open Go.Proofs
set_option maxRecDepth 20000
set_option maxHeartbeats 4000000
theorem split_ok {Φ:Fz} {K:List Res} {w:World} {p0:Addr} {T:Table} {d1:List Value} {e:Ex} {b:Nat} {s:Scope} (rpT:RTable Φ p0 T) (rpe:REx Φ d1 e) (ih:∀x:Ex,x.sz < e.sz→∀{Φ:Fz} {K:List Res} {w:World} {p:Addr} {d:List Value} {b:Nat} {s:Scope},RTable Φ p T→REx Φ d x→Mem Φ (.mp b (smap s)::K) w→Calls Tryz.prog 86 (List.toArray [.pointer (some p),.agg d.toArray,.map (some b)]) w (fun ee w'=>ee=.returned (.string (z0f T x s).1)∧Mem Φ (.mp b (smap (z0f T x s).2)::K) w')) (hm:Mem Φ (.mp b (smap s)::K) w) :
  Calls Tryz.prog 145 (List.toArray [.pointer (some p0),.agg d1.toArray,.map (some b)]) w (fun ee w'=>ee=.returned (.string ((z3x T e s).1))∧Mem Φ (.mp b (smap (z3x T e s).2)::K) w'):=by
 obtain ⟨cs17,m1,m2,m3,m4,d5,d6,d7,d8,hat18,hcl19,hcore20,ma9,mr13,ma10,mr14,ma11,mr15,ma12,mr16⟩:=rpT.ex
 obtain ⟨p23,c24,p29,c30,p35,c36,p41,c42,rfl,h22,h28,h34,h40,hm25,hn26,hm31,hn32,hm37,hn38,hm43,hn44⟩:=RCore.fm hcore20
 obtain ⟨p47,c48,p53,c54,rfl,hi57,h46,h52,hm49,hn50,hm55,hn56⟩:=REx.fm rpe
 refine z0m func145 ntmps145 fun Q hQ a he =>?_
 refine Bx he hm fun b59 w hm a he =>?_
 refine z1u call186 he hm (fun hB62 w hm a he =>?_) (fun hB62 w hm a he =>?_) (c:=bare_ok rpe hm)
 refine go he hm fun a he =>?_
 refine z2a [1,1,1,2,1,1,2,1,2,1,0,2,1,1,1,0,0,1] (.q 0 (.q 1 (.q 2 (.q 3 (.q 4 (.q 5 (.q 6 (.q 7 (.q 8 (.q 9 (.e2 10 15 (.q 11 (.q 12 (.q 13 (.q 14 (.e 15 (.e 16 (.q 17 (.done)))))))) (.e 10 (.q 11 (.q 12 (.q 13 (.q 14 (.e 16 (.q 17 (.done))))))))))))))))))) [0] he hm fun w hm =>?_
 have hlen:=z3q (n:=1) hB62
 refine go he hm fun a he =>?_
 have hb64:0 < e.args.length:=by omega
 obtain ⟨q65,rfl,x66,hx67,cs68,hl69,ha70,hr71⟩:=h46.el hn50 hb64
 obtain ⟨p74,c75,p80,c81,rfl,hi84,h73,h79,hm76,hn77,hm82,hn83⟩:=REx.fm hr71
 refine go he hm fun a he =>?_
 refine d_e2 ?_ ?_
 replace hm:=hm.pl 1
 refine z0x call86 he hm (fun w hm a he =>?_) (c:=ih _ (by first | exact Ex.lt_args (List.mem_of_getElem? hx67) | exact Ex.lt_arms (List.mem_of_getElem? hx67)) rpT hr71 hm)
 rcases hf85:mget (d5) ((z0f T x66 s).1) with _ | vf86
 have hf85_:=congrArg (z0h true (.agg (List.toArray [.string ⟨#[]⟩,.slice none 0 0]))) hf85
 refine Qq he hm (fun a he =>?_) (o:=by exact fun _ _ _ he hs=>Ok.cast (z0p runUnderlying101 runUnderlying9 zeroValue133 he hs rfl rfl ma9) (show z0h true (.agg (List.toArray [.string ⟨#[]⟩,.slice none 0 0])) (mget (d5) ((z0f T x66 s).1))=.tuple (List.toArray [.agg (List.toArray [.string ⟨#[]⟩,.slice none 0 0]),.bool false]) from hf85_))
 refine Alc he hm fun b87 w hm a he =>?_
 refine Sto 0 he hm fun w hm a he =>?_
 refine go he hm fun a he =>?_
 replace hm:=hm.dl [2,0]
 refine Ret1 hQ he hm ?_
 have hr_:z3x T e s=((⟨#[]⟩:ByteArray),(z0f T x66 s).2):=by
  have e_:=MapRel.none mr13 hf85
  simp [z3x,z2r hx67,sNo, *]
 show _∧_;rw [hr_];exact ⟨rfl,hm⟩
 obtain ⟨y91,hy92,cs93,rfl,hr94⟩:=mr13.get hf85
 obtain ⟨s95,rfl,h96⟩:=id hr94
 obtain ⟨p97,c98,rfl,hm99,hn100⟩:=h96.fm
 have hf85_:=congrArg (z0h true (.agg (List.toArray [.string ⟨#[]⟩,.slice none 0 0]))) hf85
 refine Qq he hm (fun a he =>?_) (o:=by exact fun _ _ _ he hs=>Ok.cast (z0p runUnderlying101 runUnderlying9 zeroValue133 he hs rfl rfl ma9) (show z0h true (.agg (List.toArray [.string ⟨#[]⟩,.slice none 0 0])) (mget (d5) ((z0f T x66 s).1))=.tuple (List.toArray [.agg (List.toArray [.string y91.name,.slice p97 y91.cons.length c98]),.bool true]) from hf85_))
 refine Alc he hm fun b101 w hm a he =>?_
 refine Sto 0 he hm fun w hm a he =>?_
 refine go he hm fun a he =>?_
 by_cases h104:y91.cons.length=e.arms.length
 refine go he hm fun a he =>?_
 refine z1l (he.ks [0,2,4,48,49]) hm (fun R m a w=>∃(i:Nat) (q:Scope) (out:Bs),m=y91.cons.length - i∧R Φ [(9,.string out),(50,.int .i64 ((i:Nat):Int))] [(1,.mp b (smap q))] a w∧(splitP T e.arms y91.cons true sNo ((z0f T x66 s).2)=splitP T (e.arms.drop i) (y91.cons.drop i) (decide (i=0)) out q)) (y91.cons.length - 0) ⟨0,(z0f T x66 s).2,sNo,rfl,⟨he.pk,hm⟩,rfl⟩ ?_
 clear hm he
 rintro mm a w ⟨i,q,out,hmu,⟨he,hm⟩,hI109⟩ L108 hL108
 replace hm:=hm.nf
 refine go he hm fun a he =>?_
 by_cases h111:i < y91.cons.length
 refine go he hm fun a he =>?_
 obtain ⟨q115,rfl,x116,hx117,cs118,hl119,ha120,hr121⟩:=h96.el hn100 h111
 obtain ⟨s122,rfl,h123⟩:=id hr121
 obtain ⟨p124,c125,rfl,hm126,hn127⟩:=h123.fm
 refine Alc he hm fun b128 w hm a he =>?_
 refine Sto 0 he hm fun w hm a he =>?_
 refine go he hm fun a he =>?_
 have hb130:i < e.arms.length:=by omega
 obtain ⟨q131,rfl,x132,hx133,cs134,hl135,ha136,hr137⟩:=h52.el hn56 hb130
 obtain ⟨s138,b144,rfl,h139,h145⟩:=RArm.iff.1 hr137
 obtain ⟨p140,c141,rfl,hm142,hn143⟩:=h139.fm
 obtain ⟨p148,c149,p154,c155,rfl,hi158,h147,h153,hm150,hn151,hm156,hn157⟩:=REx.fm h145
 refine Alc he hm fun b159 w hm a he =>?_
 refine Sto 0 he hm fun w hm a he =>?_
 refine go he hm fun a he =>?_
 by_cases h162:x132.con=x116.name
 refine go he hm fun a he =>?_
 by_cases h163:x132.vars.length=x116.fields.length
 refine go he hm fun a he =>?_
 refine z1l (he.ks [0,2,4,9,10,11,12,48,49,50,75,76]) hm (fun R m a w=>∃(k:Nat) (q2:Scope),m=x132.vars.length - k∧R Φ [(77,.int .i64 ((k:Nat):Int))] [(3,.mp b (smap q2))] a w∧(z3e q x132.vars x116.fields=z3e q2 (x132.vars.drop k) (x116.fields.drop k))) (x132.vars.length - 0) ⟨0,q,rfl,⟨he.pk,hm⟩,rfl⟩ ?_
 clear hm he
 rintro mm a w ⟨k,q2,hmu,⟨he,hm⟩,hI167⟩ L166 hL166
 replace hm:=hm.nf
 refine go he hm fun a he =>?_
 by_cases h169:k < x132.vars.length
 refine go he hm fun a he =>?_
 obtain ⟨q173,rfl,x174,hx175,cs176,hl177,ha178,hr179⟩:=h139.el hn143 h169
 obtain rfl:cs176=[.string x174]:=hr179
 refine go he hm fun a he =>?_
 have hb180:k < x116.fields.length:=by omega
 obtain ⟨q181,rfl,x182,hx183,cs184,hl185,ha186,hr187⟩:=h123.el hn127 hb180
 obtain rfl:cs184=[.string x182]:=hr187
 refine MapU 3 runUnderlying157 runUnderlying9 he hm fun w hm a he =>?_
 rw [smap_put] at hm
 refine go he hm fun a he =>?_
 refine hL166 _ _ _ (by subst hmu;omega) ⟨(k+1),((lput q2 x174 x182)),rfl,⟨he.pk,hm⟩,?_⟩
 rw [hI167,z0a hx175,z0a hx183];rfl
 replace hm:=hm.pl 3
 refine z0x call86 he hm (fun w hm a he =>?_) (c:=ih _ (by first | exact Ex.lt_args (List.mem_of_getElem? hx133) | exact Ex.lt_arms (List.mem_of_getElem? hx133)) rpT h145 hm)
 refine go he hm fun a he =>?_
 refine z1l (he.ks [0,2,4,9,10,15,48,49,50,96,97]) hm (fun R m a w=>∃(k3:Nat) (q3:Scope),m=x132.vars.length - k3∧R Φ [(98,.int .i64 ((k3:Nat):Int))] [(0,.mp b (smap q3))] a w∧(delAll ((z0f T x132.body q2).2) x132.vars=delAll q3 (x132.vars.drop k3))) (x132.vars.length - 0) ⟨0,(z0f T x132.body q2).2,rfl,⟨he.pk,hm⟩,rfl⟩ ?_
 clear hm he
 rintro mm a w ⟨k3,q3,hmu,⟨he,hm⟩,hI193⟩ L192 hL192
 replace hm:=hm.nf
 refine go he hm fun a he =>?_
 by_cases h195:k3 < x132.vars.length
 refine go he hm fun a he =>?_
 obtain ⟨q199,rfl,x200,hx201,cs202,hl203,ha204,hr205⟩:=h139.el hn143 h195
 obtain rfl:cs202=[.string x200]:=hr205
 refine go he hm fun a he =>?_
 refine st0 he rfl rfl (eff_delete 0 runUnderlying157 runUnderlying9 he hm rfl rfl rfl fun w hm a he =>?_)
 rw [smap_del] at hm
 refine go he hm fun a he =>?_
 refine hL192 _ _ _ (by subst hmu;omega) ⟨(k3+1),((ldel q3 x200)),rfl,⟨he.pk,hm⟩,?_⟩
 rw [hI193,z0a hx201];rfl
 refine go he hm fun a he =>?_
 by_cases h209:(z0f T x132.body q2).1=(⟨#[]⟩:ByteArray)
 refine go he hm fun a he =>?_
 replace hm:=hm.dl [4,3,2,1]
 refine Ret1 hQ he hm ?_
 have hr_:z3x T e s=((⟨#[]⟩:ByteArray),q3):=by
  have ha_:armT T x132 x116 q=((z0f T x132.body q2).1,q3):=by
   have e1_:z3e q x132.vars x116.fields=q2:=by rw [hI167,z0g h169,z3v]
   have e2_:=hI193
   rw [z0g h195] at e2_
   rw [armT,e1_,e2_];rfl
  have hl_:y91.cons.length=e.arms.length:=by assumption
  rw [z3x,if_pos (by assumption),z2r hx67,hy92]
  simp only
  rw [if_pos hl_,hI109,z0a hx133,z0a hx117,z2m,if_neg (by simp [*]),ha_,if_pos (by simp_all [sNo] <;> omega)];rfl
 show _∧_;rw [hr_];exact ⟨rfl,hm⟩
 refine go he hm fun a he =>?_
 by_cases h211:0 < i
 refine go he hm fun a he =>?_
 by_cases h212:(z0f T x132.body q2).1=out
 refine go he hm fun a he =>?_
 replace hm:=hm.ar [2,1] [2,1,2]
 refine hL108 _ _ _ (by subst hmu;omega) ⟨(i+1),(q3),((z0f T x132.body q2).1),rfl,⟨he.pk,hm⟩,?_⟩
 have ha_:armT T x132 x116 q=((z0f T x132.body q2).1,q3):=by
  have e1_:z3e q x132.vars x116.fields=q2:=by rw [hI167,z0g h169,z3v]
  have e2_:=hI193
  rw [z0g h195] at e2_
  rw [armT,e1_,e2_];rfl
 rw [hI109,z0a hx133,z0a hx117,z2m,if_neg (by simp [*]),ha_,if_neg (by simp_all [sNo] <;> omega)];simp
 refine go he hm fun a he =>?_
 replace hm:=hm.dl [4,3,2,1]
 refine Ret1 hQ he hm ?_
 have hr_:z3x T e s=((⟨#[]⟩:ByteArray),q3):=by
  have ha_:armT T x132 x116 q=((z0f T x132.body q2).1,q3):=by
   have e1_:z3e q x132.vars x116.fields=q2:=by rw [hI167,z0g h169,z3v]
   have e2_:=hI193
   rw [z0g h195] at e2_
   rw [armT,e1_,e2_];rfl
  have hl_:y91.cons.length=e.arms.length:=by assumption
  rw [z3x,if_pos (by assumption),z2r hx67,hy92]
  simp only
  rw [if_pos hl_,hI109,z0a hx133,z0a hx117,z2m,if_neg (by simp [*]),ha_,if_pos (by simp_all [sNo] <;> omega)];rfl
 show _∧_;rw [hr_];exact ⟨rfl,hm⟩
 refine go he hm fun a he =>?_
 replace hm:=hm.ar [2,1] [2,1,2]
 refine hL108 _ _ _ (by subst hmu;omega) ⟨(i+1),(q3),((z0f T x132.body q2).1),rfl,⟨he.pk,hm⟩,?_⟩
 have ha_:armT T x132 x116 q=((z0f T x132.body q2).1,q3):=by
  have e1_:z3e q x132.vars x116.fields=q2:=by rw [hI167,z0g h169,z3v]
  have e2_:=hI193
  rw [z0g h195] at e2_
  rw [armT,e1_,e2_];rfl
 rw [hI109,z0a hx133,z0a hx117,z2m,if_neg (by simp [*]),ha_,if_neg (by simp_all [sNo] <;> omega)];simp
 refine go he hm fun a he =>?_
 replace hm:=hm.dl [4,2,1,0]
 refine Ret1 hQ he hm ?_
 have hr_:z3x T e s=((⟨#[]⟩:ByteArray),q):=by
  have hl_:y91.cons.length=e.arms.length:=by assumption
  rw [z3x,if_pos (by assumption),z2r hx67,hy92]
  simp only
  rw [if_pos hl_,hI109,z0a hx133,z0a hx117,z2m,if_pos (by simp [*])]
  all_goals rfl
 show _∧_;rw [hr_];exact ⟨rfl,hm⟩
 refine go he hm fun a he =>?_
 replace hm:=hm.dl [4,2,1,0]
 refine Ret1 hQ he hm ?_
 have hr_:z3x T e s=((⟨#[]⟩:ByteArray),q):=by
  have hl_:y91.cons.length=e.arms.length:=by assumption
  rw [z3x,if_pos (by assumption),z2r hx67,hy92]
  simp only
  rw [if_pos hl_,hI109,z0a hx133,z0a hx117,z2m,if_pos (by simp [*])]
  all_goals rfl
 show _∧_;rw [hr_];exact ⟨rfl,hm⟩
 refine go he hm fun a he =>?_
 replace hm:=hm.dl [2,0]
 refine Ret1 hQ he hm ?_
 have hr_:z3x T e s=(out,q):=by
  have hl_:y91.cons.length=e.arms.length:=by assumption
  rw [z3x,if_pos (by assumption),z2r hx67,hy92]
  simp only
  rw [if_pos hl_,hI109,z0g h111,z0g (l:=e.arms) (by omega)];rfl
 show _∧_;rw [hr_];exact ⟨rfl,hm⟩
 refine go he hm fun a he =>?_
 replace hm:=hm.dl [2,0]
 refine Ret1 hQ he hm ?_
 have hr_:z3x T e s=((⟨#[]⟩:ByteArray),(z0f T x66 s).2):=by
  simp [z3x,z2r hx67,sNo, *]
 show _∧_;rw [hr_];exact ⟨rfl,hm⟩
 refine Alc he hm fun b219 w hm a he =>?_
 replace hm:=hm.pl 2
 refine z0x call86 he hm (fun w hm a he =>?_) (c:=ih _ (by first | exact Ex.lt_args (List.mem_of_getElem? hx67) | exact Ex.lt_arms (List.mem_of_getElem? hx67)) rpT hr71 hm)
 rcases hf220:mget (d5) ((z0f T x66 s).1) with _ | vf221
 have hf220_:=congrArg (z0h true (.agg (List.toArray [.string ⟨#[]⟩,.slice none 0 0]))) hf220
 refine Qq he hm (fun a he =>?_) (o:=by exact fun _ _ _ he hs=>Ok.cast (z0p runUnderlying101 runUnderlying9 zeroValue133 he hs rfl rfl ma9) (show z0h true (.agg (List.toArray [.string ⟨#[]⟩,.slice none 0 0])) (mget (d5) ((z0f T x66 s).1))=.tuple (List.toArray [.agg (List.toArray [.string ⟨#[]⟩,.slice none 0 0]),.bool false]) from hf220_))
 refine Sto 1 he hm fun w hm a he =>?_
 refine go he hm fun a he =>?_
 replace hm:=hm.dl [2,1]
 refine Ret1 hQ he hm ?_
 have hr_:z3x T e s=((⟨#[]⟩:ByteArray),(z0f T x66 s).2):=by
  have e_:=MapRel.none mr13 hf220
  simp [z3x,z2r hx67,sNo, *]
 show _∧_;rw [hr_];exact ⟨rfl,hm⟩
 obtain ⟨y225,hy226,cs227,rfl,hr228⟩:=mr13.get hf220
 obtain ⟨s229,rfl,h230⟩:=id hr228
 obtain ⟨p231,c232,rfl,hm233,hn234⟩:=h230.fm
 have hf220_:=congrArg (z0h true (.agg (List.toArray [.string ⟨#[]⟩,.slice none 0 0]))) hf220
 refine Qq he hm (fun a he =>?_) (o:=by exact fun _ _ _ he hs=>Ok.cast (z0p runUnderlying101 runUnderlying9 zeroValue133 he hs rfl rfl ma9) (show z0h true (.agg (List.toArray [.string ⟨#[]⟩,.slice none 0 0])) (mget (d5) ((z0f T x66 s).1))=.tuple (List.toArray [.agg (List.toArray [.string y225.name,.slice p231 y225.cons.length c232]),.bool true]) from hf220_))
 refine Sto 1 he hm fun w hm a he =>?_
 refine go he hm fun a he =>?_
 by_cases h237:y225.cons.length=e.arms.length
 refine go he hm fun a he =>?_
 refine z1l (he.ks [0,2,4,48,49]) hm (fun R m a w=>∃(i:Nat) (q:Scope) (out:Bs),m=y225.cons.length - i∧R Φ [(9,.string out),(50,.int .i64 ((i:Nat):Int))] [(0,.mp b (smap q))] a w∧(splitP T e.arms y225.cons true sNo ((z0f T x66 s).2)=splitP T (e.arms.drop i) (y225.cons.drop i) (decide (i=0)) out q)) (y225.cons.length - 0) ⟨0,(z0f T x66 s).2,sNo,rfl,⟨he.pk,hm⟩,rfl⟩ ?_
 clear hm he
 rintro mm a w ⟨i,q,out,hmu,⟨he,hm⟩,hI242⟩ L241 hL241
 replace hm:=hm.nf
 refine go he hm fun a he =>?_
 by_cases h244:i < y225.cons.length
 refine go he hm fun a he =>?_
 obtain ⟨q248,rfl,x249,hx250,cs251,hl252,ha253,hr254⟩:=h230.el hn234 h244
 obtain ⟨s255,rfl,h256⟩:=id hr254
 obtain ⟨p257,c258,rfl,hm259,hn260⟩:=h256.fm
 refine Alc he hm fun b261 w hm a he =>?_
 refine Sto 0 he hm fun w hm a he =>?_
 refine go he hm fun a he =>?_
 have hb263:i < e.arms.length:=by omega
 obtain ⟨q264,rfl,x265,hx266,cs267,hl268,ha269,hr270⟩:=h52.el hn56 hb263
 obtain ⟨s271,b277,rfl,h272,h278⟩:=RArm.iff.1 hr270
 obtain ⟨p273,c274,rfl,hm275,hn276⟩:=h272.fm
 obtain ⟨p281,c282,p287,c288,rfl,hi291,h280,h286,hm283,hn284,hm289,hn290⟩:=REx.fm h278
 refine Alc he hm fun b292 w hm a he =>?_
 refine Sto 0 he hm fun w hm a he =>?_
 refine go he hm fun a he =>?_
 by_cases h295:x265.con=x249.name
 refine go he hm fun a he =>?_
 by_cases h296:x265.vars.length=x249.fields.length
 refine go he hm fun a he =>?_
 refine z1l (he.ks [0,2,4,9,10,11,12,48,49,50,75,76]) hm (fun R m a w=>∃(k:Nat) (q2:Scope),m=x265.vars.length - k∧R Φ [(77,.int .i64 ((k:Nat):Int))] [(2,.mp b (smap q2))] a w∧(z3e q x265.vars x249.fields=z3e q2 (x265.vars.drop k) (x249.fields.drop k))) (x265.vars.length - 0) ⟨0,q,rfl,⟨he.pk,hm⟩,rfl⟩ ?_
 clear hm he
 rintro mm a w ⟨k,q2,hmu,⟨he,hm⟩,hI300⟩ L299 hL299
 replace hm:=hm.nf
 refine go he hm fun a he =>?_
 by_cases h302:k < x265.vars.length
 refine go he hm fun a he =>?_
 obtain ⟨q306,rfl,x307,hx308,cs309,hl310,ha311,hr312⟩:=h272.el hn276 h302
 obtain rfl:cs309=[.string x307]:=hr312
 refine go he hm fun a he =>?_
 have hb313:k < x249.fields.length:=by omega
 obtain ⟨q314,rfl,x315,hx316,cs317,hl318,ha319,hr320⟩:=h256.el hn260 hb313
 obtain rfl:cs317=[.string x315]:=hr320
 refine MapU 2 runUnderlying157 runUnderlying9 he hm fun w hm a he =>?_
 rw [smap_put] at hm
 refine go he hm fun a he =>?_
 refine hL299 _ _ _ (by subst hmu;omega) ⟨(k+1),((lput q2 x307 x315)),rfl,⟨he.pk,hm⟩,?_⟩
 rw [hI300,z0a hx308,z0a hx316];rfl
 replace hm:=hm.pl 2
 refine z0x call86 he hm (fun w hm a he =>?_) (c:=ih _ (by first | exact Ex.lt_args (List.mem_of_getElem? hx266) | exact Ex.lt_arms (List.mem_of_getElem? hx266)) rpT h278 hm)
 refine go he hm fun a he =>?_
 refine z1l (he.ks [0,2,4,9,10,15,48,49,50,96,97]) hm (fun R m a w=>∃(k3:Nat) (q3:Scope),m=x265.vars.length - k3∧R Φ [(98,.int .i64 ((k3:Nat):Int))] [(0,.mp b (smap q3))] a w∧(delAll ((z0f T x265.body q2).2) x265.vars=delAll q3 (x265.vars.drop k3))) (x265.vars.length - 0) ⟨0,(z0f T x265.body q2).2,rfl,⟨he.pk,hm⟩,rfl⟩ ?_
 clear hm he
 rintro mm a w ⟨k3,q3,hmu,⟨he,hm⟩,hI326⟩ L325 hL325
 replace hm:=hm.nf
 refine go he hm fun a he =>?_
 by_cases h328:k3 < x265.vars.length
 refine go he hm fun a he =>?_
 obtain ⟨q332,rfl,x333,hx334,cs335,hl336,ha337,hr338⟩:=h272.el hn276 h328
 obtain rfl:cs335=[.string x333]:=hr338
 refine go he hm fun a he =>?_
 refine st0 he rfl rfl (eff_delete 0 runUnderlying157 runUnderlying9 he hm rfl rfl rfl fun w hm a he =>?_)
 rw [smap_del] at hm
 refine go he hm fun a he =>?_
 refine hL325 _ _ _ (by subst hmu;omega) ⟨(k3+1),((ldel q3 x333)),rfl,⟨he.pk,hm⟩,?_⟩
 rw [hI326,z0a hx334];rfl
 refine go he hm fun a he =>?_
 by_cases h342:(z0f T x265.body q2).1=(⟨#[]⟩:ByteArray)
 refine go he hm fun a he =>?_
 replace hm:=hm.dl [4,3,2,1]
 refine Ret1 hQ he hm ?_
 have hr_:z3x T e s=((⟨#[]⟩:ByteArray),q3):=by
  have ha_:armT T x265 x249 q=((z0f T x265.body q2).1,q3):=by
   have e1_:z3e q x265.vars x249.fields=q2:=by rw [hI300,z0g h302,z3v]
   have e2_:=hI326
   rw [z0g h328] at e2_
   rw [armT,e1_,e2_];rfl
  have hl_:y225.cons.length=e.arms.length:=by assumption
  rw [z3x,if_pos (by assumption),z2r hx67,hy226]
  simp only
  rw [if_pos hl_,hI242,z0a hx266,z0a hx250,z2m,if_neg (by simp [*]),ha_,if_pos (by simp_all [sNo] <;> omega)];rfl
 show _∧_;rw [hr_];exact ⟨rfl,hm⟩
 refine go he hm fun a he =>?_
 by_cases h344:0 < i
 refine go he hm fun a he =>?_
 by_cases h345:(z0f T x265.body q2).1=out
 refine go he hm fun a he =>?_
 replace hm:=hm.dl [2,1]
 refine hL241 _ _ _ (by subst hmu;omega) ⟨(i+1),(q3),((z0f T x265.body q2).1),rfl,⟨he.pk,hm⟩,?_⟩
 have ha_:armT T x265 x249 q=((z0f T x265.body q2).1,q3):=by
  have e1_:z3e q x265.vars x249.fields=q2:=by rw [hI300,z0g h302,z3v]
  have e2_:=hI326
  rw [z0g h328] at e2_
  rw [armT,e1_,e2_];rfl
 rw [hI242,z0a hx266,z0a hx250,z2m,if_neg (by simp [*]),ha_,if_neg (by simp_all [sNo] <;> omega)];simp
 refine go he hm fun a he =>?_
 replace hm:=hm.dl [4,3,2,1]
 refine Ret1 hQ he hm ?_
 have hr_:z3x T e s=((⟨#[]⟩:ByteArray),q3):=by
  have ha_:armT T x265 x249 q=((z0f T x265.body q2).1,q3):=by
   have e1_:z3e q x265.vars x249.fields=q2:=by rw [hI300,z0g h302,z3v]
   have e2_:=hI326
   rw [z0g h328] at e2_
   rw [armT,e1_,e2_];rfl
  have hl_:y225.cons.length=e.arms.length:=by assumption
  rw [z3x,if_pos (by assumption),z2r hx67,hy226]
  simp only
  rw [if_pos hl_,hI242,z0a hx266,z0a hx250,z2m,if_neg (by simp [*]),ha_,if_pos (by simp_all [sNo] <;> omega)];rfl
 show _∧_;rw [hr_];exact ⟨rfl,hm⟩
 refine go he hm fun a he =>?_
 replace hm:=hm.dl [2,1]
 refine hL241 _ _ _ (by subst hmu;omega) ⟨(i+1),(q3),((z0f T x265.body q2).1),rfl,⟨he.pk,hm⟩,?_⟩
 have ha_:armT T x265 x249 q=((z0f T x265.body q2).1,q3):=by
  have e1_:z3e q x265.vars x249.fields=q2:=by rw [hI300,z0g h302,z3v]
  have e2_:=hI326
  rw [z0g h328] at e2_
  rw [armT,e1_,e2_];rfl
 rw [hI242,z0a hx266,z0a hx250,z2m,if_neg (by simp [*]),ha_,if_neg (by simp_all [sNo] <;> omega)];simp
 refine go he hm fun a he =>?_
 replace hm:=hm.dl [4,3,1,0]
 refine Ret1 hQ he hm ?_
 have hr_:z3x T e s=((⟨#[]⟩:ByteArray),q):=by
  have hl_:y225.cons.length=e.arms.length:=by assumption
  rw [z3x,if_pos (by assumption),z2r hx67,hy226]
  simp only
  rw [if_pos hl_,hI242,z0a hx266,z0a hx250,z2m,if_pos (by simp [*])]
  all_goals rfl
 show _∧_;rw [hr_];exact ⟨rfl,hm⟩
 refine go he hm fun a he =>?_
 replace hm:=hm.dl [4,3,1,0]
 refine Ret1 hQ he hm ?_
 have hr_:z3x T e s=((⟨#[]⟩:ByteArray),q):=by
  have hl_:y225.cons.length=e.arms.length:=by assumption
  rw [z3x,if_pos (by assumption),z2r hx67,hy226]
  simp only
  rw [if_pos hl_,hI242,z0a hx266,z0a hx250,z2m,if_pos (by simp [*])]
  all_goals rfl
 show _∧_;rw [hr_];exact ⟨rfl,hm⟩
 refine go he hm fun a he =>?_
 replace hm:=hm.dl [2,1]
 refine Ret1 hQ he hm ?_
 have hr_:z3x T e s=(out,q):=by
  have hl_:y225.cons.length=e.arms.length:=by assumption
  rw [z3x,if_pos (by assumption),z2r hx67,hy226]
  simp only
  rw [if_pos hl_,hI242,z0g h244,z0g (l:=e.arms) (by omega)];rfl
 show _∧_;rw [hr_];exact ⟨rfl,hm⟩
 refine go he hm fun a he =>?_
 replace hm:=hm.dl [2,1]
 refine Ret1 hQ he hm ?_
 have hr_:z3x T e s=((⟨#[]⟩:ByteArray),(z0f T x66 s).2):=by
  simp [z3x,z2r hx67,sNo, *]
 show _∧_;rw [hr_];exact ⟨rfl,hm⟩
 refine go he hm fun a he =>?_
 replace hm:=hm.dl [0]
 refine Ret1 hQ he hm ?_
 have hr_:z3x T e s=((⟨#[]⟩:ByteArray),s):=by
  simp [z3x,sNo, *]
 show _∧_;rw [hr_];exact ⟨rfl,hm⟩
end Go.Sw

namespace Go.Sw
open Go.Proofs.Tryz
open Go.Proofs
set_option maxRecDepth 20000
set_option maxHeartbeats 4000000
theorem let_ok {Φ:Fz} {K:List Res} {w:World} {p0:Addr} {T:Table} {d1:List Value} {e:Ex} {b:Nat} {s:Scope} (rpT:RTable Φ p0 T) (rpe:REx Φ d1 e) (ih:∀x:Ex,x.sz < e.sz→∀{Φ:Fz} {K:List Res} {w:World} {p:Addr} {d:List Value} {b:Nat} {s:Scope},RTable Φ p T→REx Φ d x→Mem Φ (.mp b (smap s)::K) w→Calls Tryz.prog 86 (List.toArray [.pointer (some p),.agg d.toArray,.map (some b)]) w (fun ee w'=>ee=.returned (.string (z0f T x s).1)∧Mem Φ (.mp b (smap (z0f T x s).2)::K) w')) (hm:Mem Φ (.mp b (smap s)::K) w) :
  Calls Tryz.prog 144 (List.toArray [.pointer (some p0),.agg d1.toArray,.map (some b)]) w (fun ee w'=>ee=.returned (.string ((letT T e s).1))∧Mem Φ (.mp b (smap (letT T e s).2)::K) w'):=by
 obtain ⟨cs17,m1,m2,m3,m4,d5,d6,d7,d8,hat18,hcl19,hcore20,ma9,mr13,ma10,mr14,ma11,mr15,ma12,mr16⟩:=rpT.ex
 obtain ⟨p23,c24,p29,c30,p35,c36,p41,c42,rfl,h22,h28,h34,h40,hm25,hn26,hm31,hn32,hm37,hn38,hm43,hn44⟩:=RCore.fm hcore20
 obtain ⟨p47,c48,p53,c54,rfl,hi57,h46,h52,hm49,hn50,hm55,hn56⟩:=REx.fm rpe
 refine enterB func144 rfl ntmps144 rfl (fun Q hQ a he =>?_)
 refine Bx he hm fun b59 w hm a he =>?_
 refine z1u call186 he hm (fun hB62 w hm a he =>?_) (fun hB62 w hm a he =>?_) (c:=bare_ok rpe hm)
 refine go he hm fun a he =>?_
 have hlen:=z3q (n:=2) hB62
 refine go he hm fun a he =>?_
 have hb64:0 < e.args.length:=by omega
 obtain ⟨q65,rfl,x66,hx67,cs68,hl69,ha70,hr71⟩:=h46.el hn50 hb64
 obtain ⟨p74,c75,p80,c81,rfl,hi84,h73,h79,hm76,hn77,hm82,hn83⟩:=REx.fm hr71
 replace hm:=hm.pl 1
 refine z0x call86 he hm (fun w hm a he =>?_) (c:=ih _ (by exact Ex.lt_args (List.mem_of_getElem? hx67)) rpT hr71 hm)
 refine go he hm fun a he =>?_
 by_cases h87:(z0f T x66 s).1=(⟨#[]⟩:ByteArray)
 refine go he hm fun a he =>?_
 replace hm:=hm.dl [1]
 refine hQ _ _ _ (ret1B he results144 rfl ?_)
 have hr_:letT T e s=((⟨#[]⟩:ByteArray),(z0f T x66 s).2):=by
  rw [letT,if_pos hB62,letP_no hx67 h87];rfl
 show _∧_;rw [hr_];exact ⟨rfl,hm⟩
 refine MapU 0 runUnderlying157 runUnderlying9 he hm fun w hm a he =>?_
 rw [smap_put] at hm
 refine go he hm fun a he =>?_
 refine st_defer_builtin he rfl fun a fl91 he =>?_
 refine go he hm fun a he =>?_
 have hb93:1 < e.args.length:=by omega
 obtain ⟨x94,hx95⟩:=z2o hb93
 obtain ⟨cs96,hl97,ha98,hr99⟩:=h46.elem hx95
 obtain ⟨p102,c103,p108,c109,rfl,hi112,h101,h107,hm104,hn105,hm110,hn111⟩:=REx.fm hr99
 refine z0x call86 he hm (fun w hm a he =>?_) (c:=ih _ (by exact Ex.lt_args (List.mem_of_getElem? hx95)) rpT hr99 hm)
 refine go he hm fun a he =>?_
 replace hm:=hm.dl [1]
 refine hQ _ _ _ (ret1B_delete 0 runUnderlying157 runUnderlying9 he results144 rfl hm rfl fun w hm =>?_)
 rw [smap_del] at hm
 have hr_:letT T e s=((z0f T x94 (lput ((z0f T x66 s).2) e.name ((z0f T x66 s).1))).1,(ldel ((z0f T x94 (lput ((z0f T x66 s).2) e.name ((z0f T x66 s).1))).2) e.name)):=by
  rw [letT,if_pos hB62,letP_yes hx67 hx95 h87]
 show _∧_;rw [hr_];exact ⟨rfl,hm⟩
 refine go he hm fun a he =>?_
 replace hm:=hm.dl [0]
 refine hQ _ _ _ (ret1B he results144 rfl ?_)
 have hr_:letT T e s=((⟨#[]⟩:ByteArray),s):=by
  simp [letT,sNo, *]
 show _∧_;rw [hr_];exact ⟨rfl,hm⟩
end Go.Sw
