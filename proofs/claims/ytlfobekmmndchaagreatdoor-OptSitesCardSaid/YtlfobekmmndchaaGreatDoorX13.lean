import Derived.Test.YtlfobekmmndchaaGreatDoorX12
set_option linter.unusedVariables false
set_option linter.unusedSimpArgs false
namespace Go.Sw
open Go.Proofs Go.Proofs.Tryz
set_option maxRecDepth 20000
set_option maxHeartbeats 4000000
section
variable {Φ:Fz} {K:List Res} {w:World}
theorem cO {rb en n:Nat} {tv:Value} {toks:List Tok} (k:SliceOf RTok Φ 4 tv toks) (N:Mem Φ (.blk rb (ob [tv,.int .i64 en,.int .i64 n] 135)::K) w) :
  Calls prog 146 #[.pointer (some ⟨rb,0,none⟩)] w (fun ee w'=>ee=.returned (.agg (z1a (pk toks en n)).toArray)/\Mem Φ (.blk rb (ob [tv,.int .i64 en,.int .i64 n] 135)::K) w'):=by
 obtain ⟨p1,c2,rfl,j,e⟩:=k.fm
 refine zJ func146 ntmps146 fun Q hQ a J=>?_
 refine Alc fun o w N a J=>?_
 refine Reg [1,1,1,2,1,1,1,2,1,1] [0,1] fun w N a J=>?_
 by_cases g:n < toks.length
 refine Reg [1,1,1,2,1,1,1,2,1,2,0] [0,1] fun w N a J=>?_
 refine go fun a J=>?_
 obtain ⟨l,rfl,m,d,f,i,h,c⟩:=k.el e g
 obtain rfl:=id c
 refine Sto 0 fun w N a J=>?_
 refine go fun a J=>?_
 have b:=N
 replace N:=N.dl [0]
 refine kE (N:=b) ?_
 rw [pk_at d];exact ⟨rfl,N⟩
 refine yE fun a J=>?_
 refine Sto 0 fun w N a J=>?_
 refine go fun a J=>?_
 have b:=N
 replace N:=N.dl [0]
 refine kE (N:=b) ?_
 rw [pk_end g];exact ⟨rfl,N⟩
theorem is_ok {rb en n:Nat} {tv:Value} {toks:List Tok} {s:Bs} (g:SliceOf RTok Φ 4 tv toks) (N:Mem Φ (.blk rb (ob [tv,.int .i64 en,.int .i64 n] 135)::K) w) :
  Calls prog 116 #[.pointer (some ⟨rb,0,none⟩),.string s] w (fun ee w'=>ee=.returned (.bool (isW (pk toks en n) s))/\Mem Φ (.blk rb (ob [tv,.int .i64 en,.int .i64 n] 135)::K) w'):=by
 obtain ⟨p1,c2,rfl,f,h⟩:=g.fm
 refine zJ func116 ntmps116 fun Q hQ a J=>?_
 refine zF call146 (fun w N a J=>?_) (c:=cO g N)
 refine Alc fun i w N a J=>?_
 refine Sto 0 fun w N a J=>?_
 by_cases e:(pk toks en n).kind=5
 refine Qq (fun a J=>?_) (o:=by exact fun J O=>z3j J rfl rfl)
 refine yK ?_
 replace N:=N.dl [0]
 refine ⟨congrArg (fun b=>Ending.returned (.bool b)) ?_,N⟩
 unfold isW
 simp [e]
 by_cases d:(pk toks en n).kind=6
 refine Qq (fun a J=>?_) (o:=by exact fun J O=>z3j J rfl rfl)
 refine yK ?_
 replace N:=N.dl [0]
 refine ⟨congrArg (fun b=>Ending.returned (.bool b)) ?_,N⟩
 unfold isW
 simp [d,e]
 refine yK ?_
 replace N:=N.dl [0]
 refine ⟨congrArg (fun b=>Ending.returned (.bool b)) ?_,N⟩
 unfold isW
 simp [e,d]
theorem j0x {rb en n:Nat} {tv:Value} {toks:List Tok} {s:Bs} (g:SliceOf RTok Φ 4 tv toks) (N:Mem Φ (.blk rb (ob [tv,.int .i64 en,.int .i64 n] 135)::K) w) :
  Calls prog 110 #[.pointer (some ⟨rb,0,none⟩),.string s] w (fun ee w'=>ee=.returned (.bool (isW (pk toks en n) s))/\Mem Φ (.blk rb (ob [tv,.int .i64 en,.int .i64 ((if isW (pk toks en n) s=true then n+1 else n:Nat):Int)] 135)::K) w'):=by
 obtain ⟨p1,c2,rfl,f,h⟩:=g.fm
 refine zJ func110 ntmps110 fun Q hQ a J=>?_
 refine zF call116 (fun w N a J=>?_) (c:=is_ok g N)
 refine go fun a J=>?_
 generalize b:(isW (pk toks en n) s)=d at J
 cases d
 refine yK ?_
 rw [b];exact ⟨rfl,N⟩
 have e:=isW_lt b
 refine Sto 0 fun w N a J=>?_
 refine yK ?_
 rw [b];exact ⟨rfl,N⟩
theorem wU {rb en n:Nat} {tv:Value} {toks:List Tok} {s:Bs} (a:SliceOf RTok Φ 4 tv toks) (b:isW (pk toks en n) s=true) (N:Mem Φ (.blk rb (ob [tv,.int .i64 en,.int .i64 n] 135)::K) w) :
  Calls prog 110 #[.pointer (some ⟨rb,0,none⟩),.string s] w (fun ee w'=>ee=.returned (.bool true)/\Mem Φ (.blk rb (ob [tv,.int .i64 en,.int .i64 ((n+1:Nat):Int)] 135)::K) w'):=by
 have h:=j0x (s:=s) a N
 rw [b] at h;exact h
theorem pK {rb en n:Nat} {tv:Value} {toks:List Tok} {s:Bs} (a:SliceOf RTok Φ 4 tv toks) (b:isW (pk toks en n) s=false) (N:Mem Φ (.blk rb (ob [tv,.int .i64 en,.int .i64 n] 135)::K) w) :
  Calls prog 110 #[.pointer (some ⟨rb,0,none⟩),.string s] w (fun ee w'=>ee=.returned (.bool false)/\Mem Φ (.blk rb (ob [tv,.int .i64 en,.int .i64 n] 135)::K) w'):=by
 have h:=j0x (s:=s) a N
 rw [b] at h;exact h
theorem z4z {rb en n:Nat} {tv:Value} {toks:List Tok} {s:Bs} {b:Bool} (a:SliceOf RTok Φ 4 tv toks) (c:isW (pk toks en n) s=b) (N:Mem Φ (.blk rb (ob [tv,.int .i64 en,.int .i64 n] 135)::K) w) :
  Calls prog 116 #[.pointer (some ⟨rb,0,none⟩),.string s] w (fun ee w'=>ee=.returned (.bool b)/\Mem Φ (.blk rb (ob [tv,.int .i64 en,.int .i64 n] 135)::K) w'):=by
 have h:=is_ok (s:=s) a N
 rw [c] at h;exact h
theorem need_ok {rb en n:Nat} {tv:Value} {toks:List Tok} {v:Value} {ss:List Bs} (r:SliceOf RTok Φ 4 tv toks) (O:SliceOf RStr Φ 1 v ss) (y:∀i s,ss[i]? = some s->isW (pk toks en (n+i)) s=true) (N:Mem Φ (.blk rb (ob [tv,.int .i64 en,.int .i64 n] 135)::K) w) :
  Calls prog 112 #[.pointer (some ⟨rb,0,none⟩),v] w (fun ee w'=>ee=.returned (.tuple #[])/\Mem Φ (.blk rb (ob [tv,.int .i64 en,.int .i64 ((n+ss.length:Nat):Int)] 135)::K) w'):=by
 obtain ⟨p1,c2,rfl,p,u⟩:=r.fm
 obtain ⟨B,A,rfl,q,k⟩:=O.fm
 refine zJ func112 ntmps112 fun Q hQ a J=>?_
 refine go fun a J=>?_
 refine qD (J.ks [0,6,7]) N (fun R mm a w=>∃(i:Nat),mm=ss.length - i/\R Φ [(8,.int .i64 i)] [(0,.blk rb (ob [.slice p1 toks.length c2,.int .i64 en,.int .i64 (((n+i):Nat):Int)] 135))] a w/\(i<=ss.length)) (ss.length - 0) ⟨0,rfl,⟨J.pk,N⟩,Nat.zero_le _⟩ ?_
 clear N J
 rintro mm a w ⟨i,j,⟨J,N⟩,d⟩ t e
 replace N:=N.nf
 by_cases h:i < ss.length
 refine go fun a J=>?_
 obtain ⟨z,rfl,l,g,b,o,m,f⟩:=O.el k h
 obtain rfl:b=[.string l]:=f
 refine zF call110 (fun w N a J=>?_) (c:=wU r (y _ _ g) N)
 refine go fun a J=>?_
 refine e _ _ _ (by subst j;omega) ⟨(i+1),rfl,⟨J.pk,N⟩,?_⟩
 omega
 refine go fun a J=>?_
 refine hQ _ _ _ (yP J results112 ?_)
 rw [show n+ss.length=n+i from by have h_:=d;omega];exact ⟨rfl,N⟩
theorem vT {rb en n:Nat} {tv:Value} {toks:List Tok} {v:Value} {s:Bs} (g:SliceOf RTok Φ 4 tv toks) (j:isW (pk toks en n) s=true) (N:Mem Φ (.gs v 9 1 [.string s]::.blk rb (ob [tv,.int .i64 en,.int .i64 n] 135)::K) w) :
  Calls prog 112 #[.pointer (some ⟨rb,0,none⟩),v] w (fun ee w'=>ee=.returned (.tuple #[])/\Mem Φ (.blk rb (ob [tv,.int .i64 en,.int .i64 ((n+1:Nat):Int)] 135)::K) w'):=by
 have b:Mem Φ (.gs v 9 1 (strs [s])::.blk rb (ob [tv,.int .i64 en,.int .i64 n] 135)::K) w:=N
 obtain ⟨Ψ,a,d,e,f⟩:=b.freezeRowT (i:=0) rfl
 refine (need_ok (ss:=[s]) (g.mono RTok.mono a) (SliceOf.strs.2 e) (fun i x c=>?_) d).mono fun ee w' h=>⟨h.1,(f _ _ h.2).tail⟩
 cases i with
 | zero=>cases c;exact j
 | succ i=>cases c
theorem y0b {rb en n:Nat} {tv:Value} {toks:List Tok} {k:Int} (f:SliceOf RTok Φ 4 tv toks) (h:(pk toks en n).kind=k) (g:k≠0) (N:Mem Φ (.blk rb (ob [tv,.int .i64 en,.int .i64 n] 135)::K) w) :
  Calls prog 145 #[.pointer (some ⟨rb,0,none⟩),.int .i64 k] w (fun ee w'=>ee=.returned (.agg (z1a (pk toks en n)).toArray)/\Mem Φ (.blk rb (ob [tv,.int .i64 en,.int .i64 ((n+1:Nat):Int)] 135)::K) w'):=by
 obtain ⟨p1,c2,rfl,e,i⟩:=f.fm
 have d:=uQ (toks:=toks) (en:=en) (n:=n) (by rw [h];exact g)
 refine zJ func145 ntmps145 fun Q hQ a J=>?_
 refine Alc fun j w N a J=>?_
 replace N:=N.pl 1
 refine zF call146 (fun w N a J=>?_) (c:=cO f N)
 refine Alc fun l w N a J=>?_
 refine Sto 0 fun w N a J=>?_
 refine Sto 1 fun w N a J=>?_
 refine Sto 2 fun w N a J=>?_
 refine go fun a J=>?_
 have b:=N
 replace N:=N.dl [2,0]
 refine kE (N:=b) ?_
 exact ⟨rfl,N⟩
theorem wR {rb en n:Nat} {tv:Value} {toks:List Tok} (d:SliceOf RTok Φ 4 tv toks) (e:(pk toks en n).kind=2) (N:Mem Φ (.blk rb (ob [tv,.int .i64 en,.int .i64 n] 135)::K) w) :
  Calls prog 115 #[.pointer (some ⟨rb,0,none⟩)] w (fun ee w'=>ee=.returned (.string (pk toks en n).text)/\Mem Φ (.blk rb (ob [tv,.int .i64 en,.int .i64 ((n+1:Nat):Int)] 135)::K) w'):=by
 obtain ⟨p1,c2,rfl,b,f⟩:=d.fm
 refine zJ func115 ntmps115 fun Q hQ a J=>?_
 refine zF call145 (fun w N a J=>?_) (c:=y0b d e (by decide) N)
 refine Qq (fun a J=>?_) (o:=by exact fun J O=>uD runUnderlying204 rfl isAgg9 J rfl rfl)
 refine yK ?_
 exact ⟨rfl,N⟩
theorem z2o {rb en n:Nat} {tv:Value} {toks:List Tok} (d:SliceOf RTok Φ 4 tv toks) (e:(pk toks en n).kind=3) (N:Mem Φ (.blk rb (ob [tv,.int .i64 en,.int .i64 n] 135)::K) w) :
  Calls prog 111 #[.pointer (some ⟨rb,0,none⟩)] w (fun ee w'=>ee=.returned (.string (pk toks en n).text)/\Mem Φ (.blk rb (ob [tv,.int .i64 en,.int .i64 ((n+1:Nat):Int)] 135)::K) w'):=by
 obtain ⟨p1,c2,rfl,b,f⟩:=d.fm
 refine zJ func111 ntmps111 fun Q hQ a J=>?_
 refine zF call145 (fun w N a J=>?_) (c:=y0b d e (by decide) N)
 refine Qq (fun a J=>?_) (o:=by exact fun J O=>uD runUnderlying204 rfl isAgg9 J rfl rfl)
 refine yK ?_
 exact ⟨rfl,N⟩
theorem y8w {rb en n:Nat} {tv:Value} {toks:List Tok} (d:SliceOf RTok Φ 4 tv toks) (e:(pk toks en n).kind=1) (N:Mem Φ (.blk rb (ob [tv,.int .i64 en,.int .i64 n] 135)::K) w) :
  Calls prog 182 #[.pointer (some ⟨rb,0,none⟩)] w (fun ee w'=>ee=.returned (.int .i64 (pk toks en n).num)/\Mem Φ (.blk rb (ob [tv,.int .i64 en,.int .i64 ((n+1:Nat):Int)] 135)::K) w'):=by
 obtain ⟨p1,c2,rfl,b,f⟩:=d.fm
 refine zJ func182 ntmps182 fun Q hQ a J=>?_
 refine zF call145 (fun w N a J=>?_) (c:=y0b d e (by decide) N)
 refine Qq (fun a J=>?_) (o:=by exact fun J O=>uD runUnderlying204 rfl isAgg3 J rfl rfl)
 refine yK ?_
 exact ⟨rfl,N⟩
theorem wQ {rb en n:Nat} {tv:Value} {toks:List Tok} {a:Atom} (e:SliceOf RTok Φ 4 tv toks) (f:nN toks en n=some a) (N:Mem Φ (.blk rb (ob [tv,.int .i64 en,.int .i64 n] 135)::K) w) :
  Calls prog 148 #[.pointer (some ⟨rb,0,none⟩)] w (fun ee w'=>ee=.returned (.agg #[.string a.name,.int .i64 a.num])/\Mem Φ (.blk rb (ob [tv,.int .i64 en,.int .i64 ((n+1:Nat):Int)] 135)::K) w'):=by
 obtain ⟨p1,c2,rfl,g,h⟩:=e.fm
 refine zJ func148 ntmps148 fun Q hQ a J=>?_
 refine Alc fun i w N a J=>?_
 replace N:=N.pl 1
 refine zF call146 (fun w N a J=>?_) (c:=cO e N)
 refine Qq (fun a J=>?_) (o:=by exact fun J O=>uD runUnderlying204 rfl isAgg3 J rfl rfl)
 by_cases d:(pk toks en n).kind=1
 refine zF call182 (fun w N a J=>?_) (c:=y8w e d N)
 refine yE fun a J=>?_
 refine Sto 1 fun w N a J=>?_
 refine go fun a J=>?_
 have b:=N
 replace N:=N.dl [1]
 refine kE (N:=b) ?_
 rcases tN f with ⟨_,h_⟩ | ⟨h_,_⟩
 rw [h_];exact ⟨rfl,N⟩
 exact absurd d h_
 refine zF call115 (fun w N a J=>?_) (c:=wR e (by rcases tN f with h_ | h_;exact absurd h_.1 d;exact h_.2.1) N)
 refine yE fun a J=>?_
 refine Sto 1 fun w N a J=>?_
 refine go fun a J=>?_
 have b:=N
 replace N:=N.dl [1]
 refine kE (N:=b) ?_
 rcases tN f with ⟨h_,_⟩ | ⟨_,_,h_⟩
 exact absurd h_ d
 rw [h_];exact ⟨rfl,N⟩
end
theorem y0c {σ β:Type} {el:Nat->σ->Option (Nat×σ)} {KS:σ->β->List Res} {l:Nat} {ecs:List Value} {k n':Nat} {s s':σ} {z:β} {Φ:Fz} {K:List Res} {w:World} {rb en n:Nat} {tv:Value} {toks:List Tok} (i:SliceOf RTok Φ 4 tv toks) (h:gK toks en el k n s=some (n',s')) (U:∀args w,(callFunc l args).run prog w=.ok (.enter l args) w)
  (u:∀(n:Nat) (s:σ) (m:Nat) (t:σ) (z:β) (w:World),el n s=some (m,t)->Mem Φ (.blk rb (ob [tv,.int .i64 en,.int .i64 n] 135)::(KS s z++K)) w->Calls prog l ecs.toArray w (fun ee w'=>∃z':β,ee=.returned (.tuple #[])/\True/\Mem Φ (.blk rb (ob [tv,.int .i64 en,.int .i64 m] 135)::(KS t z'++K)) w'))
  (N:Mem Φ (.blk rb (ob [tv,.int .i64 en,.int .i64 n] 135)::(KS s z++K)) w) :
  Calls prog 113 #[.pointer (some ⟨rb,0,none⟩),.func (.func l) #[] ecs.toArray] w (fun ee w'=>∃z':β,ee=.returned (.tuple #[])/\True/\Mem Φ (.blk rb (ob [tv,.int .i64 en,.int .i64 n'] 135)::(KS s' z'++K)) w'):=by
 obtain ⟨p1,c2,rfl,V,X⟩:=i.fm
 refine zJ func113 ntmps113 fun Q hQ a J=>?_
 refine qG fun Z w N a J=>?_
 replace N:=N.ar [] [1,1]
 refine zF call112 (fun w N a J=>?_) (c:=vT i (z0n h) N)
 replace N:=N.nf
 refine go fun a J=>?_
 rcases e:isW (pk toks en (n+1)) (⟨#[41]⟩:Bs) with _ | _
 obtain ⟨H,L,q,v⟩:=z5c h e
 refine zF call110 (fun w N a J=>?_) (c:=pK i e N)
 refine go fun a J=>?_
 refine st J rfl rfl rfl (vX J rfl rfl U (u _ _ _ _ _ _ q N) (fun P w S N a J=>?_))
 refine go fun a J=>?_
 refine pX (fun mm a w=>∃(g:Nat) (j:σ) (E:β) (f:Nat),mm=f/\EnvR 19 [(0,.pointer (some ⟨rb,0,none⟩)),(1,.func (.func l) #[] ecs.toArray)] [] a/\Mem Φ (.blk rb (ob [.slice p1 toks.length c2,.int .i64 en,.int .i64 g] 135)::(KS j E++K)) w/\(sQ toks en el f g j=some (n',s'))) (k) ⟨H,L,P,k,rfl,J.pk,N,v⟩ ?_
 clear N J
 rintro mm a w ⟨g,j,E,f,F,J,N,d⟩ W o
 refine go fun a J=>?_
 rcases b:isW (pk toks en g) (⟨#[41]⟩:Bs) with _ | _
 obtain ⟨p,I,M,r,y⟩:=z9d d b
 have G:=j4e d
 refine zF call110 (fun w N a J=>?_) (c:=pK i b N)
 refine qG fun Y w N a J=>?_
 replace N:=N.ar [] [1,1]
 refine zF call112 (fun w N a J=>?_) (c:=vT i p N)
 replace N:=N.nf
 refine go fun a J=>?_
 refine st J rfl rfl rfl (vX J rfl rfl U (u _ _ _ _ _ _ r N) (fun R w T N a J=>?_))
 refine go fun a J=>?_
 refine o _ _ _ (by subst F;omega) ⟨(I),(M),(R),(f - 1),rfl,J.pk,N,?_⟩
 exact y
 obtain ⟨A,C⟩:=y3p d b
 refine zF call110 (fun w N a J=>?_) (c:=wU i b N)
 refine go fun a J=>?_
 refine hQ _ _ _ (yP J results113 ?_)
 rw [A,C];exact ⟨_,rfl,trivial,N⟩
 obtain ⟨B,D⟩:=y3q h e
 refine zF call110 (fun w N a J=>?_) (c:=wU i e N)
 refine go fun a J=>?_
 refine hQ _ _ _ (ret0 J results113 ?_)
 rw [B,D];exact ⟨_,rfl,trivial,N⟩
theorem j2c {b d:Nat} {i:Value} {m:Nat} {l t:List Atom} {Φ:Fz} {K:List Res} {w:World} {rb en n:Nat} {tv:Value} {toks:List Tok} (h:SliceOf RTok Φ 4 tv toks) (j:z7m toks en n l=some (m,t)) (N:Mem Φ (.blk rb (ob [tv,.int .i64 en,.int .i64 n] 135)::.gs i 75 2 (z7k l)::.blk d (ob [i] 44)::.blk b (ob [.pointer (some ⟨rb,0,none⟩)] 133)::K) w) :
  Calls Tryz.prog 184 #[.pointer (some ⟨d,0,none⟩),.pointer (some ⟨b,0,none⟩)] w (fun ee w'=>∃v1:Value,ee=.returned (.tuple #[])/\True/\Mem Φ (.blk rb (ob [tv,.int .i64 en,.int .i64 m] 135)::.gs v1 75 2 (z7k t)::.blk d (ob [v1] 44)::.blk b (ob [.pointer (some ⟨rb,0,none⟩)] 133)::K) w'):=by
 obtain ⟨f,o,e,rfl,rfl⟩:=z7n j
 obtain ⟨p1,c2,rfl,g,k⟩:=h.fm
 refine zJ Tryz.func184 Tryz.ntmps184 fun Q hQ a J=>?_
 refine Reg [2,2,0,0,0,0] [2,3] fun w N a J=>?_
 refine zF Tryz.call148 (fun w N a J=>?_) (c:=wQ h e N)
 refine qG fun v5 w N a J=>?_
 refine vL 2 j0u (fun p w N a J=>?_) (hb:=by rw [j6k];simp only [lcQ,lnQ];omega)
 refine Sto 3 fun w N a J=>?_
 refine go fun a J=>?_
 replace N:=N.dl [0]
 refine hQ _ _ _ (yP J Tryz.results184 ?_)
 rw [j1y];exact ⟨_,rfl,trivial,N⟩
theorem y4e {k n':Nat} {l:List Atom} {Φ:Fz} {K:List Res} {w:World} {rb en n:Nat} {tv:Value} {toks:List Tok} (d:SliceOf RTok Φ 4 tv toks) (h:uX toks en k n=some (n',l)) (N:Mem Φ (.blk rb (ob [tv,.int .i64 en,.int .i64 n] 135)::K) w) :
  Calls Tryz.prog 149 #[.pointer (some ⟨rb,0,none⟩)] w (fun ee w'=>∃v1:Value,ee=.returned v1/\True/\Mem Φ (.gs v1 75 2 (z7k l)::.blk rb (ob [tv,.int .i64 en,.int .i64 n'] 135)::K) w'):=by
 obtain ⟨p1,c2,rfl,f,m⟩:=d.fm
 refine zJ Tryz.func149 Tryz.ntmps149 fun Q hQ a J=>?_
 refine Bx fun i w N a J=>?_
 refine Alc fun j w N a J=>?_
 refine go fun a J=>?_
 replace N:=N.nilRow 75 2
 replace N:=N.ar [] [2,2,2,3]
 refine yF Tryz.call113 (fun p w e N a J=>?_) (c:=y0c (el:=z7m toks en) (β:=Value) (KS:=fun o g=>[.gs g 75 2 (z7k o),.blk j (ob [g] 44),.blk i (ob [.pointer (some ⟨rb,0,none⟩)] 133)]) (K:=K) d h Tryz.call184 (fun _ _ _ _ _ _ b N=>j2c d b N) N)
 refine yK ?_
 replace N:=N.ar [3,2] [1]
 exact ⟨_,rfl,trivial,N⟩
theorem nU {Φ:Fz} {K:List Res} {w:World} {s:Bs} (h:gF s=true) (N:Mem Φ K w) :
  Calls prog 183 #[.string s] w (fun ee w'=>ee=.returned (.bool true)/\Mem Φ K w'):=by
 have a:=q9z (s:=s) N
 rw [h] at a;exact a
theorem j4u {k n' cb:Nat} {cpre:List Value} {cT:TypeId} {nm:Bs} {y:TE} {Φ:Fz} {K:List Res} {w:World} {rb en n:Nat} {tv:Value} {toks:List Tok} (o:SliceOf RTok Φ 4 tv toks) (h:mE toks en k n=some (n',y)) (j:∀t∈toks,I64 t.num) (N:Mem Φ (.blk rb (ob [tv,.int .i64 en,.int .i64 n] 135)::.blk cb (ob (cpre++[.int .i64 ((0:Nat):Int),.string nm,.string ⟨#[]⟩,.int .i64 ((0:Nat):Int),.int .i64 ((0:Nat):Int),.slice none 0 0,.slice none 0 0,.slice none 0 0]) cT)::K) w) :
  Calls prog 147 #[.pointer (some ⟨rb,0,none⟩),.pointer (some ⟨cb,cpre.length+0,none⟩)] w (fun ee w'=>∃q:Fz×Value,ee=.returned (.tuple #[])/\(Φ.Le q.1/\SliceOf RAtom q.1 2 q.2 y.args/\I64 y.num/\I64 y.site)/\Mem q.1 (.blk rb (ob [tv,.int .i64 en,.int .i64 n'] 135)::.blk cb (ob (cpre++[.int .i64 y.kind,.string nm,.string y.op,.int .i64 y.num,.int .i64 y.site,q.2,.slice none 0 0,.slice none 0 0]) cT)::K) w'):=by
 obtain ⟨p1,c2,rfl,q0,t0⟩:=o.fm
 refine zJ func147 ntmps147 fun Q hQ a J=>?_
 refine zF call146 (fun w N a J=>?_) (c:=cO o N)
 refine Alc fun b7 w N a J=>?_
 refine Sto 0 fun w N a J=>?_
 replace N:=N.pl 1
 refine zF call110 (fun w N a J=>?_) (c:=pK o (z1l h) N)
 by_cases s:(pk toks en n).kind=3
 refine go fun a J=>?_
 obtain ⟨l_,u,rfl⟩:=j2n h s
 refine zF call111 (fun w N a J=>?_) (c:=z2o o s N)
 refine go fun a J=>?_
 refine qI 2 0 fun w N a J=>?_
 refine go fun a J=>?_
 refine qI 2 2 fun w N a J=>?_
 refine yF call149 (fun m0 w o0 N a J=>?_) (c:=y4e o u N)
 refine go fun a J=>?_
 refine qI 3 5 fun w N a J=>?_
 refine go fun a J=>?_
 replace N:=N.ar [2] [2,2]
 refine hQ _ _ _ (ret0 J results147 ?_)
 obtain ⟨Ψr_,b,N,d⟩:=N.freezeRow (i:=2) rfl
 exact ⟨(Ψr_,m0),rfl,⟨b,⟨_,d,sB (z7p j u)⟩,(by show I64 0;unfold I64;omega),(by show I64 0;unfold I64;omega)⟩,N⟩
 obtain ⟨F,g⟩:=q5e h s
 refine zF call148 (fun w N a J=>?_) (c:=wQ o g N)
 refine Alc fun r0 w N a J=>?_
 refine Sto 0 fun w N a J=>?_
 replace N:=N.pl 1
 refine zF call146 (fun w N a J=>?_) (c:=cO o N)
 refine Alc fun s0 w N a J=>?_
 refine Sto 0 fun w N a J=>?_
 by_cases A:F.name=(⟨#[109,111,100]⟩:Bs)
 by_cases v:(pk toks en (n+1)).kind=1
 refine go fun a J=>?_
 obtain ⟨z,l_,u,rfl⟩:=j2o h s g A v
 replace N:=N.pl 1
 refine zF call182 (fun w N a J=>?_) (c:=y8w o v N)
 refine zF call115 (fun w N a J=>?_) (c:=wR o z N)
 refine go fun a J=>?_
 refine qI 4 0 fun w N a J=>?_
 refine go fun a J=>?_
 refine qI 4 4 fun w N a J=>?_
 refine go fun a J=>?_
 refine qI 4 2 fun w N a J=>?_
 refine yF call149 (fun n0 w p0 N a J=>?_) (c:=y4e o u N)
 refine go fun a J=>?_
 refine qI 5 5 fun w N a J=>?_
 refine go fun a J=>?_
 replace N:=N.ar [4,3,2] [2,2]
 refine hQ _ _ _ (yP J results147 ?_)
 obtain ⟨Ψr_,b,N,d⟩:=N.freezeRow (i:=2) rfl
 exact ⟨(Ψr_,n0),rfl,⟨b,⟨_,d,sB (z7p j u)⟩,(by show I64 0;unfold I64;omega),(q7b j)⟩,N⟩
 by_cases L:F.name=(⟨#[114,101,97,100]⟩:Bs)
 refine go fun a J=>?_
 obtain ⟨r,l,m,I,f,rfl,rfl⟩:=z1m h s g (fun h_=>v h_.2) (fun h_=>v h_.2)
 by_cases M:F.name=(⟨#[]⟩:Bs)
 refine zF call183 (fun w N a J=>?_) (c:=nU m N)
 have p:=uQ (toks:=toks) (en:=en) (n:=n+1) (by rw [l];decide)
 refine Sto 1 fun w N a J=>?_
 refine go fun a J=>?_
 refine yN [1,1,1,1,2,2,1,0,0,1,1,0,1,1,0,1,1,0] (.q 0 (.q 1 (.q 2 (.q 3 (.q 4 (.q 5 (.q 6 (.e 7 (.q 9 (.q 10 (.e2 8 11 (.e 11 (.q 12 (.q 13 (.e 14 (.q 15 (.q 16 (.e 17 (.done)))))))) (.q 12 (.q 13 (.e2 8 14 (.e 14 (.q 15 (.q 16 (.e 17 (.done))))) (.e 8 (.q 15 (.q 16 (.e 17 (.done))))))))))))))))))) [0,2,3] J N fun w N=>?_
 replace N:=N.pl 1
 refine zF call148 (fun w N a J=>?_) (c:=wQ o f N)
 refine go fun a J=>?_
 refine kY ?_ ?_
 refine qG fun T w N a J=>?_
 refine qI 5 0 fun w N a J=>?_
 refine go fun a J=>?_
 refine qI 5 2 fun w N a J=>?_
 refine go fun a J=>?_
 refine qI 5 5 fun w N a J=>?_
 refine go fun a J=>?_
 replace N:=N.ar [4,3,2] [2,2]
 refine hQ _ _ _ (yP J results147 ?_)
 obtain ⟨Ψr_,b,N,d⟩:=N.freezeRow (i:=2) rfl
 exact ⟨(Ψr_,T),rfl,⟨b,⟨_,d,⟨_,_,rfl,rfl,⟨rfl,zM j g⟩,_,[],rfl,rfl,⟨rfl,zM j f⟩,rfl⟩⟩,(by show I64 0;unfold I64;omega),(by show I64 0;unfold I64;omega)⟩,N⟩
 refine qI 4 0 fun w N a J=>?_
 refine go fun a J=>?_
 refine kY ?_ ?_
 refine qG fun U w N a J=>?_
 refine qI 5 2 fun w N a J=>?_
 refine go fun a J=>?_
 refine qI 5 5 fun w N a J=>?_
 refine go fun a J=>?_
 replace N:=N.ar [4,3,2] [2,2]
 refine hQ _ _ _ (yP J results147 ?_)
 obtain ⟨Ψr_,b,N,d⟩:=N.freezeRow (i:=2) rfl
 exact ⟨(Ψr_,U),rfl,⟨b,⟨_,d,⟨_,_,rfl,rfl,⟨rfl,zM j g⟩,_,[],rfl,rfl,⟨rfl,zM j f⟩,rfl⟩⟩,(by show I64 0;unfold I64;omega),(by show I64 0;unfold I64;omega)⟩,N⟩
 refine qI 4 2 fun w N a J=>?_
 refine qG fun V w N a J=>?_
 refine go fun a J=>?_
 refine qI 5 5 fun w N a J=>?_
 refine go fun a J=>?_
 replace N:=N.ar [4,3,2] [2,2]
 refine hQ _ _ _ (yP J results147 ?_)
 obtain ⟨Ψr_,b,N,d⟩:=N.freezeRow (i:=2) rfl
 exact ⟨(Ψr_,V),rfl,⟨b,⟨_,d,⟨_,_,rfl,rfl,⟨rfl,zM j g⟩,_,[],rfl,rfl,⟨rfl,zM j f⟩,rfl⟩⟩,(by show I64 0;unfold I64;omega),(by show I64 0;unfold I64;omega)⟩,N⟩
 refine go fun a J=>?_
 rcases B:isW (pk toks en (n+1)) (⟨#[40]⟩:Bs) with _ | _
 replace N:=N.pl 1
 refine zF call116 (fun w N a J=>?_) (c:=z4z o B N)
 refine zF call183 (fun w N a J=>?_) (c:=nU m N)
 have p:=uQ (toks:=toks) (en:=en) (n:=n+1) (by rw [l];decide)
 refine Sto 0 fun w N a J=>?_
 refine go fun a J=>?_
 refine yN [1,1,1,1,2,2,1,0,0,1,1,0,1,1,0,1,1,0] (.q 0 (.q 1 (.q 2 (.q 3 (.q 4 (.q 5 (.q 6 (.e 7 (.q 9 (.q 10 (.e2 8 11 (.e 11 (.q 12 (.q 13 (.e 14 (.q 15 (.q 16 (.e 17 (.done)))))))) (.q 12 (.q 13 (.e2 8 14 (.e 14 (.q 15 (.q 16 (.e 17 (.done))))) (.e 8 (.q 15 (.q 16 (.e 17 (.done))))))))))))))))))) [1,2,3] J N fun w N=>?_
 refine zF call148 (fun w N a J=>?_) (c:=wQ o f N)
 refine go fun a J=>?_
 refine kY ?_ ?_
 refine qG fun v37 w N a J=>?_
 refine qI 5 0 fun w N a J=>?_
 refine go fun a J=>?_
 refine qI 5 2 fun w N a J=>?_
 refine go fun a J=>?_
 refine qI 5 5 fun w N a J=>?_
 refine go fun a J=>?_
 replace N:=N.ar [4,3,2] [2,2]
 refine hQ _ _ _ (yP J results147 ?_)
 obtain ⟨Ψr_,b,N,d⟩:=N.freezeRow (i:=2) rfl
 exact ⟨(Ψr_,v37),rfl,⟨b,⟨_,d,⟨_,_,rfl,rfl,⟨rfl,zM j g⟩,_,[],rfl,rfl,⟨rfl,zM j f⟩,rfl⟩⟩,(by show I64 0;unfold I64;omega),(by show I64 0;unfold I64;omega)⟩,N⟩
 refine qI 4 0 fun w N a J=>?_
 refine go fun a J=>?_
 refine kY ?_ ?_
 refine qG fun W w N a J=>?_
 refine qI 5 2 fun w N a J=>?_
 refine go fun a J=>?_
 refine qI 5 5 fun w N a J=>?_
 refine go fun a J=>?_
 replace N:=N.ar [4,3,2] [2,2]
 refine hQ _ _ _ (yP J results147 ?_)
 obtain ⟨Ψr_,b,N,d⟩:=N.freezeRow (i:=2) rfl
 exact ⟨(Ψr_,W),rfl,⟨b,⟨_,d,⟨_,_,rfl,rfl,⟨rfl,zM j g⟩,_,[],rfl,rfl,⟨rfl,zM j f⟩,rfl⟩⟩,(by show I64 0;unfold I64;omega),(by show I64 0;unfold I64;omega)⟩,N⟩
 refine qI 4 2 fun w N a J=>?_
 refine qG fun X w N a J=>?_
 refine go fun a J=>?_
 refine qI 5 5 fun w N a J=>?_
 refine go fun a J=>?_
 replace N:=N.ar [4,3,2] [2,2]
 refine hQ _ _ _ (yP J results147 ?_)
 obtain ⟨Ψr_,b,N,d⟩:=N.freezeRow (i:=2) rfl
 exact ⟨(Ψr_,X),rfl,⟨b,⟨_,d,⟨_,_,rfl,rfl,⟨rfl,zM j g⟩,_,[],rfl,rfl,⟨rfl,zM j f⟩,rfl⟩⟩,(by show I64 0;unfold I64;omega),(by show I64 0;unfold I64;omega)⟩,N⟩
 exact absurd ⟨M,B⟩ r
 refine go fun a J=>?_
 obtain ⟨r,l,m,I,f,rfl,rfl⟩:=z1m h s g (fun h_=>v h_.2) (fun h_=>L h_.1)
 by_cases P:F.name=(⟨#[]⟩:Bs)
 refine zF call183 (fun w N a J=>?_) (c:=nU m N)
 have p:=uQ (toks:=toks) (en:=en) (n:=n+1) (by rw [l];decide)
 refine Sto 1 fun w N a J=>?_
 refine go fun a J=>?_
 refine yN [1,1,1,1,2,2,1,0,0,1,1,0,1,1,0,1,1,0] (.q 0 (.q 1 (.q 2 (.q 3 (.q 4 (.q 5 (.q 6 (.e 7 (.q 9 (.q 10 (.e2 8 11 (.e 11 (.q 12 (.q 13 (.e 14 (.q 15 (.q 16 (.e 17 (.done)))))))) (.q 12 (.q 13 (.e2 8 14 (.e 14 (.q 15 (.q 16 (.e 17 (.done))))) (.e 8 (.q 15 (.q 16 (.e 17 (.done))))))))))))))))))) [0,2,3] J N fun w N=>?_
 replace N:=N.pl 1
 refine zF call148 (fun w N a J=>?_) (c:=wQ o f N)
 refine go fun a J=>?_
 refine kY ?_ ?_
 refine qG fun Y w N a J=>?_
 refine qI 5 0 fun w N a J=>?_
 refine go fun a J=>?_
 refine qI 5 2 fun w N a J=>?_
 refine go fun a J=>?_
 refine qI 5 5 fun w N a J=>?_
 refine go fun a J=>?_
 replace N:=N.ar [4,3,2] [2,2]
 refine hQ _ _ _ (yP J results147 ?_)
 obtain ⟨Ψr_,b,N,d⟩:=N.freezeRow (i:=2) rfl
 exact ⟨(Ψr_,Y),rfl,⟨b,⟨_,d,⟨_,_,rfl,rfl,⟨rfl,zM j g⟩,_,[],rfl,rfl,⟨rfl,zM j f⟩,rfl⟩⟩,(by show I64 0;unfold I64;omega),(by show I64 0;unfold I64;omega)⟩,N⟩
 refine qI 4 0 fun w N a J=>?_
 refine go fun a J=>?_
 refine kY ?_ ?_
 refine qG fun Z w N a J=>?_
 refine qI 5 2 fun w N a J=>?_
 refine go fun a J=>?_
 refine qI 5 5 fun w N a J=>?_
 refine go fun a J=>?_
 replace N:=N.ar [4,3,2] [2,2]
 refine hQ _ _ _ (yP J results147 ?_)
 obtain ⟨Ψr_,b,N,d⟩:=N.freezeRow (i:=2) rfl
 exact ⟨(Ψr_,Z),rfl,⟨b,⟨_,d,⟨_,_,rfl,rfl,⟨rfl,zM j g⟩,_,[],rfl,rfl,⟨rfl,zM j f⟩,rfl⟩⟩,(by show I64 0;unfold I64;omega),(by show I64 0;unfold I64;omega)⟩,N⟩
 refine qI 4 2 fun w N a J=>?_
 refine qG fun v46 w N a J=>?_
 refine go fun a J=>?_
 refine qI 5 5 fun w N a J=>?_
 refine go fun a J=>?_
 replace N:=N.ar [4,3,2] [2,2]
 refine hQ _ _ _ (yP J results147 ?_)
 obtain ⟨Ψr_,b,N,d⟩:=N.freezeRow (i:=2) rfl
 exact ⟨(Ψr_,v46),rfl,⟨b,⟨_,d,⟨_,_,rfl,rfl,⟨rfl,zM j g⟩,_,[],rfl,rfl,⟨rfl,zM j f⟩,rfl⟩⟩,(by show I64 0;unfold I64;omega),(by show I64 0;unfold I64;omega)⟩,N⟩
 refine go fun a J=>?_
 rcases C:isW (pk toks en (n+1)) (⟨#[40]⟩:Bs) with _ | _
 replace N:=N.pl 1
 refine zF call116 (fun w N a J=>?_) (c:=z4z o C N)
 refine zF call183 (fun w N a J=>?_) (c:=nU m N)
 have p:=uQ (toks:=toks) (en:=en) (n:=n+1) (by rw [l];decide)
 refine Sto 0 fun w N a J=>?_
 refine go fun a J=>?_
 refine yN [1,1,1,1,2,2,1,0,0,1,1,0,1,1,0,1,1,0] (.q 0 (.q 1 (.q 2 (.q 3 (.q 4 (.q 5 (.q 6 (.e 7 (.q 9 (.q 10 (.e2 8 11 (.e 11 (.q 12 (.q 13 (.e 14 (.q 15 (.q 16 (.e 17 (.done)))))))) (.q 12 (.q 13 (.e2 8 14 (.e 14 (.q 15 (.q 16 (.e 17 (.done))))) (.e 8 (.q 15 (.q 16 (.e 17 (.done))))))))))))))))))) [1,2,3] J N fun w N=>?_
 refine zF call148 (fun w N a J=>?_) (c:=wQ o f N)
 refine go fun a J=>?_
 refine kY ?_ ?_
 refine qG fun a0 w N a J=>?_
 refine qI 5 0 fun w N a J=>?_
 refine go fun a J=>?_
 refine qI 5 2 fun w N a J=>?_
 refine go fun a J=>?_
 refine qI 5 5 fun w N a J=>?_
 refine go fun a J=>?_
 replace N:=N.ar [4,3,2] [2,2]
 refine hQ _ _ _ (yP J results147 ?_)
 obtain ⟨Ψr_,b,N,d⟩:=N.freezeRow (i:=2) rfl
 exact ⟨(Ψr_,a0),rfl,⟨b,⟨_,d,⟨_,_,rfl,rfl,⟨rfl,zM j g⟩,_,[],rfl,rfl,⟨rfl,zM j f⟩,rfl⟩⟩,(by show I64 0;unfold I64;omega),(by show I64 0;unfold I64;omega)⟩,N⟩
 refine qI 4 0 fun w N a J=>?_
 refine go fun a J=>?_
 refine kY ?_ ?_
 refine qG fun v51 w N a J=>?_
 refine qI 5 2 fun w N a J=>?_
 refine go fun a J=>?_
 refine qI 5 5 fun w N a J=>?_
 refine go fun a J=>?_
 replace N:=N.ar [4,3,2] [2,2]
 refine hQ _ _ _ (yP J results147 ?_)
 obtain ⟨Ψr_,b,N,d⟩:=N.freezeRow (i:=2) rfl
 exact ⟨(Ψr_,v51),rfl,⟨b,⟨_,d,⟨_,_,rfl,rfl,⟨rfl,zM j g⟩,_,[],rfl,rfl,⟨rfl,zM j f⟩,rfl⟩⟩,(by show I64 0;unfold I64;omega),(by show I64 0;unfold I64;omega)⟩,N⟩
 refine qI 4 2 fun w N a J=>?_
 refine qG fun b0 w N a J=>?_
 refine go fun a J=>?_
 refine qI 5 5 fun w N a J=>?_
 refine go fun a J=>?_
 replace N:=N.ar [4,3,2] [2,2]
 refine hQ _ _ _ (yP J results147 ?_)
 obtain ⟨Ψr_,b,N,d⟩:=N.freezeRow (i:=2) rfl
 exact ⟨(Ψr_,b0),rfl,⟨b,⟨_,d,⟨_,_,rfl,rfl,⟨rfl,zM j g⟩,_,[],rfl,rfl,⟨rfl,zM j f⟩,rfl⟩⟩,(by show I64 0;unfold I64;omega),(by show I64 0;unfold I64;omega)⟩,N⟩
 exact absurd ⟨P,C⟩ r
 by_cases H:F.name=(⟨#[114,101,97,100]⟩:Bs)
 by_cases G:(pk toks en (n+1)).kind=1
 refine go fun a J=>?_
 obtain ⟨z,rfl,rfl⟩:=q5f h s g (fun h_=>A h_.1) H G
 replace N:=N.pl 1
 refine zF call182 (fun w N a J=>?_) (c:=y8w o G N)
 refine go fun a J=>?_
 refine qI 4 0 fun w N a J=>?_
 refine go fun a J=>?_
 refine qI 4 4 fun w N a J=>?_
 refine zF call115 (fun w N a J=>?_) (c:=wR o z N)
 refine yE fun a J=>?_
 refine qG fun c0 w N a J=>?_
 refine go fun a J=>?_
 refine qI 5 5 fun w N a J=>?_
 refine go fun a J=>?_
 replace N:=N.ar [4,3,2] [2,2]
 refine hQ _ _ _ (yP J results147 ?_)
 obtain ⟨Ψr_,b,N,d⟩:=N.freezeRow (i:=2) rfl
 exact ⟨(Ψr_,c0),rfl,⟨b,⟨_,d,yQ rfl ⟨rfl,(by show I64 0;unfold I64;omega)⟩⟩,(by show I64 0;unfold I64;omega),(q7b j)⟩,N⟩
 refine go fun a J=>?_
 obtain ⟨r,l,m,I,f,rfl,rfl⟩:=z1m h s g (fun h_=>A h_.1) (fun h_=>G h_.2)
 by_cases R:F.name=(⟨#[]⟩:Bs)
 refine zF call183 (fun w N a J=>?_) (c:=nU m N)
 have p:=uQ (toks:=toks) (en:=en) (n:=n+1) (by rw [l];decide)
 refine Sto 1 fun w N a J=>?_
 refine go fun a J=>?_
 refine yN [1,1,1,1,2,2,1,0,0,1,1,0,1,1,0,1,1,0] (.q 0 (.q 1 (.q 2 (.q 3 (.q 4 (.q 5 (.q 6 (.e 7 (.q 9 (.q 10 (.e2 8 11 (.e 11 (.q 12 (.q 13 (.e 14 (.q 15 (.q 16 (.e 17 (.done)))))))) (.q 12 (.q 13 (.e2 8 14 (.e 14 (.q 15 (.q 16 (.e 17 (.done))))) (.e 8 (.q 15 (.q 16 (.e 17 (.done))))))))))))))))))) [0,2,3] J N fun w N=>?_
 replace N:=N.pl 1
 refine zF call148 (fun w N a J=>?_) (c:=wQ o f N)
 refine go fun a J=>?_
 refine kY ?_ ?_
 refine qG fun d0 w N a J=>?_
 refine qI 5 0 fun w N a J=>?_
 refine go fun a J=>?_
 refine qI 5 2 fun w N a J=>?_
 refine go fun a J=>?_
 refine qI 5 5 fun w N a J=>?_
 refine go fun a J=>?_
 replace N:=N.ar [4,3,2] [2,2]
 refine hQ _ _ _ (yP J results147 ?_)
 obtain ⟨Ψr_,b,N,d⟩:=N.freezeRow (i:=2) rfl
 exact ⟨(Ψr_,d0),rfl,⟨b,⟨_,d,⟨_,_,rfl,rfl,⟨rfl,zM j g⟩,_,[],rfl,rfl,⟨rfl,zM j f⟩,rfl⟩⟩,(by show I64 0;unfold I64;omega),(by show I64 0;unfold I64;omega)⟩,N⟩
 refine qI 4 0 fun w N a J=>?_
 refine go fun a J=>?_
 refine kY ?_ ?_
 refine qG fun e0 w N a J=>?_
 refine qI 5 2 fun w N a J=>?_
 refine go fun a J=>?_
 refine qI 5 5 fun w N a J=>?_
 refine go fun a J=>?_
 replace N:=N.ar [4,3,2] [2,2]
 refine hQ _ _ _ (yP J results147 ?_)
 obtain ⟨Ψr_,b,N,d⟩:=N.freezeRow (i:=2) rfl
 exact ⟨(Ψr_,e0),rfl,⟨b,⟨_,d,⟨_,_,rfl,rfl,⟨rfl,zM j g⟩,_,[],rfl,rfl,⟨rfl,zM j f⟩,rfl⟩⟩,(by show I64 0;unfold I64;omega),(by show I64 0;unfold I64;omega)⟩,N⟩
 refine qI 4 2 fun w N a J=>?_
 refine qG fun f0 w N a J=>?_
 refine go fun a J=>?_
 refine qI 5 5 fun w N a J=>?_
 refine go fun a J=>?_
 replace N:=N.ar [4,3,2] [2,2]
 refine hQ _ _ _ (yP J results147 ?_)
 obtain ⟨Ψr_,b,N,d⟩:=N.freezeRow (i:=2) rfl
 exact ⟨(Ψr_,f0),rfl,⟨b,⟨_,d,⟨_,_,rfl,rfl,⟨rfl,zM j g⟩,_,[],rfl,rfl,⟨rfl,zM j f⟩,rfl⟩⟩,(by show I64 0;unfold I64;omega),(by show I64 0;unfold I64;omega)⟩,N⟩
 refine go fun a J=>?_
 rcases D:isW (pk toks en (n+1)) (⟨#[40]⟩:Bs) with _ | _
 replace N:=N.pl 1
 refine zF call116 (fun w N a J=>?_) (c:=z4z o D N)
 refine zF call183 (fun w N a J=>?_) (c:=nU m N)
 have p:=uQ (toks:=toks) (en:=en) (n:=n+1) (by rw [l];decide)
 refine Sto 0 fun w N a J=>?_
 refine go fun a J=>?_
 refine yN [1,1,1,1,2,2,1,0,0,1,1,0,1,1,0,1,1,0] (.q 0 (.q 1 (.q 2 (.q 3 (.q 4 (.q 5 (.q 6 (.e 7 (.q 9 (.q 10 (.e2 8 11 (.e 11 (.q 12 (.q 13 (.e 14 (.q 15 (.q 16 (.e 17 (.done)))))))) (.q 12 (.q 13 (.e2 8 14 (.e 14 (.q 15 (.q 16 (.e 17 (.done))))) (.e 8 (.q 15 (.q 16 (.e 17 (.done))))))))))))))))))) [1,2,3] J N fun w N=>?_
 refine zF call148 (fun w N a J=>?_) (c:=wQ o f N)
 refine go fun a J=>?_
 refine kY ?_ ?_
 refine qG fun g0 w N a J=>?_
 refine qI 5 0 fun w N a J=>?_
 refine go fun a J=>?_
 refine qI 5 2 fun w N a J=>?_
 refine go fun a J=>?_
 refine qI 5 5 fun w N a J=>?_
 refine go fun a J=>?_
 replace N:=N.ar [4,3,2] [2,2]
 refine hQ _ _ _ (yP J results147 ?_)
 obtain ⟨Ψr_,b,N,d⟩:=N.freezeRow (i:=2) rfl
 exact ⟨(Ψr_,g0),rfl,⟨b,⟨_,d,⟨_,_,rfl,rfl,⟨rfl,zM j g⟩,_,[],rfl,rfl,⟨rfl,zM j f⟩,rfl⟩⟩,(by show I64 0;unfold I64;omega),(by show I64 0;unfold I64;omega)⟩,N⟩
 refine qI 4 0 fun w N a J=>?_
 refine go fun a J=>?_
 refine kY ?_ ?_
 refine qG fun h0 w N a J=>?_
 refine qI 5 2 fun w N a J=>?_
 refine go fun a J=>?_
 refine qI 5 5 fun w N a J=>?_
 refine go fun a J=>?_
 replace N:=N.ar [4,3,2] [2,2]
 refine hQ _ _ _ (yP J results147 ?_)
 obtain ⟨Ψr_,b,N,d⟩:=N.freezeRow (i:=2) rfl
 exact ⟨(Ψr_,h0),rfl,⟨b,⟨_,d,⟨_,_,rfl,rfl,⟨rfl,zM j g⟩,_,[],rfl,rfl,⟨rfl,zM j f⟩,rfl⟩⟩,(by show I64 0;unfold I64;omega),(by show I64 0;unfold I64;omega)⟩,N⟩
 refine qI 4 2 fun w N a J=>?_
 refine qG fun v70 w N a J=>?_
 refine go fun a J=>?_
 refine qI 5 5 fun w N a J=>?_
 refine go fun a J=>?_
 replace N:=N.ar [4,3,2] [2,2]
 refine hQ _ _ _ (yP J results147 ?_)
 obtain ⟨Ψr_,b,N,d⟩:=N.freezeRow (i:=2) rfl
 exact ⟨(Ψr_,v70),rfl,⟨b,⟨_,d,⟨_,_,rfl,rfl,⟨rfl,zM j g⟩,_,[],rfl,rfl,⟨rfl,zM j f⟩,rfl⟩⟩,(by show I64 0;unfold I64;omega),(by show I64 0;unfold I64;omega)⟩,N⟩
 exact absurd ⟨R,D⟩ r
 refine go fun a J=>?_
 obtain ⟨r,l,m,I,f,rfl,rfl⟩:=z1m h s g (fun h_=>A h_.1) (fun h_=>H h_.1)
 by_cases S:F.name=(⟨#[]⟩:Bs)
 refine zF call183 (fun w N a J=>?_) (c:=nU m N)
 have p:=uQ (toks:=toks) (en:=en) (n:=n+1) (by rw [l];decide)
 refine Sto 1 fun w N a J=>?_
 refine go fun a J=>?_
 refine yN [1,1,1,1,2,2,1,0,0,1,1,0,1,1,0,1,1,0] (.q 0 (.q 1 (.q 2 (.q 3 (.q 4 (.q 5 (.q 6 (.e 7 (.q 9 (.q 10 (.e2 8 11 (.e 11 (.q 12 (.q 13 (.e 14 (.q 15 (.q 16 (.e 17 (.done)))))))) (.q 12 (.q 13 (.e2 8 14 (.e 14 (.q 15 (.q 16 (.e 17 (.done))))) (.e 8 (.q 15 (.q 16 (.e 17 (.done))))))))))))))))))) [0,2,3] J N fun w N=>?_
 replace N:=N.pl 1
 refine zF call148 (fun w N a J=>?_) (c:=wQ o f N)
 refine go fun a J=>?_
 refine kY ?_ ?_
 refine qG fun v75 w N a J=>?_
 refine qI 5 0 fun w N a J=>?_
 refine go fun a J=>?_
 refine qI 5 2 fun w N a J=>?_
 refine go fun a J=>?_
 refine qI 5 5 fun w N a J=>?_
 refine go fun a J=>?_
 replace N:=N.ar [4,3,2] [2,2]
 refine hQ _ _ _ (yP J results147 ?_)
 obtain ⟨Ψr_,b,N,d⟩:=N.freezeRow (i:=2) rfl
 exact ⟨(Ψr_,v75),rfl,⟨b,⟨_,d,⟨_,_,rfl,rfl,⟨rfl,zM j g⟩,_,[],rfl,rfl,⟨rfl,zM j f⟩,rfl⟩⟩,(by show I64 0;unfold I64;omega),(by show I64 0;unfold I64;omega)⟩,N⟩
 refine qI 4 0 fun w N a J=>?_
 refine go fun a J=>?_
 refine kY ?_ ?_
 refine qG fun v76 w N a J=>?_
 refine qI 5 2 fun w N a J=>?_
 refine go fun a J=>?_
 refine qI 5 5 fun w N a J=>?_
 refine go fun a J=>?_
 replace N:=N.ar [4,3,2] [2,2]
 refine hQ _ _ _ (yP J results147 ?_)
 obtain ⟨Ψr_,b,N,d⟩:=N.freezeRow (i:=2) rfl
 exact ⟨(Ψr_,v76),rfl,⟨b,⟨_,d,⟨_,_,rfl,rfl,⟨rfl,zM j g⟩,_,[],rfl,rfl,⟨rfl,zM j f⟩,rfl⟩⟩,(by show I64 0;unfold I64;omega),(by show I64 0;unfold I64;omega)⟩,N⟩
 refine qI 4 2 fun w N a J=>?_
 refine qG fun i0 w N a J=>?_
 refine go fun a J=>?_
 refine qI 5 5 fun w N a J=>?_
 refine go fun a J=>?_
 replace N:=N.ar [4,3,2] [2,2]
 refine hQ _ _ _ (yP J results147 ?_)
 obtain ⟨Ψr_,b,N,d⟩:=N.freezeRow (i:=2) rfl
 exact ⟨(Ψr_,i0),rfl,⟨b,⟨_,d,⟨_,_,rfl,rfl,⟨rfl,zM j g⟩,_,[],rfl,rfl,⟨rfl,zM j f⟩,rfl⟩⟩,(by show I64 0;unfold I64;omega),(by show I64 0;unfold I64;omega)⟩,N⟩
 refine go fun a J=>?_
 rcases E:isW (pk toks en (n+1)) (⟨#[40]⟩:Bs) with _ | _
 replace N:=N.pl 1
 refine zF call116 (fun w N a J=>?_) (c:=z4z o E N)
 refine zF call183 (fun w N a J=>?_) (c:=nU m N)
 have p:=uQ (toks:=toks) (en:=en) (n:=n+1) (by rw [l];decide)
 refine Sto 0 fun w N a J=>?_
 refine go fun a J=>?_
 refine yN [1,1,1,1,2,2,1,0,0,1,1,0,1,1,0,1,1,0] (.q 0 (.q 1 (.q 2 (.q 3 (.q 4 (.q 5 (.q 6 (.e 7 (.q 9 (.q 10 (.e2 8 11 (.e 11 (.q 12 (.q 13 (.e 14 (.q 15 (.q 16 (.e 17 (.done)))))))) (.q 12 (.q 13 (.e2 8 14 (.e 14 (.q 15 (.q 16 (.e 17 (.done))))) (.e 8 (.q 15 (.q 16 (.e 17 (.done))))))))))))))))))) [1,2,3] J N fun w N=>?_
 refine zF call148 (fun w N a J=>?_) (c:=wQ o f N)
 refine go fun a J=>?_
 refine kY ?_ ?_
 refine qG fun j0 w N a J=>?_
 refine qI 5 0 fun w N a J=>?_
 refine go fun a J=>?_
 refine qI 5 2 fun w N a J=>?_
 refine go fun a J=>?_
 refine qI 5 5 fun w N a J=>?_
 refine go fun a J=>?_
 replace N:=N.ar [4,3,2] [2,2]
 refine hQ _ _ _ (yP J results147 ?_)
 obtain ⟨Ψr_,b,N,d⟩:=N.freezeRow (i:=2) rfl
 exact ⟨(Ψr_,j0),rfl,⟨b,⟨_,d,⟨_,_,rfl,rfl,⟨rfl,zM j g⟩,_,[],rfl,rfl,⟨rfl,zM j f⟩,rfl⟩⟩,(by show I64 0;unfold I64;omega),(by show I64 0;unfold I64;omega)⟩,N⟩
 refine qI 4 0 fun w N a J=>?_
 refine go fun a J=>?_
 refine kY ?_ ?_
 refine qG fun k0 w N a J=>?_
 refine qI 5 2 fun w N a J=>?_
 refine go fun a J=>?_
 refine qI 5 5 fun w N a J=>?_
 refine go fun a J=>?_
 replace N:=N.ar [4,3,2] [2,2]
 refine hQ _ _ _ (yP J results147 ?_)
 obtain ⟨Ψr_,b,N,d⟩:=N.freezeRow (i:=2) rfl
 exact ⟨(Ψr_,k0),rfl,⟨b,⟨_,d,⟨_,_,rfl,rfl,⟨rfl,zM j g⟩,_,[],rfl,rfl,⟨rfl,zM j f⟩,rfl⟩⟩,(by show I64 0;unfold I64;omega),(by show I64 0;unfold I64;omega)⟩,N⟩
 refine qI 4 2 fun w N a J=>?_
 refine qG fun l0 w N a J=>?_
 refine go fun a J=>?_
 refine qI 5 5 fun w N a J=>?_
 refine go fun a J=>?_
 replace N:=N.ar [4,3,2] [2,2]
 refine hQ _ _ _ (yP J results147 ?_)
 obtain ⟨Ψr_,b,N,d⟩:=N.freezeRow (i:=2) rfl
 exact ⟨(Ψr_,l0),rfl,⟨b,⟨_,d,⟨_,_,rfl,rfl,⟨rfl,zM j g⟩,_,[],rfl,rfl,⟨rfl,zM j f⟩,rfl⟩⟩,(by show I64 0;unfold I64;omega),(by show I64 0;unfold I64;omega)⟩,N⟩
 exact absurd ⟨S,E⟩ r
def BodyC (toks:List Tok) (en k:Nat):Prop:=∀{Φ:Fz} {K:List Res} {w:World} {rb n n' cb d:Nat} {tv:Value} {cpre:List Value} {cT:TypeId} {e:TE},SliceOf RTok Φ 4 tv toks->(∀t∈toks,I64 t.num)->pF toks en k n=some (n',e)->d+k<=20000->Mem Φ (.blk rb (ob [tv,.int .i64 en,.int .i64 n] 135)::.blk cb (ob (cpre++[.int .i64 ((0:Nat):Int),.string ⟨#[]⟩,.string ⟨#[]⟩,.int .i64 ((0:Nat):Int),.int .i64 ((0:Nat):Int),.slice none 0 0,.slice none 0 0,.slice none 0 0]) cT)::K) w ->
  Calls prog 118 #[.pointer (some ⟨rb,0,none⟩),.pointer (some ⟨cb,cpre.length+0,none⟩),.int .i64 d] w (fun ee w'=>∃q:Fz×List Value,ee=.returned (.tuple #[])/\(Φ.Le q.1/\RTE q.1 q.2 e)/\Mem q.1 (.blk rb (ob [tv,.int .i64 en,.int .i64 n'] 135)::.blk cb (ob (cpre++q.2) cT)::K) w')
theorem BodyC.go {toks:List Tok} {en k:Nat} (h:BodyC toks en k) {Φ:Fz} {K:List Res} {w:World} {rb n n' cb d:Nat} {tv:Value} (cpre:List Value) {cT:TypeId} {e:TE} (c:SliceOf RTok Φ 4 tv toks) (a:∀t∈toks,I64 t.num) (hb:pF toks en k n=some (n',e)) (b:d+k<=20000) (N:Mem Φ (.blk rb (ob [tv,.int .i64 en,.int .i64 n] 135)::.blk cb (ob (cpre++[.int .i64 ((0:Nat):Int),.string ⟨#[]⟩,.string ⟨#[]⟩,.int .i64 ((0:Nat):Int),.int .i64 ((0:Nat):Int),.slice none 0 0,.slice none 0 0,.slice none 0 0]) cT)::K) w) :
  Calls prog 118 #[.pointer (some ⟨rb,0,none⟩),.pointer (some ⟨cb,cpre.length+0,none⟩),.int .i64 d] w (fun ee w'=>∃q:Fz×List Value,ee=.returned (.tuple #[])/\(Φ.Le q.1/\RTE q.1 q.2 e)/\Mem q.1 (.blk rb (ob [tv,.int .i64 en,.int .i64 n'] 135)::.blk cb (ob (cpre++q.2) cT)::K) w'):=h c a hb b N
theorem q7c {k n' cb d:Nat} {cpre:List Value} {cT:TypeId} {e:TE} {Φ:Fz} {K:List Res} {w:World} {rb en n:Nat} {tv:Value} {toks:List Tok} (ih:∀j,j < k->BodyC toks en j) (z:SliceOf RTok Φ 4 tv toks) (hI:∀t∈toks,I64 t.num) (h:pF toks en k n=some (n',e)) (hd:d+k<=20000) (N:Mem Φ (.blk rb (ob [tv,.int .i64 en,.int .i64 n] 135)::.blk cb (ob (cpre++[.int .i64 ((0:Nat):Int),.string ⟨#[]⟩,.string ⟨#[]⟩,.int .i64 ((0:Nat):Int),.int .i64 ((0:Nat):Int),.slice none 0 0,.slice none 0 0,.slice none 0 0]) cT)::K) w) :
  Calls prog 118 #[.pointer (some ⟨rb,0,none⟩),.pointer (some ⟨cb,cpre.length+0,none⟩),.int .i64 d] w (fun ee w'=>∃q:Fz×List Value,ee=.returned (.tuple #[])/\(Φ.Le q.1/\RTE q.1 q.2 e)/\Mem q.1 (.blk rb (ob [tv,.int .i64 en,.int .i64 n'] 135)::.blk cb (ob (cpre++q.2) cT)::K) w'):=by
 obtain ⟨p1,c2,rfl,X2,w3⟩:=z.fm
 refine zJ func118 ntmps118 fun Q hQ a J=>?_
 refine go fun a J=>?_
 refine pX (fun mm a w=>∃(a1:Fz) (l0:Nat) (d0:Nat) (y0:Nat) (E:Nat) (l:List Value) (o0:TypeId) (w0:List Res) (A1:TE),mm=d0/\EnvR 155 [(0,.pointer (some ⟨rb,0,none⟩)),(1,.pointer (some ⟨E,(l).length+0,none⟩)),(2,.int .i64 y0)] [] a/\Mem a1 (.blk rb (ob [.slice p1 toks.length c2,.int .i64 en,.int .i64 l0] 135)::.blk E (ob (l++[.int .i64 (((0:Nat):Int)),.string ⟨#[]⟩,.string ⟨#[]⟩,.int .i64 (((0:Nat):Int)),.int .i64 (((0:Nat):Int)),.slice none 0 0,.slice none 0 0,.slice none 0 0]) o0)::(w0++K)) w/\(Φ.Le a1/\(pF toks en d0 l0=some (n',A1)/\y0+d0<=20000/\d0<=k/\BodK K cb cpre cT e a1 w0 E l o0 A1))) (k) ⟨Φ,n,k,d,cb,cpre,cT,[],e,rfl,J.pk,N,⟨Fz.Le.refl _,⟨h,hd,Nat.le_refl _,BodK.id⟩⟩⟩ ?_
 clear N J
 rintro mm a w ⟨a1,l0,d0,y0,E,l,o0,w0,A1,X,J,N,r1⟩ L8 s2
 obtain ⟨Y0,r1⟩:=r1
 replace z:=z.mono RTok.mono Y0
 obtain ⟨D0,Q2,T2,r⟩:=r1
 refine Qq (fun a J=>?_) (o:=by exact fun J O=>y1n false J rfl rfl (decide_eq_false (fun hh=>(show ¬20000 < y0 from by omega) (Int.ofNat_lt.1 hh))))
 refine go fun a J=>?_
 rcases j0:isW (pk toks en l0) (⟨#[108,101,116]⟩:Bs) with _ | _
 refine zF call110 (fun w N a J=>?_) (c:=pK z j0 N)
 refine go fun a J=>?_
 rcases t0:isW (pk toks en l0) (⟨#[99,97,115,101]⟩:Bs) with _ | _
 refine zF call110 (fun w N a J=>?_) (c:=pK z t0 N)
 refine go fun a J=>?_
 obtain ⟨h0,i0,a_,J1,G0,rfl⟩:=j2i D0 j0 t0
 refine zF call110 (fun w N a J=>?_) (c:=pK z h0 N)
 refine zF call110 (fun w N a J=>?_) (c:=wU z i0 N)
 refine zF call148 (fun w N a J=>?_) (c:=wQ z J1 N)
 refine qG fun v20 w N a J=>?_
 refine go fun a J=>?_
 refine qI 2 0 fun w N a J=>?_
 refine go fun a J=>?_
 refine qI 2 5 fun w N a J=>?_
 refine go fun a J=>?_
 replace N:=N.ar [] [2,2]
 refine hQ _ _ _ (yP J results118 ?_)
 rw [G0]
 obtain ⟨Ψr_,C,N,q0⟩:=N.freezeRow (i:=2) rfl
 obtain ⟨Ψe_,m1,p0,L0,N⟩:=r Ψr_ _ _ _ C (RTE.iff.2 ⟨_,_,_,rfl,(by show I64 0;unfold I64;omega),(by show I64 0;unfold I64;omega),⟨_,q0,yQ rfl ⟨rfl,zM hI J1⟩⟩,SliceOf.nil 10,SliceOf.nil 8⟩) N
 exact ⟨(Ψe_,m1),rfl,⟨(Y0).trans (C.trans p0),L0⟩,N⟩
 obtain ⟨Q1,T1,H2,G2,K1,E0,G0,rfl⟩:=j2j D0 j0 t0
 refine zF call110 (fun w N a J=>?_) (c:=wU z t0 N)
 refine zF call115 (fun w N a J=>?_) (c:=wR z Q1 N)
 refine yE fun a J=>?_
 refine qG fun Z0 w N a J=>?_
 refine go fun a J=>?_
 refine qI 2 0 fun w N a J=>?_
 refine go fun a J=>?_
 refine qI 2 5 fun w N a J=>?_
 refine go fun a J=>?_
 have M:=N
 clear N
 obtain ⟨S0,O0,N,V0,l2⟩:=M.freezeRowC (i:=0) rfl
 clear M
 replace z:=z.mono RTok.mono O0
 replace r:=r.mono O0
 have D:SliceOf RAtom S0 2 (Z0) ([⟨(pk toks en (l0+1)).text,0⟩]:List Atom):=⟨_,V0,yQ rfl ⟨rfl,(by show I64 0;unfold I64;omega)⟩⟩
 replace N:=N.nf
 refine qG fun z3 w N a J=>?_
 replace N:=N.ar [] [1,1]
 refine zF call112 (fun w N a J=>?_) (c:=vT z T1 N)
 replace N:=N.nf
 refine go fun a J=>?_
 replace N:=N.nilRow 79 10
 replace N:=N.nf
 refine qD (J.ks [0,1,2]) N (fun R mm a w=>∃(Z:Fz) (v:Nat) (H:Nat) (y:List TA) (n0:Value) (m0:List Value),mm=H/\R Z [] [(0,.gs (n0) 79 10 m0),(1,.blk rb (ob [.slice p1 toks.length c2,.int .i64 en,.int .i64 v] 135)),(2,.blk E (ob (l++[.int .i64 ((7:Nat):Int),.string ⟨#[]⟩,.string ⟨#[]⟩,.int .i64 (((0:Nat):Int)),.int .i64 (((0:Nat):Int)),Z0,n0,.slice none 0 0]) o0))] a w/\(S0.Le Z/\(z7j toks en H v y=some (H2,G2)/\Chunks (RTA Z) 10 m0 y/\H < d0))) ((d0 - 1)) ⟨S0,(l0+3),d0 - 1,[],.slice none 0 0,[],rfl,⟨J.pk,N⟩,⟨Fz.Le.refl _,⟨K1,rfl,by have h_:=y2s D0;omega⟩⟩⟩ ?_
 clear N J
 rintro mm a w ⟨Z,v,H,y,n0,m0,X,⟨J,N⟩,B0⟩ m3 s0
 replace N:=N.nf
 obtain ⟨P,B0⟩:=B0
 replace z:=z.mono RTok.mono P
 replace r:=r.mono P
 replace D:=D.mono RAtom.mono P
 obtain ⟨C0,g,v2⟩:=B0
 refine go fun a J=>?_
 refine Qq (fun a J=>?_) (o:=by exact fun J O=>mB 2 6 (b:=E) (pre:=l) J O rfl rfl rfl isAgg45)
 refine Qq (fun a J=>?_) (o:=by exact fun J O=>mR 0 (y.length) J O rfl rfl (by rw [g.length]) (by decide) runUnderlying45)
 by_cases o1:y.length=0
 refine go fun a J=>?_
 have W1:=j1v C0 o1
 obtain ⟨U1,R1,F0,y1,R0,I0,T,Q0,f,f0,U⟩:=y9q W1
 replace N:=N.pl 1
 refine zF call111 (fun w N a J=>?_) (c:=z2o z F0 N)
 refine yE fun a J=>?_
 refine Alc fun p2 w N a J=>?_
 refine Sto 0 fun w N a J=>?_
 refine go fun a J=>?_
 replace N:=N.nilRow 9 1
 replace N:=N.nf
 refine qD (J.ks [0,1,2,6]) N (fun R mm a w=>∃(I:Nat) (c0:Nat) (s:List Bs) (r0:Value),mm=c0/\R Z [] [(0,.gs (r0) 9 1 (strs s)),(1,.blk p2 (ob [.string (pk toks en v).text,r0,.int .i64 ((0:Nat):Int),.string ⟨#[]⟩,.string ⟨#[]⟩,.int .i64 ((0:Nat):Int),.int .i64 ((0:Nat):Int),.slice none 0 0,.slice none 0 0,.slice none 0 0] 79)),(2,.blk rb (ob [.slice p1 toks.length c2,.int .i64 en,.int .i64 I] 135))] a w/\(aG toks en c0 I s=some (y1,R0))) ((H - 1)) ⟨(v+1),H - 1,[],.slice none 0 0,rfl,⟨J.pk,N⟩,I0⟩ ?_
 clear N J
 rintro mm a w ⟨I,c0,s,r0,X,⟨J,N⟩,d1⟩ n3 I1
 replace N:=N.nf
 replace N:=N.pl 2
 refine zF call146 (fun w N a J=>?_) (c:=cO z N)
 refine Qq (fun a J=>?_) (o:=by exact fun J O=>uD runUnderlying204 rfl isAgg3 J rfl rfl)
 by_cases q1:(pk toks en I).kind=2
 obtain ⟨V1,S1,H0⟩:=z9j d1 q1
 refine Reg [1,2,1,0,0,0,1,0] [2,3,4] fun w N a J=>?_
 refine zF call115 (fun w N a J=>?_) (c:=wR z q1 N)
 refine qG fun A3 w N a J=>?_
 refine vL 2 j0s (fun I2 w N a J=>?_) (hb:=by rw [wT];simp only [lcQ,lnQ];omega)
 refine Sto 3 fun w N a J=>?_
 refine go fun a J=>?_
 rw [z4m] at N
 replace N:=N.ar [0] [4,4,2,4,4]
 refine I1 _ _ _ (by subst X;omega) ⟨((I+1)),(c0 - 1),((s++[(pk toks en I).text])),(I2),rfl,⟨J.pk,by exact N⟩,?_⟩
 exact H0
 refine go fun a J=>?_
 obtain ⟨h0,i0⟩:=y3w d1 q1
 rw [h0] at T f0
 rw [i0] at U
 refine qG fun B3 w N a J=>?_
 replace N:=N.ar [] [1,1]
 refine zF call112 (fun w N a J=>?_) (c:=vT z T N)
 replace N:=N.nf
 refine go fun a J=>?_
 have M:=N
 clear N
 obtain ⟨j2,Y,N,X0,m2⟩:=M.freezeRowC (i:=1) rfl
 clear M
 replace z:=z.mono RTok.mono Y
 replace r:=r.mono Y
 replace D:=D.mono RAtom.mono Y
 replace g:=g.mono fun _ _ h=>RTA.mono _ _ _ _ Y h
 replace N:=N.nf
 have V:SliceOf RStr j2 1 _ (s):=⟨_,X0,chunks_str.2 rfl⟩
 obtain ⟨z1,l1,x1,z2,Y2⟩:=V.form (by decide)
 have g0:=N
 clear N
 subst x1
 have N:=g0
 clear g0
 replace N:=N.ar [] [1,1]
 refine yF call118 (fun K2 w F N a J=>?_) (c:=BodyC.go (k:=H - 1) (ih _ (by omega)) [.string (pk toks en v).text,.slice z1 (s).length l1] (K:=.gs (n0) 79 10 m0::.blk E (ob (l++[.int .i64 ((7:Nat):Int),.string ⟨#[]⟩,.string ⟨#[]⟩,.int .i64 (((0:Nat):Int)),.int .i64 (((0:Nat):Int)),Z0,n0,.slice none 0 0]) o0)::(w0++K)) z hI f0 (by omega) N)
 obtain ⟨a0,q3⟩:=K2
 simp only at F N J
 replace z:=z.mono RTok.mono F.1
 replace r:=r.mono F.1
 replace D:=D.mono RAtom.mono F.1
 replace g:=g.mono fun _ _ h=>RTA.mono _ _ _ _ F.1 h
 replace V:=V.mono RStr.mono F.1
 have f1:=F.2
 have b0:=f1
 obtain ⟨Z1,F1,a2,c76,b2,G1,rfl,R2,S2,r3,s3,t3,U2,Z2,V2,a3,W2,b3⟩:=RTE.fm f1
 replace N:=N.nf
 refine go fun a J=>?_
 refine yN [0,0,0,0] (.e 0 (.e2 1 2 (.e 2 (.e 3 (.done))) (.e 1 (.e 3 (.done))))) [0,1,2,3] J N fun w N=>?_
 refine Alc fun o3 w N a J=>?_
 refine kY ?_ ?_
 refine Sto 0 fun w N a J=>?_
 refine Sto 0 fun w N a J=>?_
 refine d_e J rfl rfl rfl (pE (yH 0 J N.toSees rfl rfl rfl isAgg4) ⟨jM (by kernel_rfl),fun a J=>?_⟩)
 refine Reg [1,1,1,1,2,2,0,0,1,1,0] [0,1,2,4] fun w N a J=>?_
 refine go fun a J=>?_
 refine Qq (fun a J=>?_) (o:=by exact fun J O=>mB 3 6 (b:=E) (pre:=l) J O rfl rfl rfl isAgg45)
 refine qG fun C3 w N a J=>?_
 refine vL 4 q3j (fun J2 w N a J=>?_) (hb:=by rw [g.length];show (_+10) * _<=_;omega)
 refine go fun a J=>?_
 refine qI 5 6 fun w N a J=>?_
 refine go fun a J=>?_
 replace N:=N.ar [3,1,0] [2,1,2]
 refine s0 _ _ _ (by subst X;omega) ⟨(a0),(Q0),(H - 1),((y++[(TA.mk (pk toks en v).text s f)])),(J2),((m0++[.string (pk toks en v).text,.slice z1 (s).length l1,.int .i64 (f.kind),.string f.name,.string f.op,.int .i64 (f.num),.int .i64 (f.site),.slice Z1 f.args.length F1,.slice a2 f.arms.length c76,.slice b2 f.body.length G1])),rfl,⟨J.pk,by exact N⟩,?_⟩
 refine ⟨((P).trans Y).trans F.1,?_⟩
 exact ⟨U,(g.append (yQ rfl (show RTA a0 _ (TA.mk (pk toks en v).text s f) from ⟨_,_,rfl,b0.len,V,b0⟩))),by omega⟩
 refine Sto 0 fun w N a J=>?_
 refine Sto 0 fun w N a J=>?_
 refine d_e J rfl rfl rfl (pE (yH 0 J N.toSees rfl rfl rfl isAgg4) ⟨jM (by kernel_rfl),fun a J=>?_⟩)
 refine go fun a J=>?_
 refine Qq (fun a J=>?_) (o:=by exact fun J O=>mB 4 6 (b:=E) (pre:=l) J O rfl rfl rfl isAgg45)
 refine Qq (fun a J=>?_) (o:=by exact fun J O=>mR 3 (y.length) J O rfl rfl (by rw [g.length]) (by decide) runUnderlying45)
 refine qG fun D3 w N a J=>?_
 refine vL 4 q3j (fun E3 w N a J=>?_) (hb:=by rw [g.length];show (_+10) * _<=_;omega)
 refine go fun a J=>?_
 refine qI 5 6 fun w N a J=>?_
 refine go fun a J=>?_
 have k0:Chunks (RTA a0) 10 _ (y++[zTA]):=g.append (yQ rfl (q3k _))
 obtain ⟨y3,q2,N0⟩:=y3g (m:=y.length+1) N (i:=4) rfl (k0.length.trans (by rw [laQ,List.length_singleton])) (by decide)
 subst N0
 obtain ⟨d2,J0⟩:=N.toSees.gsSome (i:=4) rfl (by omega:0 < y.length+1)
 subst J0
 replace N:=N.nf
 refine Qq (fun a J=>?_) (o:=by exact fun J O=>xO (p:=d2) y.length J rfl rfl runUnderlying45 sizeOf79 (by omega))
 refine st0 J rfl rfl (qU (R:=RTA a0) (vs:=[.string (pk toks en v).text,.slice z1 (s).length l1,.int .i64 (f.kind),.string f.name,.string f.op,.int .i64 (f.num),.int .i64 (f.site),.slice Z1 f.args.length F1,.slice a2 f.arms.length c76,.slice b2 f.body.length G1]) (u:=zTA) (u':=(TA.mk (pk toks en v).text s f)) 4 y.length 0 J N rfl (tB (N.toSees.rowCell (i:=4) rfl).1) rfl rfl k0 (by rw [List.getElem?_append_right (Nat.le_refl _),Nat.sub_self];rfl) rfl sizeOf79 rfl rfl (by decide) (fun r2 v1 hr_=>by rw [z6x (by rw [v1];rfl)];exact (show RTA a0 _ (TA.mk (pk toks en v).text s f) from ⟨_,_,rfl,b0.len,V,b0⟩)) fun H1 w u1 N a J=>?_)
 replace N:=N.nf
 refine go fun a J=>?_
 replace N:=N.ar [3,1,0] [2,1,2]
 refine s0 _ _ _ (by subst X;omega) ⟨(a0),(Q0),(H - 1),((y++[(TA.mk (pk toks en v).text s f)])),(.slice (some d2) (y.length+1) q2),(H1),rfl,⟨J.pk,by exact N⟩,?_⟩
 refine ⟨((P).trans Y).trans F.1,?_⟩
 exact ⟨U,(by have h_:=u1;rw [q3q] at h_;exact h_),by omega⟩
 refine go fun a J=>?_
 rcases u0:isW (pk toks en v) (⟨#[124]⟩:Bs) with _ | _
 obtain ⟨e1,X1⟩:=j1u C0 o1 u0
 rw [e1] at E0
 replace N:=N.pl 1
 refine zF call110 (fun w N a J=>?_) (c:=pK z u0 N)
 refine qG fun f3 w N a J=>?_
 replace N:=N.ar [] [1,1]
 refine zF call112 (fun w N a J=>?_) (c:=vT z E0 N)
 replace N:=N.nf
 refine go fun a J=>?_
 replace N:=N.ar [] [1,2,2]
 refine hQ _ _ _ (yP J results118 ?_)
 rw [G0,e1]
 rw [X1] at r
 obtain ⟨Ψr_,C,N,q0⟩:=N.freezeRow (i:=2) rfl
 obtain ⟨Ψe_,m1,p0,L0,N⟩:=r Ψr_ _ _ _ C (RTE.iff.2 ⟨_,_,_,rfl,(by show I64 0;unfold I64;omega),(by show I64 0;unfold I64;omega),D.mono RAtom.mono C,⟨_,q0,g.mono fun _ _ h=>RTA.mono _ _ _ _ C h⟩,SliceOf.nil 8⟩) N
 exact ⟨(Ψe_,m1),rfl,⟨(((Y0).trans O0).trans P).trans (C.trans p0),L0⟩,N⟩
 have w1:=j1t C0 o1 u0
 replace N:=N.pl 1
 refine zF call110 (fun w N a J=>?_) (c:=wU z u0 N)
 obtain ⟨U1,R1,F0,y1,R0,I0,T,Q0,f,f0,U⟩:=y9q w1
 refine zF call111 (fun w N a J=>?_) (c:=z2o z F0 N)
 refine yE fun a J=>?_
 refine Alc fun D1 w N a J=>?_
 refine Sto 0 fun w N a J=>?_
 refine go fun a J=>?_
 replace N:=N.nilRow 9 1
 replace N:=N.nf
 refine qD (J.ks [0,1,2,6]) N (fun R mm a w=>∃(I:Nat) (c0:Nat) (s:List Bs) (r0:Value),mm=c0/\R Z [] [(0,.gs (r0) 9 1 (strs s)),(1,.blk D1 (ob [.string (pk toks en (v+1)).text,r0,.int .i64 ((0:Nat):Int),.string ⟨#[]⟩,.string ⟨#[]⟩,.int .i64 ((0:Nat):Int),.int .i64 ((0:Nat):Int),.slice none 0 0,.slice none 0 0,.slice none 0 0] 79)),(2,.blk rb (ob [.slice p1 toks.length c2,.int .i64 en,.int .i64 I] 135))] a w/\(aG toks en c0 I s=some (y1,R0))) ((H - 1)) ⟨(v+2),H - 1,[],.slice none 0 0,rfl,⟨J.pk,N⟩,I0⟩ ?_
 clear N J
 rintro mm a w ⟨I,c0,s,r0,X,⟨J,N⟩,A0⟩ L2 s1
 replace N:=N.nf
 replace N:=N.pl 2
 refine zF call146 (fun w N a J=>?_) (c:=cO z N)
 refine Qq (fun a J=>?_) (o:=by exact fun J O=>uD runUnderlying204 rfl isAgg3 J rfl rfl)
 by_cases z0:(pk toks en I).kind=2
 obtain ⟨V1,S1,H0⟩:=z9j A0 z0
 refine Reg [1,2,1,0,0,0,1,0] [2,3,4] fun w N a J=>?_
 refine zF call115 (fun w N a J=>?_) (c:=wR z z0 N)
 refine qG fun g3 w N a J=>?_
 refine vL 2 j0s (fun f2 w N a J=>?_) (hb:=by rw [wT];simp only [lcQ,lnQ];omega)
 refine Sto 3 fun w N a J=>?_
 refine go fun a J=>?_
 rw [z4m] at N
 replace N:=N.ar [0] [4,4,2,4,4]
 refine s1 _ _ _ (by subst X;omega) ⟨((I+1)),(c0 - 1),((s++[(pk toks en I).text])),(f2),rfl,⟨J.pk,by exact N⟩,?_⟩
 exact H0
 refine go fun a J=>?_
 obtain ⟨h0,i0⟩:=y3w A0 z0
 rw [h0] at T f0
 rw [i0] at U
 refine qG fun h3 w N a J=>?_
 replace N:=N.ar [] [1,1]
 refine zF call112 (fun w N a J=>?_) (c:=vT z T N)
 replace N:=N.nf
 refine go fun a J=>?_
 have M:=N
 clear N
 obtain ⟨B1,W,N,M0,N1⟩:=M.freezeRowC (i:=1) rfl
 clear M
 replace z:=z.mono RTok.mono W
 replace r:=r.mono W
 replace g:=g.mono fun _ _ h=>RTA.mono _ _ _ _ W h
 replace N:=N.nf
 have G:SliceOf RStr B1 1 _ (s):=⟨_,M0,chunks_str.2 rfl⟩
 obtain ⟨P0,x0,x1,n2,A2⟩:=G.form (by decide)
 have g0:=N
 clear N
 subst x1
 have N:=g0
 clear g0
 replace N:=N.ar [] [1,1]
 refine yF call118 (fun h2 w A N a J=>?_) (c:=BodyC.go (k:=H - 1) (ih _ (by omega)) [.string (pk toks en (v+1)).text,.slice P0 (s).length x0] (K:=.gs (n0) 79 10 m0::.blk E (ob (l++[.int .i64 ((7:Nat):Int),.string ⟨#[]⟩,.string ⟨#[]⟩,.int .i64 (((0:Nat):Int)),.int .i64 (((0:Nat):Int)),Z0,n0,.slice none 0 0]) o0)::(w0++K)) z hI f0 (by omega) N)
 obtain ⟨L,c127⟩:=h2
 simp only at A N J
 replace z:=z.mono RTok.mono A.1
 replace r:=r.mono A.1
 replace g:=g.mono fun _ _ h=>RTA.mono _ _ _ _ A.1 h
 replace G:=G.mono RStr.mono A.1
 have K0:=A.2
 have S:=K0
 obtain ⟨g1,b1,h1,c1,i1,c145,rfl,t2,u2,N2,O2,P2,w2,B2,x2,C2,y2,D2⟩:=RTE.fm K0
 replace N:=N.nf
 refine go fun a J=>?_
 refine yN [0,0,0,0] (.e 0 (.e2 1 2 (.e 2 (.e 3 (.done))) (.e 1 (.e 3 (.done))))) [0,1,2,3] J N fun w N=>?_
 refine Alc fun M2 w N a J=>?_
 refine kY ?_ ?_
 refine Sto 0 fun w N a J=>?_
 refine Sto 0 fun w N a J=>?_
 refine d_e J rfl rfl rfl (pE (yH 0 J N.toSees rfl rfl rfl isAgg4) ⟨jM (by kernel_rfl),fun a J=>?_⟩)
 refine Reg [1,1,1,1,2,2,0,0,1,1,0] [0,1,2,4] fun w N a J=>?_
 refine go fun a J=>?_
 refine Qq (fun a J=>?_) (o:=by exact fun J O=>mB 3 6 (b:=E) (pre:=l) J O rfl rfl rfl isAgg45)
 refine qG fun i3 w N a J=>?_
 refine vL 4 q3j (fun g2 w N a J=>?_) (hb:=by rw [g.length];show (_+10) * _<=_;omega)
 refine go fun a J=>?_
 refine qI 5 6 fun w N a J=>?_
 refine go fun a J=>?_
 replace N:=N.ar [3,1,0] [2,1,2]
 refine s0 _ _ _ (by subst X;omega) ⟨(L),(Q0),(H - 1),((y++[(TA.mk (pk toks en (v+1)).text s f)])),(g2),((m0++[.string (pk toks en (v+1)).text,.slice P0 (s).length x0,.int .i64 (f.kind),.string f.name,.string f.op,.int .i64 (f.num),.int .i64 (f.site),.slice g1 f.args.length b1,.slice h1 f.arms.length c1,.slice i1 f.body.length c145])),rfl,⟨J.pk,by exact N⟩,?_⟩
 refine ⟨((P).trans W).trans A.1,?_⟩
 exact ⟨U,(g.append (yQ rfl (show RTA L _ (TA.mk (pk toks en (v+1)).text s f) from ⟨_,_,rfl,S.len,G,S⟩))),by omega⟩
 refine Sto 0 fun w N a J=>?_
 refine Sto 0 fun w N a J=>?_
 refine d_e J rfl rfl rfl (pE (yH 0 J N.toSees rfl rfl rfl isAgg4) ⟨jM (by kernel_rfl),fun a J=>?_⟩)
 refine go fun a J=>?_
 refine Qq (fun a J=>?_) (o:=by exact fun J O=>mB 4 6 (b:=E) (pre:=l) J O rfl rfl rfl isAgg45)
 refine Qq (fun a J=>?_) (o:=by exact fun J O=>mR 3 (y.length) J O rfl rfl (by rw [g.length]) (by decide) runUnderlying45)
 refine qG fun j3 w N a J=>?_
 refine vL 4 q3j (fun k3 w N a J=>?_) (hb:=by rw [g.length];show (_+10) * _<=_;omega)
 refine go fun a J=>?_
 refine qI 5 6 fun w N a J=>?_
 refine go fun a J=>?_
 have k0:Chunks (RTA L) 10 _ (y++[zTA]):=g.append (yQ rfl (q3k _))
 obtain ⟨e3,E1,N0⟩:=y3g (m:=y.length+1) N (i:=4) rfl (k0.length.trans (by rw [laQ,List.length_singleton])) (by decide)
 subst N0
 obtain ⟨j1,J0⟩:=N.toSees.gsSome (i:=4) rfl (by omega:0 < y.length+1)
 subst J0
 replace N:=N.nf
 refine Qq (fun a J=>?_) (o:=by exact fun J O=>xO (p:=j1) y.length J rfl rfl runUnderlying45 sizeOf79 (by omega))
 refine st0 J rfl rfl (qU (R:=RTA L) (vs:=[.string (pk toks en (v+1)).text,.slice P0 (s).length x0,.int .i64 (f.kind),.string f.name,.string f.op,.int .i64 (f.num),.int .i64 (f.site),.slice g1 f.args.length b1,.slice h1 f.arms.length c1,.slice i1 f.body.length c145]) (u:=zTA) (u':=(TA.mk (pk toks en (v+1)).text s f)) 4 y.length 0 J N rfl (tB (N.toSees.rowCell (i:=4) rfl).1) rfl rfl k0 (by rw [List.getElem?_append_right (Nat.le_refl _),Nat.sub_self];rfl) rfl sizeOf79 rfl rfl (by decide) (fun r2 v1 hr_=>by rw [z6x (by rw [v1];rfl)];exact (show RTA L _ (TA.mk (pk toks en (v+1)).text s f) from ⟨_,_,rfl,S.len,G,S⟩)) fun n1 w U0 N a J=>?_)
 replace N:=N.nf
 refine go fun a J=>?_
 replace N:=N.ar [3,1,0] [2,1,2]
 refine s0 _ _ _ (by subst X;omega) ⟨(L),(Q0),(H - 1),((y++[(TA.mk (pk toks en (v+1)).text s f)])),(.slice (some j1) (y.length+1) E1),(n1),rfl,⟨J.pk,by exact N⟩,?_⟩
 refine ⟨((P).trans W).trans A.1,?_⟩
 exact ⟨U,(by have h_:=U0;rw [q3q] at h_;exact h_),by omega⟩
 obtain ⟨P1,Y1,m_,y_,M1,O1,b_,L1,F2⟩:=j6s D0 j0
 have E2:=y2s D0
 refine zF call110 (fun w N a J=>?_) (c:=wU z j0 N)
 refine zF call115 (fun w N a J=>?_) (c:=wR z P1 N)
 refine go fun a J=>?_
 refine qI 1 1 fun w N a J=>?_
 refine qG fun v164 w N a J=>?_
 replace N:=N.ar [] [1,1]
 refine zF call112 (fun w N a J=>?_) (c:=vT z Y1 N)
 replace N:=N.nf
 replace N:=N.ar [] [1,1]
 refine yF call147 (fun i2 w B N a J=>?_) (c:=j4u z M1 hI N)
 obtain ⟨C1,k1⟩:=i2
 simp only at B N J
 replace z:=z.mono RTok.mono B.1
 replace r:=r.mono B.1
 have t1:=B.2.1
 replace N:=N.nf
 refine qG fun l3 w N a J=>?_
 replace N:=N.ar [] [1,1]
 refine zF call112 (fun w N a J=>?_) (c:=vT z O1 N)
 replace N:=N.nf
 refine go fun a J=>?_
 refine st J rfl rfl rfl (z8h (cs:=[.int .i64 ((0:Nat):Int),.string ⟨#[]⟩,.string ⟨#[]⟩,.int .i64 ((0:Nat):Int),.int .i64 ((0:Nat):Int),.slice none 0 0,.slice none 0 0,.slice none 0 0]) rt_46 zeroValue48 rfl rfl (by decide) J N rfl rfl (by decide) fun e0 w N a J=>?_)
 replace N:=N.nf
 refine go fun a J=>?_
 refine qI 2 7 fun w N a J=>?_
 refine go fun a J=>?_
 refine Qq (fun a J=>?_) (o:=by exact fun J O=>mB 2 7 (b:=E) (pre:=l) J O rfl rfl rfl isAgg46)
 refine Qq (fun a J=>?_) (o:=by exact fun J O=>Ok.cast (xO (p:=⟨e0,0,none⟩) 0 J rfl rfl runUnderlying46 sizeOf48 (by decide)) (show Value.pointer (some ((⟨e0,0,none⟩:Addr).add (0 * 8)))=.pointer (some ⟨e0,([]:List Value).length+0,none⟩) from rfl))
 refine go fun a J=>?_
 replace N:=N.ar [] [2,1,2]
 refine s2 _ _ _ (by subst X;omega) ⟨(C1),((m_+1)),(d0 - 1),((y0+1)),(e0),(([]:List Value)),(48),((.blk E (ob (l++[.int .i64 (y_.kind),.string (pk toks en (l0+1)).text,.string y_.op,.int .i64 (y_.num),.int .i64 (y_.site),k1,.slice none 0 0,.slice (some ⟨e0,0,none⟩) 1 1]) o0)::w0)),(b_),rfl,J.pk,N,?_⟩
 refine ⟨(Y0).trans B.1,?_⟩
 exact ⟨L1,by omega,by omega,r.step (Fz.Le.refl _) F2 B.2.2.1 B.2.2.2 t1⟩
theorem x1e {toks:List Tok} {en:Nat}:∀k,BodyC toks en k:=by
 intro k
 induction k using Nat.strongRecOn with
 | ind k f=>intro Φ K w rb n n' cb d tv cpre cT e c a h b N;exact q7c f c a h b N
theorem x0z {e f:Nat} {g h q:Value} {m:Nat} {l t:List Bool} {Φ:Fz} {K:List Res} {w:World} {rb en n:Nat} {tv:Value} {toks:List Tok} (i:SliceOf RTok Φ 4 tv toks) (j:tS toks en n l=some (m,t)) (N:Mem Φ (.blk rb (ob [tv,.int .i64 en,.int .i64 n] 135)::.gs q 4 1 (y1q l)::.blk f (ob [g,h,q] 85)::.blk e (ob [.pointer (some ⟨rb,0,none⟩)] 133)::K) w) :
  Calls prog 114 #[.pointer (some ⟨e,0,none⟩),.pointer (some ⟨f,0,none⟩)] w (fun ee w'=>∃v1:Value,ee=.returned (.tuple #[])/\True/\Mem Φ (.blk rb (ob [tv,.int .i64 en,.int .i64 m] 135)::.gs v1 4 1 (y1q t)::.blk f (ob [g,h,v1] 85)::.blk e (ob [.pointer (some ⟨rb,0,none⟩)] 133)::K) w'):=by
 obtain ⟨o,rfl,b⟩:=q0s j
 obtain ⟨p1,c2,rfl,p,r⟩:=i.fm
 refine zJ func114 ntmps114 fun Q hQ a J=>?_
 refine go fun a J=>?_
 rcases d:isW (pk toks en n) (⟨#[42]⟩:Bs) with _ | _
 obtain ⟨k,rfl⟩:isW (pk toks en n) ⟨#[95]⟩=true/\t=l++[false]:=by
  rcases b with h_ | h_
  cases h_.1.symm.trans d
  exact h_.2
 refine zF call110 (fun w N a J=>?_) (c:=pK i d N)
 refine qG fun v9 w N a J=>?_
 replace N:=N.ar [] [1,1]
 refine zF call112 (fun w N a J=>?_) (c:=vT i k N)
 replace N:=N.nf
 refine qG fun s w N a J=>?_
 refine vL 2 j0v (fun u w N a J=>?_) (hb:=by rw [q0c];simp only [lcQ,lnQ];omega)
 refine Sto 3 fun w N a J=>?_
 refine go fun a J=>?_
 replace N:=N.dl [0]
 refine hQ _ _ _ (yP J results114 ?_)
 rw [y2t];exact ⟨_,rfl,trivial,N⟩
 obtain rfl:t=l++[true]:=by
  rcases b with h_ | h_
  exact h_.2
  cases h_.1.symm.trans d
 refine zF call110 (fun w N a J=>?_) (c:=wU i d N)
 refine qG fun v w N a J=>?_
 refine vL 2 j0v (fun y w N a J=>?_) (hb:=by rw [q0c];simp only [lcQ,lnQ];omega)
 refine Sto 3 fun w N a J=>?_
 refine go fun a J=>?_
 replace N:=N.dl [0]
 refine hQ _ _ _ (yP J results114 ?_)
 rw [y2t];exact ⟨_,rfl,trivial,N⟩
theorem x1a {f g:Nat} {i j s:Value} {m:Nat} {l t:List TPar} {Φ:Fz} {K:List Res} {w:World} {rb en n:Nat} {tv:Value} {toks:List Tok} (k:SliceOf RTok Φ 4 tv toks) (o:y4b toks en n l=some (m,t)) (N:Mem Φ (.blk rb (ob [tv,.int .i64 en,.int .i64 n] 135)::.gs s 125 2 (xX l)::.blk g (ob [i,j,s,.int .i64 ((0:Nat):Int),.string ⟨#[]⟩,.string ⟨#[]⟩,.int .i64 ((0:Nat):Int),.int .i64 ((0:Nat):Int),.slice none 0 0,.slice none 0 0,.slice none 0 0] 50)::.blk f (ob [.pointer (some ⟨rb,0,none⟩)] 133)::K) w) :
  Calls prog 117 #[.pointer (some ⟨f,0,none⟩),.pointer (some ⟨g,0,none⟩)] w (fun ee w'=>∃v1:Value,ee=.returned (.tuple #[])/\True/\Mem Φ (.blk rb (ob [tv,.int .i64 en,.int .i64 m] 135)::.gs v1 125 2 (xX t)::.blk g (ob [i,j,v1,.int .i64 ((0:Nat):Int),.string ⟨#[]⟩,.string ⟨#[]⟩,.int .i64 ((0:Nat):Int),.int .i64 ((0:Nat):Int),.slice none 0 0,.slice none 0 0,.slice none 0 0] 50)::.blk f (ob [.pointer (some ⟨rb,0,none⟩)] 133)::K) w'):=by
 obtain ⟨p,b⟩:=j4p o
 obtain ⟨p1,c2,rfl,r,u⟩:=k.fm
 refine zJ func117 ntmps117 fun Q hQ a J=>?_
 refine go fun a J=>?_
 rcases d:isW (pk toks en n) (⟨#[42]⟩:Bs) with _ | _
 obtain ⟨h,rfl,rfl⟩:(pk toks en n).kind=2/\m=n+1/\t=l++[⟨(pk toks en n).text,false⟩]:=by
  rcases b with h_ | h_
  cases h_.1.symm.trans d
  exact h_.2
 refine zF call110 (fun w N a J=>?_) (c:=pK k d N)
 refine go fun a J=>?_
 refine yN [1,2,2,0,1,1,0,0,1,0] (.q 0 (.q 1 (.q 2 (.q 4 (.e 3 (.q 5 (.e 6 (.e 7 (.q 8 (.e 9 (.done))))))))))) [2,3] J N fun w N=>?_
 refine zF call115 (fun w N a J=>?_) (c:=wR k h N)
 refine yE fun a J=>?_
 refine qG fun y w N a J=>?_
 refine vL 2 j0t (fun z w N a J=>?_) (hb:=by rw [z2k];simp only [lcQ,lnQ];omega)
 refine Sto 3 fun w N a J=>?_
 refine go fun a J=>?_
 replace N:=N.dl [0]
 refine hQ _ _ _ (yP J results117 ?_)
 rw [z4d];exact ⟨_,rfl,trivial,N⟩
 obtain ⟨h,rfl,rfl⟩:(pk toks en (n+1)).kind=2/\m=n+2/\t=l++[⟨(pk toks en (n+1)).text,true⟩]:=by
  rcases b with h_ | h_
  exact h_.2
  cases h_.1.symm.trans d
 refine zF call110 (fun w N a J=>?_) (c:=wU k d N)
 refine go fun a J=>?_
 refine yN [1,2,2,0,1,1,0,0,1,0] (.q 0 (.q 1 (.q 2 (.q 4 (.e 3 (.q 5 (.e 6 (.e 7 (.q 8 (.e 9 (.done))))))))))) [2,3] J N fun w N=>?_
 refine zF call115 (fun w N a J=>?_) (c:=wR k h N)
 refine yE fun a J=>?_
 refine qG fun v9 w N a J=>?_
 refine vL 2 j0t (fun v w N a J=>?_) (hb:=by rw [z2k];simp only [lcQ,lnQ];omega)
 refine Sto 3 fun w N a J=>?_
 refine go fun a J=>?_
 replace N:=N.dl [0]
 refine hQ _ _ _ (yP J results117 ?_)
 rw [z4d];exact ⟨_,rfl,trivial,N⟩
theorem q3h {k:Nat} {T:Trc} {Φ:Fz} {K:List Res} {w:World} {rb en:Nat} {tv:Value} {toks:List Tok} (h:mL toks en k=some T) (hk:k<=19999) (j:SliceOf RTok Φ 4 tv toks) (hI:∀t∈toks,I64 t.num) (N:Mem Φ (.blk rb (ob [tv,.int .i64 en,.int .i64 ((0:Nat):Int)] 135)::K) w) :
  Calls prog 66 #[.pointer (some ⟨rb,0,none⟩)] w (fun ee w'=>∃q:Fz×List Value×Nat,ee=.returned (.agg q.2.1.toArray)/\(Φ.Le q.1/\RTrc q.1 q.2.1 T)/\Mem q.1 (.blk rb (ob [tv,.int .i64 en,.int .i64 q.2.2] 135)::K) w'):=by
 obtain ⟨p1,c2,rfl,s2,L2⟩:=j.fm
 obtain ⟨b2,H1,d2,O0,e2,f2,B0,u0,t0,x0,D0,rfl⟩:=q3b h
 refine zJ func66 ntmps66 fun Q hQ a J=>?_
 refine Bx fun b6 w N a J=>?_
 refine Alc fun b7 w N a J=>?_
 refine Alc fun b9 w N a J=>?_
 refine go fun a J=>?_
 replace N:=N.nilRow 85 3
 replace N:=N.nf
 refine qD (J.ks [1,2,3]) N (fun R mm a w=>∃(p:Fz) (o:Nat) (p0:Nat) (P:List TCon) (m:Value) (D:List Value),mm=p0/\R p [] [(0,.gs (m) 85 3 D),(1,.blk b9 (ob [m,.slice none 0 0,.slice none 0 0,.slice none 0 0] 26)),(4,.blk rb (ob [.slice p1 toks.length c2,.int .i64 en,.int .i64 o] 135))] a w/\(Φ.Le p/\(cF toks en p0 o P=some (b2,H1)/\Chunks (RTCon p) 3 D P))) (k) ⟨Φ,0,k,[],.slice none 0 0,[],rfl,⟨J.pk,N⟩,⟨Fz.Le.refl _,⟨B0,rfl⟩⟩⟩ ?_
 clear N J
 rintro mm a w ⟨p,o,p0,P,m,D,V,⟨J,N⟩,Y⟩ D2 P0
 replace N:=N.nf
 obtain ⟨f0,Y⟩:=Y
 replace j:=j.mono RTok.mono f0
 obtain ⟨s0,b⟩:=Y
 refine go fun a J=>?_
 rcases G:isW (pk toks en o) (⟨#[100,97,116,97]⟩:Bs) with _ | _
 obtain ⟨d1,U0⟩:=j7f s0 G
 rw [d1] at u0 t0
 replace N:=N.pl 4
 refine zF call110 (fun w N a J=>?_) (c:=pK j G N)
 refine go fun a J=>?_
 refine qD (J.ks [1,2,3]) N (fun R mm a w=>∃(r1:Nat),mm=r1/\R p [] [] a w/\(True)) (0) ⟨0,rfl,⟨J.pk,N⟩,trivial⟩ ?_
 clear N J
 rintro mm a w ⟨r1,V,⟨J,N⟩,p2⟩ E2 q2
 refine zF call110 (fun w N a J=>?_) (c:=pK j u0 N)
 refine go fun a J=>?_
 replace N:=N.nilRow 50 11
 replace N:=N.nf
 refine qD (J.ks [1,2,3]) N (fun R mm a w=>∃(C:Fz) (z:Nat) (W:Nat) (U:List TFn) (A:Value) (S:List Value),mm=W/\R C [] [(0,.gs (A) 50 11 S),(1,.blk rb (ob [.slice p1 toks.length c2,.int .i64 en,.int .i64 z] 135)),(3,.blk b9 (ob [m,.slice none 0 0,A,.slice none 0 0] 26))] a w/\(p.Le C/\(sM toks en W z U=some (d2,O0)/\Chunks (RTFn C) 11 S U/\W<=k))) (k) ⟨p,o,k,[],.slice none 0 0,[],rfl,⟨J.pk,N⟩,⟨Fz.Le.refl _,⟨t0,rfl,Nat.le_refl _⟩⟩⟩ ?_
 clear N J
 rintro mm a w ⟨C,z,W,U,A,S,V,⟨J,N⟩,Z⟩ F2 Q0
 replace N:=N.nf
 obtain ⟨I,Z⟩:=Z
 replace j:=j.mono RTok.mono I
 replace b:=b.mono fun _ _ h=>RTCon.mono _ _ _ _ I h
 obtain ⟨a0,g,M1⟩:=Z
 refine go fun a J=>?_
 rcases r:isW (pk toks en z) (⟨#[102,117,110]⟩:Bs) with _ | _
 obtain ⟨Y0,e1,X0⟩:=fun_end a0 r
 rw [e1] at x0
 replace N:=N.pl 1
 refine zF call116 (fun w N a J=>?_) (c:=z4z j r N)
 refine zF call116 (fun w N a J=>?_) (c:=z4z j Y0 N)
 refine go fun a J=>?_
 replace N:=N.nilRow 9 1
 replace N:=N.nf
 refine qD (J.ks [1,2,3]) N (fun R mm a w=>∃(E:Nat) (q0:Nat) (X:List Bs) (H0:Value),mm=q0/\R C [] [(0,.gs (H0) 9 1 (strs X)),(1,.blk rb (ob [.slice p1 toks.length c2,.int .i64 en,.int .i64 E] 135)),(4,.blk b9 (ob [m,.slice none 0 0,A,H0] 26))] a w/\(sX toks en q0 E X=some (e2,f2))) (k) ⟨z,k,[],.slice none 0 0,rfl,⟨J.pk,N⟩,x0⟩ ?_
 clear N J
 rintro mm a w ⟨E,q0,X,H0,V,⟨J,N⟩,r0⟩ G2 R0
 replace N:=N.nf
 refine go fun a J=>?_
 rcases H:isW (pk toks en E) (⟨#[111,117,116,112,117,116]⟩:Bs) with _ | _
 obtain ⟨f1,g1⟩:=out_end r0 H
 rw [f1] at D0
 replace N:=N.pl 1
 refine zF call110 (fun w N a J=>?_) (c:=pK j H N)
 refine Reg [2,1,1,2,2,1,1,2,1,1] [0,1,2,3,4,5,6] fun w N a J=>?_
 refine go fun a J=>?_
 have e:=N
 clear N
 obtain ⟨s1,L,N,l0,w1⟩:=e.freezeRowC (i:=3) rfl
 clear e
 replace j:=j.mono RTok.mono L
 replace b:=b.mono fun _ _ h=>RTCon.mono _ _ _ _ L h
 replace g:=g.mono fun _ _ h=>RTFn.mono _ _ _ _ L h
 replace N:=N.nf
 have l:SliceOf RTCon s1 3 _ (P):=⟨_,l0,b⟩
 obtain ⟨g2,c46,y,R1,t2⟩:=l.form (by decide)
 have f:=N
 clear N
 subst y
 have N:=f
 clear f
 have e:=N
 clear N
 obtain ⟨t1,B,N,m0,x1⟩:=e.freezeRowC (i:=2) rfl
 clear e
 replace j:=j.mono RTok.mono B
 replace b:=b.mono fun _ _ h=>RTCon.mono _ _ _ _ B h
 replace g:=g.mono fun _ _ h=>RTFn.mono _ _ _ _ B h
 replace l:=l.mono RTCon.mono B
 replace N:=N.nf
 have u:SliceOf RTFn t1 11 _ (U):=⟨_,m0,g⟩
 obtain ⟨h2,E1,y,S1,u2⟩:=u.form (by decide)
 have f:=N
 clear N
 subst y
 have N:=f
 clear f
 have e:=N
 clear N
 obtain ⟨z0,s,N,n0,y1⟩:=e.freezeRowC (i:=1) rfl
 clear e
 replace j:=j.mono RTok.mono s
 replace b:=b.mono fun _ _ h=>RTCon.mono _ _ _ _ s h
 replace g:=g.mono fun _ _ h=>RTFn.mono _ _ _ _ s h
 replace l:=l.mono RTCon.mono s
 replace u:=u.mono RTFn.mono s
 replace N:=N.nf
 have e0:SliceOf RStr z0 1 _ (X):=⟨_,n0,chunks_str.2 rfl⟩
 obtain ⟨i2,F1,y,T1,v2⟩:=e0.form (by decide)
 have f:=N
 clear N
 subst y
 have N:=f
 clear f
 refine Sto 2 fun w N a J=>?_
 refine go fun a J=>?_
 have Q1:=N
 replace N:=N.dl [3,2,1]
 refine kE (N:=Q1) ?_
 rw [U0,X0,g1];exact ⟨(z0,[.slice g2 (P).length c46,.slice none 0 0,.slice h2 (U).length E1,.slice i2 (X).length F1],E),rfl,⟨((((f0).trans I).trans L).trans B).trans s,_,_,_,_,rfl,Nat.le_refl 0,l,SliceOf.nil 1,u,e0⟩,N⟩
 obtain ⟨h1,w0,c1,G0,E0⟩:=x0r r0 H
 replace N:=N.pl 1
 refine zF call110 (fun w N a J=>?_) (c:=wU j H N)
 refine Reg [1,2,2,0,0,0,1,0] [2,3,4,5,6] fun w N a J=>?_
 refine zF call115 (fun w N a J=>?_) (c:=wR j c1 N)
 refine qG fun M2 w N a J=>?_
 refine vL 2 j0s (fun k2 w N a J=>?_) (hb:=by rw [wT];simp only [lcQ,lnQ];omega)
 refine Sto 5 fun w N a J=>?_
 refine qG fun v70 w N a J=>?_
 replace N:=N.ar [] [2,1]
 refine zF call112 (fun w N a J=>?_) (c:=vT j G0 N)
 replace N:=N.nf
 refine go fun a J=>?_
 rw [z4m] at N
 replace N:=N.ar [1] [6,6,6,6,6,5,6]
 refine R0 _ _ _ (by subst V;omega) ⟨((E+3)),(q0 - 1),((X++[(pk toks en (E+1)).text])),(k2),rfl,⟨J.pk,by exact N⟩,?_⟩
 exact E0
 obtain ⟨h1,w0,b1,q_,h0,b0,A0,c_,b_,S0,i1,c0⟩:=j9f a0 r
 have r2:=isW_lt r
 replace N:=N.pl 1
 refine zF call116 (fun w N a J=>?_) (c:=z4z j r N)
 refine zF call116 (fun w N a J=>?_) (c:=z4z j r N)
 refine yE fun a J=>?_
 refine Alc fun D1 w N a J=>?_
 refine Sto 0 fun w N a J=>?_
 refine Sto 1 fun w N a J=>?_
 replace N:=N.pl 1
 refine zF call115 (fun w N a J=>?_) (c:=wR j b1 N)
 refine Sto 1 fun w N a J=>?_
 refine go fun a J=>?_
 replace N:=N.nilRow 125 2
 replace N:=N.ar [] [7,3,2,3]
 refine yF call113 (fun O2 w o2 N a J=>?_) (c:=y0c (el:=y4b toks en) (β:=Value) (KS:=fun l_ v_=>[.gs v_ 125 2 (xX l_),.blk D1 (ob [.string (pk toks en (z+1)).text,.bool true,v_,.int .i64 ((0:Nat):Int),.string ⟨#[]⟩,.string ⟨#[]⟩,.int .i64 ((0:Nat):Int),.int .i64 ((0:Nat):Int),.slice none 0 0,.slice none 0 0,.slice none 0 0] 50),.blk b6 (ob [.pointer (some ⟨rb,0,none⟩)] 133)]) (K:=.gs (A) 50 11 S::.gs (m) 85 3 D::.blk b9 (ob [m,.slice none 0 0,A,.slice none 0 0] 26)::.blk b7 (ob [.slice none 0 0,.slice none 0 0,.slice none 0 0,.slice none 0 0] 26)::K) j b0 call117 (fun _ _ _ _ _ _ C0 N=>x1a j C0 N) N)
 refine qG fun N2 w N a J=>?_
 replace N:=N.ar [] [1,1]
 refine zF call112 (fun w N a J=>?_) (c:=vT j A0 N)
 replace N:=N.nf
 refine go fun a J=>?_
 have e:=N
 clear N
 obtain ⟨u1,M,N,o0,z1⟩:=e.freezeRowC (i:=1) rfl
 clear e
 replace j:=j.mono RTok.mono M
 replace b:=b.mono fun _ _ h=>RTCon.mono _ _ _ _ M h
 replace g:=g.mono fun _ _ h=>RTFn.mono _ _ _ _ M h
 replace N:=N.nf
 have v:SliceOf RTPar u1 2 _ (h0):=⟨_,o0,sY h0⟩
 obtain ⟨m1,N0,y,U1,w2⟩:=v.form (by decide)
 have f:=N
 clear N
 subst y
 have N:=f
 clear f
 replace N:=N.ar [] [1,1]
 refine yF call118 (fun l2 w n N a J=>?_) (c:=BodyC.go (d:=1) (k:=W - 1) (x1e _) [.string (pk toks en (z+1)).text,.bool true,.slice m1 (h0).length N0] (K:=.blk b6 (ob [.pointer (some ⟨rb,0,none⟩)] 133)::.gs (A) 50 11 S::.gs (m) 85 3 D::.blk b9 (ob [m,.slice none 0 0,A,.slice none 0 0] 26)::.blk b7 (ob [.slice none 0 0,.slice none 0 0,.slice none 0 0,.slice none 0 0] 26)::K) j hI S0 (by omega) N)
 obtain ⟨v1,H2⟩:=l2
 simp only at n N J
 replace j:=j.mono RTok.mono n.1
 replace b:=b.mono fun _ _ h=>RTCon.mono _ _ _ _ n.1 h
 replace g:=g.mono fun _ _ h=>RTFn.mono _ _ _ _ n.1 h
 replace v:=v.mono RTPar.mono n.1
 have y0:=n.2
 have F0:=y0
 obtain ⟨j2,G1,j1,K0,k1,L0,rfl,K1,L1,J2,m2,n2,N1,V1,O1,W1,P1,X1⟩:=RTE.fm y0
 replace N:=N.nf
 refine qG fun y2 w N a J=>?_
 replace N:=N.ar [] [1,1]
 refine zF call112 (fun w N a J=>?_) (c:=vT j i1 N)
 replace N:=N.nf
 refine qG fun z2 w N a J=>?_
 refine vL 4 q3i (fun n1 w N a J=>?_) (hb:=by rw [g.length];show (_+11) * _<=_;omega)
 refine Sto 6 fun w N a J=>?_
 refine go fun a J=>?_
 replace N:=N.ar [2,0] [1,5,5,5,4,5]
 refine Q0 _ _ _ (by subst V;omega) ⟨(v1),((c_+1)),(W - 1),((U++[(⟨(pk toks en (z+1)).text,true,h0,b_⟩:TFn)])),(n1),((S++[.string (pk toks en (z+1)).text,.bool true,.slice m1 (h0).length N0,.int .i64 (b_.kind),.string b_.name,.string b_.op,.int .i64 (b_.num),.int .i64 (b_.site),.slice j2 b_.args.length G1,.slice j1 b_.arms.length K0,.slice k1 b_.body.length L0])),rfl,⟨J.pk,by exact N⟩,?_⟩
 refine ⟨((I).trans M).trans n.1,?_⟩
 exact ⟨c0,g.append (yQ rfl ⟨_,_,rfl,v,F0⟩),by omega⟩
 obtain ⟨h1,w0,Z0,J1,a1,q_,k0,b0,Z1,c0⟩:=j3b s0 G
 replace N:=N.pl 4
 refine zF call110 (fun w N a J=>?_) (c:=wU j G N)
 refine zF call111 (fun w N a J=>?_) (c:=z2o j Z0 N)
 refine yE fun a J=>?_
 refine Alc fun J0 w N a J=>?_
 refine Sto 0 fun w N a J=>?_
 refine qG fun A2 w N a J=>?_
 replace N:=N.ar [] [2,1]
 refine zF call112 (fun w N a J=>?_) (c:=vT j J1 N)
 replace N:=N.nf
 refine zF call111 (fun w N a J=>?_) (c:=z2o j a1 N)
 refine Sto 1 fun w N a J=>?_
 refine go fun a J=>?_
 replace N:=N.nilRow 4 1
 replace N:=N.ar [] [6,3,2,3]
 refine yF call113 (fun C2 w I1 N a J=>?_) (c:=y0c (el:=tS toks en) (β:=Value) (KS:=fun l_ v_=>[.gs v_ 4 1 (y1q l_),.blk J0 (ob [.string (pk toks en (o+1)).text,.string (pk toks en (o+3)).text,v_] 85),.blk b6 (ob [.pointer (some ⟨rb,0,none⟩)] 133)]) (K:=.gs (m) 85 3 D::.blk b9 (ob [m,.slice none 0 0,.slice none 0 0,.slice none 0 0] 26)::.blk b7 (ob [.slice none 0 0,.slice none 0 0,.slice none 0 0,.slice none 0 0] 26)::K) j b0 call114 (fun _ _ _ _ _ _ C0 N=>x0z j C0 N) N)
 refine qG fun B2 w N a J=>?_
 replace N:=N.ar [] [1,1]
 refine zF call112 (fun w N a J=>?_) (c:=vT j Z1 N)
 replace N:=N.nf
 refine go fun a J=>?_
 have e:=N
 clear N
 obtain ⟨i0,g0,N,d0,V0⟩:=e.freezeRowC (i:=1) rfl
 clear e
 replace b:=b.mono fun _ _ h=>RTCon.mono _ _ _ _ g0 h
 replace N:=N.nf
 have F:SliceOf RBoo i0 1 _ (k0):=⟨_,d0,z4v k0⟩
 obtain ⟨l1,M0,y,A1,Y1⟩:=F.form (by decide)
 have f:=N
 clear N
 subst y
 have N:=f
 clear f
 refine qG fun v139 w N a J=>?_
 refine vL 4 rt_22 (fun o1 w N a J=>?_) (hb:=by rw [b.length];simp only [lcQ,lnQ];omega)
 refine Sto 5 fun w N a J=>?_
 refine go fun a J=>?_
 replace N:=N.ar [2,0] [1,4,4,4]
 refine P0 _ _ _ (by subst V;omega) ⟨(i0),((q_+1)),(p0 - 1),((P++[(⟨(pk toks en (o+1)).text,(pk toks en (o+3)).text,k0⟩:TCon)])),(o1),((D++[.string (pk toks en (o+1)).text,.string (pk toks en (o+3)).text,.slice l1 (k0).length M0])),rfl,⟨J.pk,by exact N⟩,?_⟩
 refine ⟨(f0).trans g0,?_⟩
 exact ⟨c0,b.append (yQ rfl ⟨_,rfl,F⟩)⟩
section
variable {Φ:Fz} {K:List Res} {w:World}
theorem j4r {rb en d e k:Nat} {tv:Value} {toks:List Tok} {T:Trc} (h:mL toks en k=some T) (P:k<=19999) (F:SliceOf RTok Φ 4 tv toks) (M:∀t∈toks,I64 t.num) (N:Mem Φ (.blk d (ob [.slice none 0 0,.slice none 0 0,.slice none 0 0,.slice none 0 0] 26)::.blk e (ob [.pointer (some ⟨rb,0,none⟩)] 133)::.blk rb (ob [tv,.int .i64 en,.int .i64 ((0:Nat):Int)] 135)::K) w) :
  Calls prog 65 #[.pointer (some ⟨e,0,none⟩),.pointer (some ⟨d,0,none⟩)] w (fun ee w'=>∃q:Fz×List Value×Nat,ee=.returned (.tuple #[])/\(Φ.Le q.1/\RTrc q.1 q.2.1 T)/\Mem q.1 (.blk d (ob q.2.1 26)::.blk e (ob [.pointer (some ⟨rb,0,none⟩)] 133)::.blk rb (ob [tv,.int .i64 en,.int .i64 q.2.2] 135)::K) w'):=by
 obtain ⟨p1,c2,rfl,A,R⟩:=F.fm
 refine zJ func65 ntmps65 fun Q hQ a J=>?_
 replace N:=N.pl 2
 refine yF call66 (fun U w f N a J=>?_) (c:=q3h h P F M N)
 obtain ⟨r,V,S⟩:=U
 simp only at f N J
 have b:=f.2
 have g:=b
 obtain ⟨m,i,n,c21,o,j,p,l,rfl,s,G,H,I,L,u,B,v,C,y,D,z,E⟩:=RTrc.fm b
 replace N:=N.nf
 refine Sto 1 fun w N a J=>?_
 refine go fun a J=>?_
 replace N:=N.ar [] [2,2]
 refine hQ _ _ _ (yP J results65 ?_)
 exact ⟨(r,[.slice m T.cons.length i,.slice n T.inputs.length c21,.slice o T.funs.length j,.slice p T.outputs.length l],S),rfl,⟨f.1,g⟩,N⟩
theorem y1t {rb en a c k:Nat} {tv:Value} {toks:List Tok} {T:Trc} (h:mL toks en k=some T) (m:k<=19999) (n:SliceOf RTok Φ 4 tv toks) (l:∀t∈toks,I64 t.num) (N:Mem Φ (.blk a (ob [.slice none 0 0,.slice none 0 0,.slice none 0 0,.slice none 0 0] 26)::.blk c (ob [.pointer (some ⟨rb,0,none⟩)] 133)::.blk rb (ob [tv,.int .i64 en,.int .i64 ((0:Nat):Int)] 135)::K) w) :
  Calls prog 64 #[.func (.func 65) #[] #[.pointer (some ⟨c,0,none⟩),.pointer (some ⟨a,0,none⟩)]] w (fun ee w'=>∃q:Fz×List Value×Nat,ee=.returned (.agg (List.toArray W0))/\(Φ.Le q.1/\RTrc q.1 q.2.1 T)/\Mem q.1 (.blk a (ob q.2.1 26)::.blk c (ob [.pointer (some ⟨rb,0,none⟩)] 133)::.blk rb (ob [tv,.int .i64 en,.int .i64 q.2.2] 135)::K) w'):=by
 have j:=z8o (r:=(.ok ():Except Unit Unit)) (cs:=[.pointer (some ⟨c,0,none⟩),.pointer (some ⟨a,0,none⟩)]) (K:=K) (G:=fun _ (q:Fz×List Value×Nat)=>Φ.Le q.1/\RTrc q.1 q.2.1 T) (F:=fun _ q=>q.1) (KO:=fun _ q=>.blk a (ob q.2.1 26)::.blk c (ob [.pointer (some ⟨rb,0,none⟩)] 133)::.blk rb (ob [tv,.int .i64 en,.int .i64 ((q.2.2:Nat):Int)] 135)::K) call65 (fun b w N=>?_) N
 exact j
 have d:Mem Φ (.blk a (ob [.slice none 0 0,.slice none 0 0,.slice none 0 0,.slice none 0 0] 26)::.blk c (ob [.pointer (some ⟨rb,0,none⟩)] 133)::.blk rb (ob [tv,.int .i64 en,.int .i64 ((0:Nat):Int)] 135)::.blk b (ob W0 137)::K) w:=N.perm (List.perm_middle (l₁:=([.blk a (ob [.slice none 0 0,.slice none 0 0,.slice none 0 0,.slice none 0 0] 26),.blk c (ob [.pointer (some ⟨rb,0,none⟩)] 133),.blk rb (ob [tv,.int .i64 en,.int .i64 ((0:Nat):Int)] 135)]:List Res))).symm
 refine (j4r h m n l d).mono fun e w' h=>?_
 obtain ⟨q,f,g,i⟩:=h
 exact ⟨q,f,g,i.perm (List.perm_middle (l₁:=([.blk a (ob q.2.1 26),.blk c (ob [.pointer (some ⟨rb,0,none⟩)] 133),.blk rb (ob [tv,.int .i64 en,.int .i64 q.2.2] 135)]:List Res)))⟩
theorem q7z {tc:List Value} {T:Trc} (a:RTrc Φ tc T) (d:zL T=true) (G:Glob Φ) (N:Mem Φ K w) :
  Calls prog 25 #[.agg tc.toArray] w (fun ee w'=>ee=.returned (.int .i64 0)/\Mem Φ K w'):=by
 have h:=pZ a G N
 rw [show dem (zL T)=.ok () from by rw [d];rfl] at h
 exact h.mono fun ee w' ⟨_,b,_,c⟩=>⟨b,c⟩
theorem q3o {t:Bs} {l:List Tok} (hq:pC t=.ok l) (G:Glob Φ) (b:t.size<=800000) (N:Mem Φ K w) :
  Calls prog 108 #[.string t] w (fun ee w'=>∃y:Nat×Value,ee=.returned (.tuple #[.pointer (some ⟨y.1,0,none⟩),y.2,.agg #[.int .i64 ((0:Nat):Int),.int .i64 ((0:Nat):Int)]])/\True/\Mem Φ (.gs y.2 204 4 (wW l)::K) w'):=by
 have h:=y0h (t:=t) G b N
 rw [hq] at h
 exact h.mono fun ee w' ⟨y,a,c⟩=>⟨y,a,trivial,c⟩
theorem Long_ok {t:Bs} {l:List Tok} (hq:pC t=.ok l) (G:Glob Φ) (f:t.size<=400000) (N:Mem Φ K w) :
  Calls prog 63 #[.string t] w (fun ee w'=>∃y:Value,ee=.returned (.tuple #[y,.int .i64 ((0:Nat):Int),.int .i64 ((0:Nat):Int)])/\True/\Mem Φ (.gs y 204 4 (wW l)::K) w'):=by
 refine zJ func63 ntmps63 fun Q hQ a J=>?_
 refine Qq (fun a J=>?_) (o:=by exact fun J O=>y1n false J rfl rfl (decide_eq_false (fun d=>(show ¬400000 < t.size from by omega) (Int.ofNat_lt.1 d))))
 refine yF call108 (fun g w b N a J=>?_) (c:=q3o hq G (by omega) N)
 refine Alc fun e w N a J=>?_
 refine Sto 0 fun w N a J=>?_
 refine Reg [1,1,2,1,2,1,1,1] [0,1] fun w N a J=>?_
 refine go fun a J=>?_
 replace N:=N.dl [0]
 refine hQ _ _ _ (ret3 J results63 rfl rfl rfl ?_)
 exact ⟨_,rfl,trivial,N⟩
theorem j5r {t:Bs} {l:List Tok} {T:Trc} {k:Nat} (D:t.size<=400000) (hq:pC t=.ok l) (hI:∀x∈l,I64 x.num) (hp:mL l t.size k=some T) (hk:k<=19999) (hc:zL T=true) (G:Glob Φ) (N:Mem Φ K w) :
  Calls prog 31 #[.string t] w (fun ee w'=>∃q:Fz×List Value,ee=.returned (.tuple #[.agg q.2.toArray,.int .i64 ((0:Nat):Int),.int .i64 ((0:Nat):Int)])/\(Φ.Le q.1/\RTrc q.1 q.2 T)/\Mem q.1 K w'):=by
 refine zJ func31 ntmps31 fun Q hQ a J=>?_
 refine Alc fun b2 w N a J=>?_
 refine yF call63 (fun y4 w g0 N a J=>?_) (c:=Long_ok hq G D N)
 refine Qq (fun a J=>?_) (o:=by exact fun J O=>jG false J rfl rfl rfl)
 refine Alc fun b9 w N a J=>?_
 refine go fun a J=>?_
 have g:=N
 clear N
 obtain ⟨y,m,N,f,A⟩:=g.freezeRowC (i:=1) rfl
 clear g
 replace G:=G.mono m
 replace N:=N.nf
 have e:SliceOf RTok y 4 _ (l):=⟨_,f,z1b l⟩
 obtain ⟨m0,a0,E,C,R⟩:=e.form (by decide)
 have h:=N
 clear N
 subst E
 have N:=h
 clear h
 refine yE fun a J=>?_
 refine Bx fun X w N a J=>?_
 refine Alc fun Y w N a J=>?_
 refine Sto 0 fun w N a J=>?_
 replace N:=N.ar [] [1,1,2]
 refine yF call64 (fun F w b N a J=>?_) (c:=y1t hp hk e hI N)
 obtain ⟨z,b0,l0⟩:=F
 simp only at b N J
 replace G:=G.mono b.1
 have j:=b.2
 have d:=j
 obtain ⟨r,c34,s,n,u,c46,v,p,rfl,H,c0,d0,e0,f0,I,S,L,U,M,V,P,W⟩:=RTrc.fm j
 replace N:=N.nf
 refine Alc fun Z w N a J=>?_
 refine Sto 0 fun w N a J=>?_
 refine Qq (fun a J=>?_) (o:=by exact fun J O=>jG false J rfl rfl rfl)
 refine zF call25 (fun w N a J=>?_) (c:=q7z d hc G N)
 refine Qq (fun a J=>?_) (o:=by exact fun J O=>jG false J rfl rfl rfl)
 refine Sto 4 fun w N a J=>?_
 refine go fun a J=>?_
 have B:=N
 replace N:=N.dl [4,3,2,1,0]
 refine hQ _ _ _ (q7f (i:=4) (cs:=[.slice r T.cons.length c34,.slice s T.inputs.length n,.slice u T.funs.length c46,.slice v T.outputs.length p]) J B.toSees results31 rfl rfl isAgg26 sizeOf26 rfl rfl rfl ?_)
 exact ⟨(z,[.slice r T.cons.length c34,.slice s T.inputs.length n,.slice u T.funs.length c46,.slice v T.outputs.length p]),rfl,⟨(m).trans b.1,d⟩,N⟩
end
theorem q4y {Φ:Fz} {b:Nat} {v:Value} {l:List TE} (hb:At Φ ⟨b,0,none⟩ [v]) (O:SliceOf RTE Φ 8 v l):q8o prog vB Φ 217 [] [.pointer (some ⟨b,0,none⟩)] RBkV (vN l l.length):=by
 intro σ β y Ψ step bad G KV KP s0 z0 w hl D n N
 obtain ⟨L,I,K,H⟩:=D.fn
 subst H
 replace hb:=hb.mono hl
 replace O:=O.mono RTE.mono hl
 obtain ⟨p1,c2,rfl,a0,S⟩:=O.fm
 show Calls prog 217 #[.func L I K,.pointer (some ⟨b,0,none⟩)] w _
 refine zJ func217 ntmps217 fun Q hQ a J=>?_
 refine Qq (fun a J=>?_) (o:=by exact fun J O=>z5w ((((l.length:Nat):Int) - 1)) J rfl rfl (I64.wrap (by unfold I64;omega)))
 refine go fun a J=>?_
 refine pX (fun mm a w=>∃(u:Fz) (m:Nat) (si:σ) (zi:β),mm=m/\EnvR 19 [(0,.func L I K),(1,.pointer (some ⟨b,0,none⟩)),(3,.int .i64 ((((m:Nat):Int) - 1)))] [] a/\Mem u (KV si true zi) w/\(Ψ.Le u/\(m<=l.length/\aU step bad s0 (vN l l.length)=aU step bad si (vN l m)/\G u si true zi))) (l.length) ⟨Ψ,l.length,s0,z0,rfl,J.pk,N,⟨Fz.Le.refl _,⟨Nat.le_refl _,rfl,n⟩⟩⟩ ?_
 clear N J
 rintro mm a w ⟨u,m,si,zi,R,J,N,e⟩ L8 P
 obtain ⟨k,e⟩:=e
 replace O:=O.mono RTE.mono k
 replace hb:=hb.mono k
 replace n:=D.mono _ _ _ _ _ k n
 have i:=e.2.2
 refine go fun a J=>?_
 by_cases g0:0<=(((m:Nat):Int) - 1)
 refine go1 fun a J=>?_
 refine mQ ?_
 obtain ⟨p,rfl⟩:∃p,m=p+1:=⟨m - 1,by omega⟩
 rw [show (((p+1:Nat):Int) - 1)=((p:Nat):Int) from by omega] at J
 have A:p < l.length:=by have h_:=e.1;omega
 refine zH J (by intro c h;cases h) (yX J rfl) rfl fun a J=>
   zH J (by intro c h;cases h) (yX J rfl) rfl fun a J=>
   zH J (by intro c h;cases h) (pO J N.toSees rfl hb rfl isAgg46) rfl fun a J=>
   zH J (by intro c h;cases h) (yX J rfl) rfl fun a J=>?_
 obtain ⟨n0,rfl,q,s,T,W,j,f⟩:=O.el S A
 obtain ⟨k0,c26,l0,e0,m0,f0,rfl,U,V,h0,i0,j0,X,b0,Y,c0,Z,d0⟩:=RTE.fm f
 refine zH J (by intro c h;cases h) (xO p J rfl rfl runUnderlying46 sizeOf48 A) rfl fun a J=>
   zH J (by intro c h;cases h) (tL J N.toSees rfl j isAgg48 sizeOf48 rfl) rfl fun a J=>?_
 refine y6i J rfl rfl rfl (by intro c h;cases h) (z4x J rfl rfl (D.fire (K0:=[]) (k) (z3m s (by omega)) ⟨rfl,_,rfl,f⟩ i N) (fun w C a J=>?_) (fun w C=>?_))
 obtain ⟨g,t,M,d,r,N⟩:=C
 replace O:=O.mono RTE.mono d
 replace hb:=hb.mono d
 replace n:=D.mono _ _ _ _ _ d n
 replace i:=D.mono _ _ _ _ _ d i
 replace j:=j.mono d
 replace f:=RTE.mono _ _ _ _ d f
 replace N:=N.nf
 refine zH J (by intro c h;cases h) (z5v J rfl) rfl fun a J=>?_
 refine zY ?_
 refine go fun a J=>?_
 generalize z:(!(step si (p,q)).2)=E at J
 cases E
 refine Qq (fun a J=>?_) (o:=by exact fun J O=>z5w ((((p:Nat):Int) - 1)) J rfl rfl (I64.wrap (by unfold I64;omega)))
 refine go fun a J=>?_
 have B:(step si (p,q)).2=true:=by have h_:=z;revert h_;cases ((step si (p,q)).2) <;> simp
 rw [B] at r N
 refine P _ _ _ (by subst R;omega) ⟨(t),(p),((step si (p,q)).1),(M),rfl,J.pk,N,?_⟩
 refine ⟨(k).trans d,?_⟩
 exact ⟨by have h_:=e.1;omega,e.2.1.trans (by rw [kN s];exact z2s g B),r⟩
 refine go fun a J=>?_
 refine hQ _ _ _ (ret0 J results217 ?_)
 have F:(step si (p,q)).2=false:=by have h_:=z;revert h_;cases ((step si (p,q)).2) <;> simp
 rw [F] at r N
 exact .inr ⟨((step si (p,q)).1,false),_,t,M,e.2.1.trans (by rw [kN s];exact z6v g F),rfl,(k).trans d,r,N⟩
 obtain ⟨g,t,d,N⟩:=C
 refine hQ _ _ _ (zS J.defs ?_)
 replace hb:=hb.mono d
 replace n:=D.mono _ _ _ _ _ d n
 replace i:=D.mono _ _ _ _ _ d i
 replace j:=j.mono d
 replace f:=RTE.mono _ _ _ _ d f
 replace N:=N.nf
 exact .inl ⟨e.2.1.trans (by rw [kN s];exact z2r g),rfl,t,(k).trans d,N⟩
 refine go fun a J=>?_
 refine hQ _ _ _ (yP J results217 ?_)
 obtain rfl:m=0:=by omega
 exact .inr ⟨(si,true),_,u,zi,e.2.1,rfl,k,e.2.2,N⟩
theorem j6m {Φ:Fz} {K:List Res} {w:World} {v:Value} {l:List TE} (O:SliceOf RTE Φ 8 v l) (N:Mem Φ K w) :
  Calls prog 193 #[v] w (fun ee w'=>∃q:Fz×Nat,ee=.returned (.func (.func 217) #[] #[.pointer (some ⟨q.2,0,none⟩)])/\(Φ.Le q.1/\At q.1 ⟨q.2,0,none⟩ [v])/\Mem q.1 K w'):=by
 obtain ⟨p1,c2,rfl,f,h⟩:=O.fm
 refine zJ func193 ntmps193 fun Q hQ a J=>?_
 refine Bx fun g w N a J=>?_
 refine go fun a J=>?_
 have b:=N
 clear N
 obtain ⟨e,d,N,c⟩:=b.freezeBlk (i:=0) rfl
 clear b
 replace N:=N.nf
 refine yK ?_
 exact ⟨(e,g),rfl,⟨d,c⟩,N⟩
theorem y5c {Φ:Fz} {K:List Res} {w:World} {pa:Addr} {i0:Nat} (N:Mem Φ K w) :
  Calls prog 37 #[.pointer (some pa),.int .i64 i0] w (fun ee w'=>∃q:Fz×Nat×Nat,ee=.returned (.func (.func 75) #[] #[.pointer (some ⟨q.2.1,0,none⟩),.pointer (some ⟨q.2.2,0,none⟩)])/\(Φ.Le q.1/\At q.1 ⟨q.2.1,0,none⟩ [.pointer (some pa)]/\At q.1 ⟨q.2.2,0,none⟩ [.int .i64 i0])/\Mem q.1 K w'):=by
 refine zJ func37 ntmps37 fun Q hQ a J=>?_
 refine Bx fun h w N a J=>?_
 refine Bx fun j w N a J=>?_
 refine go fun a J=>?_
 have b:=N
 clear N
 obtain ⟨k,f,N,c⟩:=b.freezeBlk (i:=1) rfl
 clear b
 replace N:=N.nf
 have b:=N
 clear N
 obtain ⟨g,e,N,d⟩:=b.freezeBlk (i:=0) rfl
 clear b
 replace c:=c.mono e
 replace N:=N.nf
 refine yK ?_
 exact ⟨(g,h,j),rfl,⟨(f).trans e,c,d⟩,N⟩
theorem q3w {Φ:Fz} {K:List Res} {w:World} {pa:Addr} (N:Mem Φ K w) :
  Calls prog 27 #[.pointer (some pa)] w (fun ee w'=>∃q:Fz×Nat,ee=.returned (.func (.func 48) #[] #[.pointer (some ⟨q.2,0,none⟩)])/\(Φ.Le q.1/\At q.1 ⟨q.2,0,none⟩ [.pointer (some pa)])/\Mem q.1 K w'):=by
 refine zJ func27 ntmps27 fun Q hQ a J=>?_
 refine Bx fun f w N a J=>?_
 refine go fun a J=>?_
 have b:=N
 clear N
 obtain ⟨e,d,N,c⟩:=b.freezeBlk (i:=0) rfl
 clear b
 replace N:=N.nf
 refine yK ?_
 exact ⟨(e,f),rfl,⟨d,c⟩,N⟩
end Go.Sw
