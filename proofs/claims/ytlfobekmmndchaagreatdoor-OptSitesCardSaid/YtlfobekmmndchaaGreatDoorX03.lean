import Derived.Shelf.Strings.Builder1
import Derived.Shelf.LaysM
import Derived.Shelf.LaysC
import Derived.Shelf.Strconv.Itoa3
import Derived.Shelf.Strconv.AtoiAll
import Derived.Shelf.Strings.Search1
import Derived.Shelf.Strings.Replace
import Derived.Shelf.Strings.IndexAny
import Derived.Shelf.Strings.IndexAnyAll
import Derived.Lib.ItoaLen
import Derived.Lib.SplitLaws
import Derived.RangeFuncRecord
import Derived.RangeFuncSeq
import Derived.RangeFuncLeaves
import Derived.Recover
import Derived.Test.YtlfobekmmndchaaGreatDoorX02
set_option linter.unusedVariables false
set_option linter.unusedSimpArgs false
namespace Go.Sw
open Go.Proofs Go.Proofs.Tryz
set_option maxRecDepth 20000
set_option maxHeartbeats 4000000
theorem q5r {Φ:Fz} {K:List Res} {w:World} {t:Bs} {pos b:Nat} {rest:List Value} {T0:TypeId} (s:pos<=t.size) (A:t.size<=1000000) (N:Mem Φ (.blk b (ob (.string t::.int .i64 pos::rest) T0)::K) w) :
  Calls prog 202 #[.pointer (some ⟨b,0,none⟩)] w (fun ee w'=>Out (vF t pos pos 0)
   (fun q=>ee=.returned (.tuple #[])/\Mem Φ (.blk b (ob (.string t::.int .i64 ((q:Nat):Int)::rest) T0)::K) w')
   (fun c=>ee=.panicked (dW c)/\Mem Φ K w')):=by
 refine zJ func202 ntmps202 fun Q hQ a J=>?_
 refine go fun a J=>?_
 refine qD (J.ks [0,2]) N (fun R mm a w=>∃(i:Nat) (o:Int),mm=t.size - i/\R Φ [(3,.int .i64 (o))] [(0,.blk b (ob (.string t::.int .i64 i::rest) T0))] a w/\(i<=t.size/\-(i:Int)<=o/\o<=100/\vF t pos pos 0=vF t pos i o)) (t.size - pos) ⟨pos,0,rfl,⟨J.pk,N⟩,by exact ⟨s,by omega,by omega,rfl⟩⟩ ?_
 clear N J
 rintro mm a w ⟨i,o,k,⟨J,N⟩,p⟩ z g
 replace N:=N.nf
 obtain ⟨u,v,y,e⟩:=p
 refine Reg [1,1,1,1,2,1,1,1,1,2,1,1,1] [0] fun w N a J=>?_
 by_cases l:t.size<=i
 refine yE fun a J=>?_
 refine Qq (fun a J=>?_) (o:=by exact fun J O=>yM J rfl runUnderlying180 (by intro ms h;cases h))
 refine st0 J rfl rfl (jZ J rfl (xC _) (fun a r=>hQ _ _ _ (zS r ?_)))
 replace N:=N.dl [0]
 show Out (vF t pos pos 0) _ _
 rw [e,pQ,if_pos l];exact ⟨rfl,N⟩
 refine nL call201 (fun f w N a J=>?_) (fun f w N a J=>?_) (c:=nE (by omega) N)
 by_cases m:100<=o
 refine yE fun a J=>?_
 refine Qq (fun a J=>?_) (o:=by exact fun J O=>yM J rfl runUnderlying180 (by intro ms h;cases h))
 refine st0 J rfl rfl (jZ J rfl (xC _) (fun a r=>hQ _ _ _ (zS r ?_)))
 replace N:=N.dl [0]
 show Out (vF t pos pos 0) _ _
 rw [e,pQ,if_neg l,if_pos f,if_pos m];exact ⟨rfl,N⟩
 refine Qq (fun a J=>?_) (o:=by exact fun J O=>tJ (o+1) J rfl rfl (by rw [cU (by omega)]))
 refine Qq (fun a J=>?_) (o:=by exact fun J O=>vH (i:=i) (j:=2) J rfl rfl (by omega))
 refine Sto 0 fun w N a J=>?_
 refine go fun a J=>?_
 refine g (t.size - ((i+2))) _ _ (by subst k;first | omega | (have h:=jS f;have:(⟨#[40,42]⟩:Bs).size=2:=rfl;have:(⟨#[42,41]⟩:Bs).size=2:=rfl;omega)) ⟨((i+2)),(o+1),rfl,⟨J.pk,N⟩,?_⟩
 refine ⟨by first | omega | (have h:=jS f;have:(⟨#[40,42]⟩:Bs).size=2:=rfl;have:(⟨#[42,41]⟩:Bs).size=2:=rfl;omega),by omega,by omega,?_⟩
 rw [e,pQ,if_neg l]
 simp [*]
 refine nL call201 (fun d w N a J=>?_) (fun d w N a J=>?_) (c:=nE (by omega) N)
 refine Qq (fun a J=>?_) (o:=by exact fun J O=>z5w (o - 1) J rfl rfl (by rw [cU (by omega)]))
 refine Qq (fun a J=>?_) (o:=by exact fun J O=>vH (i:=i) (j:=2) J rfl rfl (by omega))
 refine Sto 0 fun w N a J=>?_
 by_cases n:o - 1=0
 refine go fun a J=>?_
 refine hQ _ _ _ (ret0 J results202 ?_)
 show Out (vF t pos pos 0) _ _
 rw [e,pQ,if_neg l,if_neg (by simp [*]),if_pos d,if_pos n];exact ⟨rfl,N⟩
 refine go fun a J=>?_
 refine g (t.size - ((i+2))) _ _ (by subst k;first | omega | (have h:=jS d;have:(⟨#[40,42]⟩:Bs).size=2:=rfl;have:(⟨#[42,41]⟩:Bs).size=2:=rfl;omega)) ⟨((i+2)),(o - 1),rfl,⟨J.pk,N⟩,?_⟩
 refine ⟨by first | omega | (have h:=jS d;have:(⟨#[40,42]⟩:Bs).size=2:=rfl;have:(⟨#[42,41]⟩:Bs).size=2:=rfl;omega),by omega,by omega,?_⟩
 rw [e,pQ,if_neg l]
 simp [*]
 refine Sto 0 fun w N a J=>?_
 refine go fun a J=>?_
 refine g (t.size - ((i+1))) _ _ (by subst k;first | omega | (have h:=jS d;have:(⟨#[40,42]⟩:Bs).size=2:=rfl;have:(⟨#[42,41]⟩:Bs).size=2:=rfl;omega)) ⟨((i+1)),(o),rfl,⟨J.pk,N⟩,?_⟩
 refine ⟨by first | omega | (have h:=jS d;have:(⟨#[40,42]⟩:Bs).size=2:=rfl;have:(⟨#[42,41]⟩:Bs).size=2:=rfl;omega),by omega,by omega,?_⟩
 rw [e,pQ,if_neg l]
 simp [*]
theorem j0o {Φ:Fz} {K:List Res} {w:World} {t:Bs} {pos b:Nat} {mv cv:Value} {cs:List Value} (s:pos<=t.size) (D:t.size<=1000000) (v:cs.length<=2 * pos) (N:Mem Φ (.blk b (ob [.string t,.int .i64 pos,mv,cv] 235)::.gs cv 260 2 cs::K) w) :
  Calls prog 180 #[.pointer (some ⟨b,0,none⟩)] w (fun ee w'=>Out (cM t pos)
   (fun q=>∃y:Value×List Value,ee=.returned (.tuple #[])/\y.2.length<=2 * q/\Mem Φ (.blk b (ob [.string t,.int .i64 ((q:Nat):Int),mv,y.1] 235)::.gs y.1 260 2 y.2::K) w')
   (fun c=>ee=.panicked (dW c)/\Mem Φ K w')):=by
 refine zJ func180 ntmps180 fun Q hQ a J=>?_
 refine go fun a J=>?_
 refine qD (J.ks [0]) N (fun R mm a w=>∃(i:Nat) (u:Value) (ds:List Value),mm=t.size - i/\R Φ [] [(0,.blk b (ob [.string t,.int .i64 i,mv,u] 235)),(1,.gs (u) 260 2 ds)] a w/\(i<=t.size/\ds.length<=2 * i/\cM t pos=cM t i)) (t.size - pos) ⟨pos,cv,cs,rfl,⟨J.pk,N⟩,by exact ⟨s,v,rfl⟩⟩ ?_
 clear N J
 rintro mm a w ⟨i,u,ds,n,⟨J,N⟩,l⟩ C m
 replace N:=N.nf
 obtain ⟨e,z,g⟩:=l
 have A:=kU jN t t.size i e
 refine Reg [1,1,1,1,2,1,1,1,0,1,1,1,1,0] [0,1] fun w N a J=>?_
 refine zF call199 (fun w N a J=>?_) (c:=y8x (p:=jN) (pos:=i) (fs:=[]) (cs:=[]) call200 (fun c N=>q6o N) (by omega) (by omega) N)
 refine Qq (fun a J=>?_) (o:=by exact fun J O=>vH (i:=i) (j:=(qB jN t t.size i)) J rfl rfl (by omega))
 refine Sto 0 fun w N a J=>?_
 refine nL call201 (fun f w N a J=>?_) (fun f w N a J=>?_) (c:=nE (by omega) N)
 refine yG call202 (fun k w d N a J=>?_) (fun k w d N=>?_) (c:=q5r (pos:=((i+(qB jN t t.size i)))) (by omega) (by omega) N)
 refine Reg [1,1,1,1,2,1,1,1,1,1,2,1,0,0,1,1,0] [0] fun w N a J=>?_
 refine yE fun a J=>?_
 refine qG fun B w N a J=>?_
 refine vL 2 rt_233 (fun r w N a J=>?_)
 refine Sto 1 fun w N a J=>?_
 refine go fun a J=>?_
 replace N:=N.dl [0]
 refine m (t.size - k) _ _ (by subst n;have h:=wL _ _ _ _ _ _ d;omega) ⟨(k),(r),((ds++[.int .i64 ((((i+(qB jN t t.size i))):Nat):Int),.int .i64 k])),rfl,⟨J.pk,by exact N⟩,?_⟩
 have h:=wL _ _ _ _ _ _ d
 refine ⟨h.2,by simp only [laQ,lcQ,lnQ];omega,?_⟩
 rw [g,z2l t i e,if_pos f,d]
 replace N:=N.dl [0]
 show Out (cM t pos) _ _
 rw [g,z2l t i e,if_pos f,d];exact ⟨rfl,N⟩
 refine go fun a J=>?_
 refine hQ _ _ _ (ret0 J results180 ?_)
 show Out (cM t pos) _ _
 rw [g,z2l t i e,if_neg (by simp [*])];exact ⟨⟨u,ds⟩,rfl,by simp only;omega,N⟩
theorem aS {Φ:Fz} {K:List Res} {w:World} {t:Bs} {pos b:Nat} {rest:List Value} {T0:TypeId} {kd:Int} {n:Nat} (k:pos+n<=t.size) (l:t.size<=1000000) (N:Mem Φ (.blk b (ob (.string t::.int .i64 pos::rest) T0)::K) w) :
  Calls prog 209 #[.pointer (some ⟨b,0,none⟩),.int .i64 kd,.int .i64 n] w (fun ee w'=>Out (vO t pos kd n) (fun q=>ee=.returned (y0x q)/\Mem Φ (.blk b (ob (.string t::.int .i64 pos::rest) T0)::K) w') (fun c=>ee=.panicked (dW c)/\Mem Φ K w')):=by
 refine zJ func209 ntmps209 fun Q hQ a J=>?_
 refine Alc fun g w N a J=>?_
 by_cases e:24 < n
 refine yE fun a J=>?_
 refine Qq (fun a J=>?_) (o:=by exact fun J O=>yM J rfl runUnderlying180 (by intro ms h;cases h))
 refine st0 J rfl rfl (jZ J rfl (xC _) (fun a f=>hQ _ _ _ (zS f ?_)))
 replace N:=N.dl [1,0]
 show Out (vO t pos kd n) _ _
 rw [vO,if_pos e];exact ⟨rfl,N⟩
 refine Reg [1,1,1,1,1,2,1,1,1,1,2,1,1,1,1,2,1,1,1,1,1,1,1,2,1,0] [0,1] fun w N a J=>?_
 refine Qq (fun a J=>?_) (o:=by exact fun J O=>vH (i:=pos) (j:=n) J rfl rfl (by omega))
 refine Qq (fun a J=>?_) (o:=by exact fun J O=>aD pos ((pos+n)) J rfl runUnderlying9 ⟨_,rfl⟩ ⟨_,rfl⟩ (by omega) (by omega))
 refine yE fun a J=>?_
 refine Sto 0 fun w N a J=>?_
 refine go fun a J=>?_
 have d:=N
 replace N:=N.dl [0]
 refine kE (N:=d) ?_
 show Out (vO t pos kd n) _ _
 rw [vO,if_neg e];exact ⟨rfl,N⟩
theorem j0k {Φ:Fz} {K:List Res} {w:World} {t:Bs} {pos b mb:Nat} {cv:Value} {kd:Int} (h:MapAt Φ mb wordsM) (I:pos<=t.size) (R:t.size<=1000000) (N:Mem Φ (.blk b (ob [.string t,.int .i64 pos,.map (some mb),cv] 235)::K) w) :
  Calls prog 207 #[.pointer (some ⟨b,0,none⟩),.int .i64 kd] w (fun ee w'=>Out (kK t pos kd) (fun q=>ee=.returned (y0x q)/\Mem Φ (.blk b (ob [.string t,.int .i64 pos,.map (some mb),cv] 235)::K) w') (fun c=>ee=.panicked (dW c)/\Mem Φ K w')):=by
 refine zJ func207 ntmps207 fun Q hQ a J=>?_
 refine Alc fun P w N a J=>?_
 refine go fun a J=>?_
 have L:=kU qQ t t.size pos I
 replace N:=N.pl 1
 refine zF call199 (fun w N a J=>?_) (c:=y8x (p:=qQ) (pos:=pos) (fs:=[]) (cs:=[]) call210 (fun c N=>z3w N) (by omega) (by omega) N)
 refine zF call203 (fun w N a J=>?_) (c:=z2n (by omega) N)
 by_cases S:yW t (pos+((qB qQ t t.size pos)))=39
 have B:=tO (t:=t) (i:=pos+qB qQ t t.size pos) (by omega)
 have M:=kU yU t t.size (pos+(qB qQ t t.size pos+1)) (by omega)
 refine zF call199 (fun w N a J=>?_) (c:=y8y (p:=yU) (pos:=pos) (k:=((qB qQ t t.size pos)+1)) (fs:=[]) (cs:=[]) call204 (fun c N=>cK N) (by omega) (by omega) N)
 by_cases T:0 < (qB yU t t.size (pos+((qB qQ t t.size pos)+1)))
 refine Qq (fun a J=>?_) (o:=by exact fun J O=>vH (i:=1) (j:=(qB yU t t.size (pos+((qB qQ t t.size pos)+1)))) J rfl rfl (by omega))
 refine Qq (fun a J=>?_) (o:=by exact fun J O=>vH (i:=(qB qQ t t.size pos)) (j:=(1+(qB yU t t.size (pos+((qB qQ t t.size pos)+1))))) J rfl rfl (by omega))
 refine yG call209 (fun y w l N a J=>?_) (fun y w l N=>?_) (c:=aS (pos:=pos) (kd:=kd) (n:=((qB qQ t t.size pos)+(1+(qB yU t t.size (pos+((qB qQ t t.size pos)+1)))))) (by omega) (by omega) N)
 refine Alc fun F w N a J=>?_
 refine Sto 0 fun w N a J=>?_
 refine Reg [1,1,1,2,1,2,2,1,1,1,1,1] [0,1,2] fun w N a J=>?_
 refine go fun a J=>?_
 rcases d:jJ (wordsM) y.text with _ | C
 have s:=congrArg (zZ true (.int .i64 ((0:Nat):Int))) d
 refine Qq (fun a J=>?_) (o:=by exact fun J O=>Ok.cast (yT runUnderlying98 runUnderlying9 zeroValue3 J O rfl rfl h) (show zZ true (.int .i64 ((0:Nat):Int)) (jJ (wordsM) y.text)=.tuple #[.int .i64 ((0:Nat):Int),.bool false] from s))
 refine Sto 2 fun w N a J=>?_
 refine go fun a J=>?_
 have g:=N
 replace N:=N.dl [2,0]
 refine kE (N:=g) ?_
 show Out (kK t pos kd) _ _
 first | rw [gL l d (by simp [jE, *])] | rw [gM l d (by simp [jE, *])]
 exact ⟨rfl,N⟩
 obtain rfl:=z1d d
 have s:=congrArg (zZ true (.int .i64 ((0:Nat):Int))) d
 refine Qq (fun a J=>?_) (o:=by exact fun J O=>Ok.cast (yT runUnderlying98 runUnderlying9 zeroValue3 J O rfl rfl h) (show zZ true (.int .i64 ((0:Nat):Int)) (jJ (wordsM) y.text)=.tuple #[.int .i64 ((5:Nat):Int),.bool true] from s))
 refine Sto 0 fun w N a J=>?_
 refine Sto 2 fun w N a J=>?_
 refine go fun a J=>?_
 have g:=N
 replace N:=N.dl [2,0]
 refine kE (N:=g) ?_
 show Out (kK t pos kd) _ _
 first | rw [gL l d (by simp [jE, *])] | rw [gM l d (by simp [jE, *])]
 exact ⟨rfl,N⟩
 replace N:=N.dl [0]
 show Out (kK t pos kd) _ _
 rw [z9i l (by simp [jE, *])];exact ⟨rfl,N⟩
 refine yG call209 (fun z w m N a J=>?_) (fun z w m N=>?_) (c:=aS (pos:=pos) (kd:=kd) (n:=(qB qQ t t.size pos)) (by omega) (by omega) N)
 refine Alc fun G w N a J=>?_
 refine Sto 0 fun w N a J=>?_
 refine Reg [1,1,1,2,1,2,2,1,1,1,1,1] [0,1,2] fun w N a J=>?_
 refine go fun a J=>?_
 rcases e:jJ (wordsM) z.text with _ | D
 have u:=congrArg (zZ true (.int .i64 ((0:Nat):Int))) e
 refine Qq (fun a J=>?_) (o:=by exact fun J O=>Ok.cast (yT runUnderlying98 runUnderlying9 zeroValue3 J O rfl rfl h) (show zZ true (.int .i64 ((0:Nat):Int)) (jJ (wordsM) z.text)=.tuple #[.int .i64 ((0:Nat):Int),.bool false] from u))
 refine Sto 2 fun w N a J=>?_
 refine go fun a J=>?_
 have g:=N
 replace N:=N.dl [2,0]
 refine kE (N:=g) ?_
 show Out (kK t pos kd) _ _
 first | rw [gL m e (by simp [jE, *])] | rw [gM m e (by simp [jE, *])]
 exact ⟨rfl,N⟩
 obtain rfl:=z1d e
 have u:=congrArg (zZ true (.int .i64 ((0:Nat):Int))) e
 refine Qq (fun a J=>?_) (o:=by exact fun J O=>Ok.cast (yT runUnderlying98 runUnderlying9 zeroValue3 J O rfl rfl h) (show zZ true (.int .i64 ((0:Nat):Int)) (jJ (wordsM) z.text)=.tuple #[.int .i64 ((5:Nat):Int),.bool true] from u))
 refine Sto 0 fun w N a J=>?_
 refine Sto 2 fun w N a J=>?_
 refine go fun a J=>?_
 have g:=N
 replace N:=N.dl [2,0]
 refine kE (N:=g) ?_
 show Out (kK t pos kd) _ _
 first | rw [gL m e (by simp [jE, *])] | rw [gM m e (by simp [jE, *])]
 exact ⟨rfl,N⟩
 replace N:=N.dl [0]
 show Out (kK t pos kd) _ _
 rw [z9i m (by simp [jE, *])];exact ⟨rfl,N⟩
 refine yG call209 (fun A w r N a J=>?_) (fun A w r N=>?_) (c:=aS (pos:=pos) (kd:=kd) (n:=(qB qQ t t.size pos)) (by omega) (by omega) N)
 refine Alc fun H w N a J=>?_
 refine Sto 0 fun w N a J=>?_
 refine Reg [1,1,1,2,1,2,2,1,1,1,1,1] [0,1,2] fun w N a J=>?_
 refine go fun a J=>?_
 rcases f:jJ (wordsM) A.text with _ | E
 have v:=congrArg (zZ true (.int .i64 ((0:Nat):Int))) f
 refine Qq (fun a J=>?_) (o:=by exact fun J O=>Ok.cast (yT runUnderlying98 runUnderlying9 zeroValue3 J O rfl rfl h) (show zZ true (.int .i64 ((0:Nat):Int)) (jJ (wordsM) A.text)=.tuple #[.int .i64 ((0:Nat):Int),.bool false] from v))
 refine Sto 2 fun w N a J=>?_
 refine go fun a J=>?_
 have g:=N
 replace N:=N.dl [2,0]
 refine kE (N:=g) ?_
 show Out (kK t pos kd) _ _
 first | rw [gL r f (by simp [jE, *])] | rw [gM r f (by simp [jE, *])]
 exact ⟨rfl,N⟩
 obtain rfl:=z1d f
 have v:=congrArg (zZ true (.int .i64 ((0:Nat):Int))) f
 refine Qq (fun a J=>?_) (o:=by exact fun J O=>Ok.cast (yT runUnderlying98 runUnderlying9 zeroValue3 J O rfl rfl h) (show zZ true (.int .i64 ((0:Nat):Int)) (jJ (wordsM) A.text)=.tuple #[.int .i64 ((5:Nat):Int),.bool true] from v))
 refine Sto 0 fun w N a J=>?_
 refine Sto 2 fun w N a J=>?_
 refine go fun a J=>?_
 have g:=N
 replace N:=N.dl [2,0]
 refine kE (N:=g) ?_
 show Out (kK t pos kd) _ _
 first | rw [gL r f (by simp [jE, *])] | rw [gM r f (by simp [jE, *])]
 exact ⟨rfl,N⟩
 replace N:=N.dl [0]
 show Out (kK t pos kd) _ _
 rw [z9i r (by simp [jE, *])];exact ⟨rfl,N⟩
end Go.Sw
namespace Go.Proofs
open Go.Shelf
def Tryz.lays137_ren:Go.Shelf.Ren:=⟨fun | 137=>211 | 217=>221 | 266=>227 | n=>n,fun | 9=>9 | 5=>5 | 3=>3 | n=>n,fun | n=>n⟩
theorem Tryz.lays137:Go.Proofs.Lays.n137 Tryz.prog Tryz.lays137_ren:={
 mixed:=by kernel_rfl
 f137:=Tryz.func211.trans (congrArg some (by kernel_rfl))
 f217:=Tryz.func221.trans (congrArg some (by kernel_rfl))
 f266:=Tryz.func227.trans (congrArg some (by kernel_rfl))
 t3:=Tryz.underlying3
 a3:=Tryz.isAgg3
 z3:=Tryz.sizeOf3
 v3:=Tryz.zeroValue3
 t5:=Tryz.underlying5
 a5:=Tryz.isAgg5
 z5:=Tryz.sizeOf5
 v5:=Tryz.zeroValue5
 t9:=Tryz.underlying9
 a9:=Tryz.isAgg9
 z9:=Tryz.sizeOf9
 v9:=Tryz.zeroValue9 }
open Go.RowKit in
theorem Tryz.strings_IndexByte (s:ByteArray) (c:Int) (w:World) :
  Calls Tryz.prog 211 #[.string s,.int .u8 c] w fun e w'=>e=.returned (.int .i64 (Lib.indexByte s.data.toList c.toNat.toUInt8))/\w'=w:=Any.strings_IndexByte Tryz.lays137 s c w
def Tryz.laysM171_ren:Go.Shelf.Ren:=⟨fun | 171=>192 | 243=>216 | 246=>222 | 283=>228 | 284=>229 | 285=>230 | 286=>231 | 129=>241 | 317=>240 | 318=>242 | 319=>243 | 320=>244 | 337=>256 | 338=>257 | n=>n,fun | 3=>3 | 9=>9 | 2=>2 | 4=>4 | 171=>278 | 0=>0 | 53=>230 | 37=>257 | 5=>5 | 173=>281 | 212=>292 | 51=>293 | 20=>20 | 213=>294 | 46=>295 | 232=>318 | 233=>319 | n=>n,fun | 17=>1 | 18=>6 | 19=>7 | n=>n⟩
theorem Tryz.laysM171:Go.Proofs.LaysM.n171 Tryz.prog Tryz.laysM171_ren:={
 mixed:=by kernel_rfl
 f129:=Tryz.func241.trans (congrArg some (by kernel_rfl))
 f171:=Tryz.func192.trans (congrArg some (by kernel_rfl))
 f243:=Tryz.func216.trans (congrArg some (by kernel_rfl))
 f246:=Tryz.func222.trans (congrArg some (by kernel_rfl))
 f283:=Tryz.func228.trans (congrArg some (by kernel_rfl))
 f284:=Tryz.func229.trans (congrArg some (by kernel_rfl))
 f285:=Tryz.func230.trans (congrArg some (by kernel_rfl))
 f286:=Tryz.func231.trans (congrArg some (by kernel_rfl))
 f317:=Tryz.func240.trans (congrArg some (by kernel_rfl))
 f318:=Tryz.func242.trans (congrArg some (by kernel_rfl))
 f319:=Tryz.func243.trans (congrArg some (by kernel_rfl))
 f320:=Tryz.func244.trans (congrArg some (by kernel_rfl))
 f337:=Tryz.func256.trans (congrArg some (by kernel_rfl))
 f338:=Tryz.func257.trans (congrArg some (by kernel_rfl))
 t0:=Tryz.underlying0
 a0:=Tryz.isAgg0
 z0:=Tryz.sizeOf0
 v0:=Tryz.zeroValue0
 t2:=Tryz.underlying2
 a2:=Tryz.isAgg2
 z2:=Tryz.sizeOf2
 v2:=Tryz.zeroValue2
 t3:=Tryz.underlying3
 a3:=Tryz.isAgg3
 z3:=Tryz.sizeOf3
 v3:=Tryz.zeroValue3
 t4:=Tryz.underlying4
 a4:=Tryz.isAgg4
 z4:=Tryz.sizeOf4
 v4:=Tryz.zeroValue4
 t5:=Tryz.underlying5
 a5:=Tryz.isAgg5
 z5:=Tryz.sizeOf5
 v5:=Tryz.zeroValue5
 t9:=Tryz.underlying9
 a9:=Tryz.isAgg9
 z9:=Tryz.sizeOf9
 v9:=Tryz.zeroValue9
 t20:=Tryz.underlying20
 a20:=Tryz.isAgg20
 z20:=Tryz.sizeOf20
 v20:=Tryz.zeroValue20
 t37:=Tryz.underlying257
 a37:=Tryz.isAgg257
 z37:=Tryz.sizeOf257
 v37:=Tryz.zeroValue257
 t46:=Tryz.underlying295
 a46:=Tryz.isAgg295
 z46:=Tryz.sizeOf295
 v46:=Tryz.zeroValue295
 t51:=Tryz.underlying293
 a51:=Tryz.isAgg293
 z51:=Tryz.sizeOf293
 v51:=Tryz.zeroValue293
 t53:=Tryz.underlying230
 a53:=Tryz.isAgg230
 z53:=Tryz.sizeOf230
 v53:=Tryz.zeroValue230
 t171:=Tryz.underlying278
 a171:=Tryz.isAgg278
 z171:=Tryz.sizeOf278
 v171:=Tryz.zeroValue278
 t173:=Tryz.underlying281
 a173:=Tryz.isAgg281
 z173:=Tryz.sizeOf281
 v173:=Tryz.zeroValue281
 t212:=Tryz.underlying292
 a212:=Tryz.isAgg292
 z212:=Tryz.sizeOf292
 v212:=Tryz.zeroValue292
 t213:=Tryz.underlying294
 a213:=Tryz.isAgg294
 z213:=Tryz.sizeOf294
 t232:=Tryz.underlying318
 a232:=Tryz.isAgg318
 z232:=Tryz.sizeOf318
 v232:=Tryz.zeroValue318
 t233:=Tryz.underlying319
 a233:=Tryz.isAgg319
 z233:=Tryz.sizeOf319
 v233:=Tryz.zeroValue319
 g17:=by kernel_rfl
 g18:=by kernel_rfl
 g19:=by kernel_rfl
 i0:=by kernel_rfl
 i2:=by kernel_rfl
 i3:=by kernel_rfl
 i4:=by kernel_rfl
 i5:=by kernel_rfl
 i9:=by kernel_rfl
 i20:=by kernel_rfl
 i37:=by kernel_rfl
 i46:=by kernel_rfl
 i51:=by kernel_rfl
 i53:=by kernel_rfl
 i171:=by kernel_rfl
 i173:=by kernel_rfl
 i212:=by kernel_rfl
 i232:=by kernel_rfl
 i233:=by kernel_rfl
 m17:=by kernel_rfl
 m18:=by kernel_rfl
 m19:=by kernel_rfl }
open Go.RowKit Go.Sort Go.Lib in
theorem Tryz.strconv_Itoa (n:Int) (b:-9223372036854775808<=n) (c:n<=9223372036854775807) (w:World) (a:Lib.TabIs Tryz.prog w "internal/strconv.uint64pow10" .u64 Lib.pow10Tab) :
  Calls Tryz.prog 192 #[.int .i64 n] w fun e w'=>e=.returned (.string ⟨(Lib.itoa n).toArray⟩)/\∃k os,w'=grow (w.drewN k) os:=Any.strconv_Itoa Tryz.laysM171 n b c w a
def Tryz.laysC172_ren:Go.Shelf.Ren:=⟨fun | 172=>224 | 244=>232 | 245=>233 | 247=>245 | 279=>246 | 280=>247 | 281=>248 | 282=>249 | 287=>258 | 316=>259 | 171=>192 | 205=>260 | 321=>266 | 322=>267 | 243=>216 | 246=>222 | 283=>228 | 284=>229 | 285=>230 | 286=>231 | 129=>241 | 317=>240 | 318=>242 | 319=>243 | 320=>244 | 337=>256 | 338=>257 | n=>n,fun | 9=>9 | 3=>3 | 75=>274 | 76=>275 | 4=>4 | 5=>5 | 167=>297 | 37=>257 | 0=>0 | 85=>298 | 2=>2 | 168=>300 | 53=>230 | 175=>305 | 46=>295 | 210=>309 | 127=>303 | 145=>323 | 143=>321 | 21=>21 | 171=>278 | 173=>281 | 212=>292 | 51=>293 | 20=>20 | 213=>294 | 232=>318 | 233=>319 | 80=>73 | n=>n,fun | 15=>2 | 16=>3 | 17=>1 | 18=>6 | 19=>7 | n=>n⟩
theorem Tryz.laysC172:Go.Proofs.LaysC.n172 Tryz.prog Tryz.laysC172_ren:={
 mixed:=by kernel_rfl
 f129:=Tryz.func241.trans (congrArg some (by kernel_rfl))
 f171:=Tryz.func192.trans (congrArg some (by kernel_rfl))
 f172:=Tryz.func224.trans (congrArg some (by kernel_rfl))
 f205:=Tryz.func260.trans (congrArg some (by kernel_rfl))
 f243:=Tryz.func216.trans (congrArg some (by kernel_rfl))
 f244:=Tryz.func232.trans (congrArg some (by kernel_rfl))
 f245:=Tryz.func233.trans (congrArg some (by kernel_rfl))
 f246:=Tryz.func222.trans (congrArg some (by kernel_rfl))
 f247:=Tryz.func245.trans (congrArg some (by kernel_rfl))
 f279:=Tryz.func246.trans (congrArg some (by kernel_rfl))
 f280:=Tryz.func247.trans (congrArg some (by kernel_rfl))
 f281:=Tryz.func248.trans (congrArg some (by kernel_rfl))
 f282:=Tryz.func249.trans (congrArg some (by kernel_rfl))
 f283:=Tryz.func228.trans (congrArg some (by kernel_rfl))
 f284:=Tryz.func229.trans (congrArg some (by kernel_rfl))
 f285:=Tryz.func230.trans (congrArg some (by kernel_rfl))
 f286:=Tryz.func231.trans (congrArg some (by kernel_rfl))
 f287:=Tryz.func258.trans (congrArg some (by kernel_rfl))
 f316:=Tryz.func259.trans (congrArg some (by kernel_rfl))
 f317:=Tryz.func240.trans (congrArg some (by kernel_rfl))
 f318:=Tryz.func242.trans (congrArg some (by kernel_rfl))
 f319:=Tryz.func243.trans (congrArg some (by kernel_rfl))
 f320:=Tryz.func244.trans (congrArg some (by kernel_rfl))
 f321:=Tryz.func266.trans (congrArg some (by kernel_rfl))
 f322:=Tryz.func267.trans (congrArg some (by kernel_rfl))
 f337:=Tryz.func256.trans (congrArg some (by kernel_rfl))
 f338:=Tryz.func257.trans (congrArg some (by kernel_rfl))
 t0:=Tryz.underlying0
 a0:=Tryz.isAgg0
 z0:=Tryz.sizeOf0
 v0:=Tryz.zeroValue0
 t2:=Tryz.underlying2
 a2:=Tryz.isAgg2
 z2:=Tryz.sizeOf2
 v2:=Tryz.zeroValue2
 t3:=Tryz.underlying3
 a3:=Tryz.isAgg3
 z3:=Tryz.sizeOf3
 v3:=Tryz.zeroValue3
 t4:=Tryz.underlying4
 a4:=Tryz.isAgg4
 z4:=Tryz.sizeOf4
 v4:=Tryz.zeroValue4
 t5:=Tryz.underlying5
 a5:=Tryz.isAgg5
 z5:=Tryz.sizeOf5
 v5:=Tryz.zeroValue5
 t9:=Tryz.underlying9
 a9:=Tryz.isAgg9
 z9:=Tryz.sizeOf9
 v9:=Tryz.zeroValue9
 t20:=Tryz.underlying20
 a20:=Tryz.isAgg20
 z20:=Tryz.sizeOf20
 v20:=Tryz.zeroValue20
 t21:=Tryz.underlying21
 a21:=Tryz.isAgg21
 z21:=Tryz.sizeOf21
 v21:=Tryz.zeroValue21
 t37:=Tryz.underlying257
 a37:=Tryz.isAgg257
 z37:=Tryz.sizeOf257
 v37:=Tryz.zeroValue257
 t46:=Tryz.underlying295
 a46:=Tryz.isAgg295
 z46:=Tryz.sizeOf295
 v46:=Tryz.zeroValue295
 t51:=Tryz.underlying293
 a51:=Tryz.isAgg293
 z51:=Tryz.sizeOf293
 v51:=Tryz.zeroValue293
 t53:=Tryz.underlying230
 a53:=Tryz.isAgg230
 z53:=Tryz.sizeOf230
 v53:=Tryz.zeroValue230
 t75:=Tryz.underlying274
 a75:=Tryz.isAgg274
 z75:=Tryz.sizeOf274
 v75:=Tryz.zeroValue274
 t76:=Tryz.underlying275
 a76:=Tryz.isAgg275
 z76:=Tryz.sizeOf275
 v76:=Tryz.zeroValue275
 t85:=Tryz.underlying298
 a85:=Tryz.isAgg298
 z85:=Tryz.sizeOf298
 v85:=Tryz.zeroValue298
 t127:=Tryz.underlying303
 a127:=Tryz.isAgg303
 z127:=Tryz.sizeOf303
 v127:=Tryz.zeroValue303
 t143:=Tryz.underlying321
 a143:=Tryz.isAgg321
 z143:=Tryz.sizeOf321
 v143:=Tryz.zeroValue321
 t145:=Tryz.underlying323
 a145:=Tryz.isAgg323
 z145:=Tryz.sizeOf323
 v145:=Tryz.zeroValue323
 t167:=Tryz.underlying297
 a167:=Tryz.isAgg297
 z167:=Tryz.sizeOf297
 v167:=Tryz.zeroValue297
 t168:=Tryz.underlying300
 a168:=Tryz.isAgg300
 z168:=Tryz.sizeOf300
 v168:=Tryz.zeroValue300
 t171:=Tryz.underlying278
 a171:=Tryz.isAgg278
 z171:=Tryz.sizeOf278
 v171:=Tryz.zeroValue278
 t173:=Tryz.underlying281
 a173:=Tryz.isAgg281
 z173:=Tryz.sizeOf281
 v173:=Tryz.zeroValue281
 t175:=Tryz.underlying305
 a175:=Tryz.isAgg305
 z175:=Tryz.sizeOf305
 v175:=Tryz.zeroValue305
 t210:=Tryz.underlying309
 a210:=Tryz.isAgg309
 z210:=Tryz.sizeOf309
 v210:=Tryz.zeroValue309
 t212:=Tryz.underlying292
 a212:=Tryz.isAgg292
 z212:=Tryz.sizeOf292
 v212:=Tryz.zeroValue292
 t213:=Tryz.underlying294
 a213:=Tryz.isAgg294
 z213:=Tryz.sizeOf294
 t232:=Tryz.underlying318
 a232:=Tryz.isAgg318
 z232:=Tryz.sizeOf318
 v232:=Tryz.zeroValue318
 t233:=Tryz.underlying319
 a233:=Tryz.isAgg319
 z233:=Tryz.sizeOf319
 v233:=Tryz.zeroValue319
 g15:=by kernel_rfl
 g16:=by kernel_rfl
 g17:=by kernel_rfl
 g18:=by kernel_rfl
 g19:=by kernel_rfl
 t80:=Tryz.underlying73
 a80:=Tryz.isAgg73
 z80:=Tryz.sizeOf73
 v80:=Tryz.zeroValue73
 i0:=by kernel_rfl
 i2:=by kernel_rfl
 i3:=by kernel_rfl
 i4:=by kernel_rfl
 i5:=by kernel_rfl
 i9:=by kernel_rfl
 i20:=by kernel_rfl
 i21:=by kernel_rfl
 i37:=by kernel_rfl
 i46:=by kernel_rfl
 i51:=by kernel_rfl
 i53:=by kernel_rfl
 i75:=by kernel_rfl
 i76:=by kernel_rfl
 i80:=by kernel_rfl
 i85:=by kernel_rfl
 i127:=by kernel_rfl
 i143:=by kernel_rfl
 i145:=by kernel_rfl
 i167:=by kernel_rfl
 i168:=by kernel_rfl
 i171:=by kernel_rfl
 i173:=by kernel_rfl
 i175:=by kernel_rfl
 i210:=by kernel_rfl
 i212:=by kernel_rfl
 i232:=by kernel_rfl
 i233:=by kernel_rfl
 m15:=by kernel_rfl
 m16:=by kernel_rfl
 m17:=by kernel_rfl
 m18:=by kernel_rfl
 m19:=by kernel_rfl
 c0:=by kernel_rfl
 c2:=by kernel_rfl
 c3:=by kernel_rfl
 c4:=by kernel_rfl
 c5:=by kernel_rfl
 c9:=by kernel_rfl
 c20:=by kernel_rfl
 c21:=by kernel_rfl
 c37:=by kernel_rfl
 c46:=by kernel_rfl
 c51:=by kernel_rfl
 c53:=by kernel_rfl
 c75:=by kernel_rfl
 c76:=by kernel_rfl
 c80:=by kernel_rfl
 c85:=by kernel_rfl
 c127:=by kernel_rfl
 c143:=by kernel_rfl
 c145:=by kernel_rfl
 c167:=by kernel_rfl
 c168:=by kernel_rfl
 c171:=by kernel_rfl
 c173:=by kernel_rfl
 c175:=by kernel_rfl
 c210:=by kernel_rfl
 c212:=by kernel_rfl
 c213:=by kernel_rfl
 c232:=by kernel_rfl
 c233:=by kernel_rfl }
def Tryz.lays154_ren:Go.Shelf.Ren:=⟨fun | 154=>225 | 138=>234 | 165=>235 | 143=>236 | 166=>237 | 197=>238 | 169=>239 | 195=>250 | 218=>251 | 240=>252 | 241=>253 | 219=>254 | 260=>255 | 276=>261 | 277=>262 | 217=>221 | 225=>263 | 224=>264 | 267=>265 | 266=>227 | 314=>268 | n=>n,fun | 9=>9 | 3=>3 | 4=>4 | 72=>287 | 0=>0 | 76=>275 | 105=>289 | 21=>21 | 5=>5 | 70=>285 | 20=>20 | 37=>257 | 75=>274 | 127=>303 | 164=>311 | 46=>295 | 119=>314 | 139=>317 | 138=>316 | 146=>324 | 51=>293 | 80=>73 | n=>n,fun | 1=>0 | 3=>4 | 4=>5 | n=>n⟩
theorem Tryz.lays154:Go.Proofs.Lays.n154 Tryz.prog Tryz.lays154_ren:={
 mixed:=by kernel_rfl
 f138:=Tryz.func234.trans (congrArg some (by kernel_rfl))
 f143:=Tryz.func236.trans (congrArg some (by kernel_rfl))
 f154:=Tryz.func225.trans (congrArg some (by kernel_rfl))
 f165:=Tryz.func235.trans (congrArg some (by kernel_rfl))
 f166:=Tryz.func237.trans (congrArg some (by kernel_rfl))
 f169:=Tryz.func239.trans (congrArg some (by kernel_rfl))
 f195:=Tryz.func250.trans (congrArg some (by kernel_rfl))
 f197:=Tryz.func238.trans (congrArg some (by kernel_rfl))
 f217:=Tryz.func221.trans (congrArg some (by kernel_rfl))
 f218:=Tryz.func251.trans (congrArg some (by kernel_rfl))
 f219:=Tryz.func254.trans (congrArg some (by kernel_rfl))
 f224:=Tryz.func264.trans (congrArg some (by kernel_rfl))
 f225:=Tryz.func263.trans (congrArg some (by kernel_rfl))
 f240:=Tryz.func252.trans (congrArg some (by kernel_rfl))
 f241:=Tryz.func253.trans (congrArg some (by kernel_rfl))
 f260:=Tryz.func255.trans (congrArg some (by kernel_rfl))
 f266:=Tryz.func227.trans (congrArg some (by kernel_rfl))
 f267:=Tryz.func265.trans (congrArg some (by kernel_rfl))
 f276:=Tryz.func261.trans (congrArg some (by kernel_rfl))
 f277:=Tryz.func262.trans (congrArg some (by kernel_rfl))
 f314:=Tryz.func268.trans (congrArg some (by kernel_rfl))
 t0:=Tryz.underlying0
 a0:=Tryz.isAgg0
 z0:=Tryz.sizeOf0
 v0:=Tryz.zeroValue0
 t3:=Tryz.underlying3
 a3:=Tryz.isAgg3
 z3:=Tryz.sizeOf3
 v3:=Tryz.zeroValue3
 t4:=Tryz.underlying4
 a4:=Tryz.isAgg4
 z4:=Tryz.sizeOf4
 v4:=Tryz.zeroValue4
 t5:=Tryz.underlying5
 a5:=Tryz.isAgg5
 z5:=Tryz.sizeOf5
 v5:=Tryz.zeroValue5
 t9:=Tryz.underlying9
 a9:=Tryz.isAgg9
 z9:=Tryz.sizeOf9
 v9:=Tryz.zeroValue9
 t20:=Tryz.underlying20
 a20:=Tryz.isAgg20
 z20:=Tryz.sizeOf20
 v20:=Tryz.zeroValue20
 t21:=Tryz.underlying21
 a21:=Tryz.isAgg21
 z21:=Tryz.sizeOf21
 v21:=Tryz.zeroValue21
 t37:=Tryz.underlying257
 a37:=Tryz.isAgg257
 z37:=Tryz.sizeOf257
 v37:=Tryz.zeroValue257
 t46:=Tryz.underlying295
 a46:=Tryz.isAgg295
 z46:=Tryz.sizeOf295
 v46:=Tryz.zeroValue295
 t51:=Tryz.underlying293
 a51:=Tryz.isAgg293
 z51:=Tryz.sizeOf293
 v51:=Tryz.zeroValue293
 t70:=Tryz.underlying285
 a70:=Tryz.isAgg285
 z70:=Tryz.sizeOf285
 v70:=Tryz.zeroValue285
 t72:=Tryz.underlying287
 a72:=Tryz.isAgg287
 z72:=Tryz.sizeOf287
 v72:=Tryz.zeroValue287
 t75:=Tryz.underlying274
 a75:=Tryz.isAgg274
 z75:=Tryz.sizeOf274
 v75:=Tryz.zeroValue274
 t76:=Tryz.underlying275
 a76:=Tryz.isAgg275
 z76:=Tryz.sizeOf275
 v76:=Tryz.zeroValue275
 t105:=Tryz.underlying289
 a105:=Tryz.isAgg289
 z105:=Tryz.sizeOf289
 v105:=Tryz.zeroValue289
 t119:=Tryz.underlying314
 a119:=Tryz.isAgg314
 z119:=Tryz.sizeOf314
 t127:=Tryz.underlying303
 a127:=Tryz.isAgg303
 z127:=Tryz.sizeOf303
 v127:=Tryz.zeroValue303
 t138:=Tryz.underlying316
 a138:=Tryz.isAgg316
 z138:=Tryz.sizeOf316
 v138:=Tryz.zeroValue316
 t139:=Tryz.underlying317
 a139:=Tryz.isAgg317
 z139:=Tryz.sizeOf317
 v139:=Tryz.zeroValue317
 t146:=Tryz.underlying324
 a146:=Tryz.isAgg324
 z146:=Tryz.sizeOf324
 v146:=Tryz.zeroValue324
 t164:=Tryz.underlying311
 a164:=Tryz.isAgg311
 z164:=Tryz.sizeOf311
 v164:=Tryz.zeroValue311
 g1:=by kernel_rfl
 g3:=by kernel_rfl
 g4:=by kernel_rfl }
theorem Tryz.Builder_Extra_154:Builder.Extra Tryz.prog Tryz.lays154_ren:={
 sizeBuilder:=by kernel_rfl
 liesBuilder:=by kernel_rfl
 t5:=Tryz.underlying5
 a5:=Tryz.isAgg5
 z5:=Tryz.sizeOf5
 v5:=Tryz.zeroValue5
 infoByte:=by kernel_rfl
 cellsByte:=by kernel_rfl
 sizeByte:=by kernel_rfl
 neB5:=by decide }
open Go.RowKit Go.Lib in
theorem Tryz.strings_Replace (s old new:ByteArray) (n:Int) (m:Int) (w:World) (O:s.size < 4294967281) (N:w.cell? ⟨0,0,none⟩=some (.int .i64 m)) (b:1<=old.size) (a:s.size+Lib.countB s old * new.size<=140737488355328) :
  Calls Tryz.prog 225 #[.string s,.string old,.string new,.int .i64 n] w fun e w'=>
   e=.returned (.string ⟨(Lib.replace s.data.toList old.data.toList new.data.toList n).toArray⟩)/\Below w.heap.size w w':=Any.strings_Replace Tryz.lays154 Tryz.Builder_Extra_154 s old new n m w O N b a
end Go.Proofs
namespace Go.Sw
open Go.Proofs Go.Proofs.Tryz
set_option maxRecDepth 20000
set_option maxHeartbeats 4000000
theorem Mem.below {Φ:Fz} {K:List Res} {w w':World} (N:Mem Φ K w) (h:RowKit.Below w.heap.size w w'):Mem Φ K w':=by
 have a:Mem Φ (.gs (.slice none 0 0) 0 0 []::K) w':=N.more (r:=.gs (.slice none 0 0) 0 0 []) h.os h.output (fun b hb=>h.block b hb) ⟨0,World.ownsRow_nil w' 0 0 0⟩ (fun b hb=>by cases hb)
 exact a.del 0
theorem j0a {Φ:Fz} {K:List Res} {w:World} {n:Int} (h:I64 n) (G:Tabs Φ) (N:Mem Φ K w) :
  Calls prog 192 #[.int .i64 n] w (fun ee w'=>ee=.returned (.string (q1m n))/\Mem Φ K w'):=by
 refine (Tryz.strconv_Itoa n (by have:=h;unfold I64 at this;omega) (by have:=h;unfold I64 at this;omega) w (G w ⟨N.fz,by simp⟩)).mono fun e w' J=>?_
 obtain ⟨rfl,k,os,rfl⟩:=J
 refine ⟨rfl,N.below ⟨rfl,rfl,rfl,by simp [Go.Sort.grow,World.drewN],fun b hb=>?_⟩⟩
 simp only [Go.Sort.grow,World.drewN]
 rw [Array.getElem?_append_left hb]
theorem At.cell {Φ:Fz} {K:List Res} {w:World} {g:Nat} {v:Value} (h:At Φ ⟨g,0,none⟩ [v]) (N:Mem Φ K w):w.cell? ⟨g,0,none⟩=some v:=by
 obtain ⟨arr,T,fr,a,b⟩:=h.ex
 have c:=N.fz _ _ a
 have d:=b 0 v rfl
 simp only [World.cell?,c]
 simpa using d
theorem z2p (old new:List UInt8):∀(k:Nat) (s:List UInt8),(Lib.replaceK old new k s).length<=s.length+k * new.length
 | 0,s=>by simp [Lib.replaceK]
 | k+1,s=>by
  unfold Lib.replaceK
  split
  ·omega
  ·have h:=z2p old new k (s.drop ((Lib.index s old).toNat+old.length))
   simp only [laQ,List.length_take,List.length_drop,Nat.add_mul] at h ⊢
   omega
theorem q7d (s old new:Bs):(z9y s old new).size<=s.size+new.size:=by
 have a:∀b:Bs,b.data.toList.length=b.size:=fun b=>by rw [Array.length_toList];rfl
 show (Lib.replace s.data.toList old.data.toList new.data.toList 1).toArray.size<=_
 rw [List.size_toArray,<- a s,<- a new]
 unfold Lib.replace
 split
 ·omega
 ·have h:=z2p old.data.toList new.data.toList (Lib.replaceNum s.data.toList old.data.toList 1) s.data.toList
  have c:Lib.replaceNum s.data.toList old.data.toList 1<=1:=by unfold Lib.replaceNum;split <;> omega
  have:=Nat.mul_le_mul_right new.data.toList.length c
  omega
theorem z0l {n:Int} (h:I64 n):(q1m n).size<=21:=by
 show (Lib.itoa n).toArray.size<=_
 rw [List.size_toArray]
 exact Lib.itoa_length_le n (by have:=h;unfold I64 at this;omega) (by have:=h;unfold I64 at this;omega)
theorem y0a {Φ:Fz} {K:List Res} {w:World} {s old new:Bs} (O:s.size<=1000000) (a:1<=old.size) (c:new.size=1) (G:Glob Φ) (N:Mem Φ K w) :
  Calls prog 225 #[.string s,.string old,.string new,.int .i64 ((1:Nat):Int)] w (fun ee w'=>ee=.returned (.string (z9y s old new))/\Mem Φ K w'):=by
 obtain ⟨m,b⟩:=G.maxLen
 have d:=Lib.countB_le old a s.size s (Nat.le_refl _)
 refine (Tryz.strings_Replace s old new 1 m w (by omega) (b.cell N) a (by rw [c];omega)).mono fun e w' J=>⟨J.1,N.below J.2⟩
theorem atoi_ok {Φ:Fz} {K:List Res} {w:World} {s:Bs} (O:s.size<=1000000) (G:Glob Φ) (N:Mem Φ K w) :
  Calls prog 224 #[.string s] w (fun ee w'=>Out (z4t s) (fun v=>ee=.returned (.tuple #[.int .i64 v,.nilIface])/\Mem Φ K w')
   (fun _=>∃y:Int×Nat,ee=.returned (.tuple #[.int .i64 y.1,.iface 300 (.pointer (some ⟨y.2,0,none⟩))])/\Mem Φ K w')):=by
 have hbelow:∀w':World,(w'=w∨∃t,w'=Lib.bytesWorld w 5 t)->Mem Φ K w':=fun w' h=>by
  rcases h with rfl | ⟨t,rfl⟩
  ·exact N
  ·exact N.below (Lib.bytesWorld_below w 5 t)
 unfold z4t
 cases h:Lib.atoiAll s.data.toList
 ·exact (Any.strconv_Atoi_ok Tryz.laysC172 s (by omega) _ h w).mono fun e w' J=>⟨J.1,hbelow w' J.2⟩
 ·obtain ⟨ev,a,b⟩:=G.err4
  exact (Any.strconv_Atoi_syntax Tryz.laysC172 s (by omega) h ev w (a.cell N) b).mono fun e w' ⟨NN,c,_,_,d⟩=>⟨(_,NN),c,N.below d⟩
 ·obtain ⟨ev,a,b⟩:=G.err5
  exact (Any.strconv_Atoi_range Tryz.laysC172 s (by omega) h ev w (a.cell N) b).mono fun e w' ⟨NN,c,_,_,d⟩=>⟨(_,NN),c,N.below d⟩
theorem z2a {Φ:Fz} {K:List Res} {w:World} {s:Bs} {c:Nat} (N:Mem Φ K w) :
  Calls prog 211 #[.string s,.int .u8 c] w (fun ee w'=>ee=.returned (.int .i64 (Lib.indexByte s.data.toList ((c:Int)).toNat.toUInt8))/\Mem Φ K w'):=by
 exact (Tryz.strings_IndexByte s c w).mono fun e w' J=>by obtain ⟨a,rfl⟩:=J;exact ⟨a,N⟩
theorem q4l {P:Program} {n:Nat} {E:List (Nat×Value)} {D:List Deferred} {a:Act} {w:World} {ty:TypeId} (i m:Nat) {x ix:Operand} {t e:TypeId} {kk:IntKind} {cs:List Value} {s:Bs} (J:EnvR n E D a) (g:ev E x=some (.agg cs.toArray))
  (hi:ev E ix=some (.int kk (i:Int))) (f:Under P t (.array m e)) (O:SizeT P e 1) (d:Scalar P e) (hl:cs.length=m) (c:cs[i]? = some (.string s)):Ok P a (.index t x ix) ty w (.string s):=fun _ _ _ _=>by
 have b:i < m:=by rw [<- hl];exact (List.getElem?_eq_some_iff.1 c).1
 simp only [execOp,J.ev g,J.ev hi]
 have h:cs[i]'(by rw [hl];exact b)=.string s:=(List.getElem?_eq_some_iff.1 c).2
 simp [Instr.index,asIntOf,Sem.run_bind,f w,O w,Result.andThen,b]
 simp [part,Sem.run_bind,d w,Result.andThen,c]
theorem j3k {P:Program} {n:Nat} {E:List (Nat×Value)} {D:List Deferred} {a:Act} {w:World} {Kn:Value->World->Prop} {Qp:List PanicEntry->World->Prop} {dst:Option Tmp} {ty:TypeId} {pos:String} {aft:Array Edge} {g:Option (Nat×Bool)}
  {α β ε:Type} {f:FuncId} {xs:Array Operand} {ts:Array TypeId} {vs:List Value} {r:Except ε α} {X:α->Value} {Z:ε->β->Value} {d i:Fz} {KO:α->List Res} {KE:ε->β->List Res}
  (J:EnvR n E D a) (o:evs E xs.toList=some vs) (m:∀args w,(callFunc f args).run P w=.ok (.enter f args) w)
  (l:Calls P f vs.toArray w (fun e w'=>Out r (fun x=>e=.returned (X x)/\Mem d (KO x) w') (fun c=>∃y,e=.returned (Z c y)/\Mem i (KE c y) w')))
  (k:∀x w',r=.ok x->Mem d (KO x) w'->Kn (X x) w') (kp:∀c y w',r=.error c->Mem i (KE c y) w'->Kn (Z c y) w') :
  Oper.eff P ⟨dst,.call { callee:=.value (.func f),args:=xs,argTypes:=ts },ty,pos,aft,g⟩ a w Kn Qp:=by
 refine mH J o m l (fun v w' h=>?_) (fun c w' h=>?_) (fun w' h=>?_)
 ·cases r with
  | ok x=>obtain ⟨b,j⟩:=h;cases b;exact k _ _ rfl j
  | error c=>obtain ⟨y,b,j⟩:=h;cases b;exact kp _ _ _ rfl j
 ·cases r with
  | ok x=>obtain ⟨b,_⟩:=h;cases b
  | error c=>obtain ⟨y,b,_⟩:=h;cases b
 ·cases r with
  | ok x=>obtain ⟨b,_⟩:=h;cases b
  | error c=>obtain ⟨y,b,_⟩:=h;cases b
def y6r (s:Bs):Int:=(dJ s).getD 0
def z9l (s:Bs):Int:=match dJ s with | some _=>0 | none=>13
theorem num_ok {s:Bs} {v:Int} (h:z4t (z9y s ⟨#[126]⟩ ⟨#[45]⟩)=.ok v) (a:z1p v=s):y6r s=v/\z9l s=0:=by
 simp [y6r,z9l,dJ,h,a]
theorem num_no {s:Bs} {v:Int} (h:z4t (z9y s ⟨#[126]⟩ ⟨#[45]⟩)=.ok v) (a:¬z1p v=s):y6r s=0/\z9l s=13:=by
 simp [y6r,z9l,dJ,h,a]
theorem num_err {s:Bs} {u:Unit} (h:z4t (z9y s ⟨#[126]⟩ ⟨#[45]⟩)=.error u):y6r s=0/\z9l s=13:=by
 simp [y6r,z9l,dJ,h]
theorem j6l {s:Bs} {v:Int} (h:z4t s=.ok v):I64 v:=by
 unfold z4t at h
 unfold Lib.atoiAll at h
 split at h
 ·rename_i v' a
  simp only [Except.ok.injEq] at h
  subst h
  split at a
  ·cases a
  ·simp only at a
   split at a
   ·cases a
   ·cases a
   ·split at a
    ·cases a
    ·split at a
     ·cases a
     ·rename_i c d
      simp only [Lib.NumEnd.ok.injEq] at a
      subst a
      unfold I64
      split <;> rename_i b
      ·simp only [b,true_and] at d;omega
      ·simp only [b,not_false_eq_true,true_and] at c;omega
 ·cases h
theorem wJ (t:Bs) (i:Nat):yW t i < 256:=by
 unfold yW;split
 ·exact UInt8.toNat_lt _
 ·decide
theorem z6y {n:Nat} (h:n < 256):(n.toUInt8).toNat=n:=by simp [Nat.toUInt8,UInt8.toNat_ofNat,Nat.mod_eq_of_lt h]
section
variable {Φ:Fz} {K:List Res} {w:World} {n:Nat}
theorem q1l (h:n < 256) (N:Mem Φ K w):Calls prog 210 #[.int .u8 n] w (fun ee w'=>ee=.returned (.bool (qQ n))/\Mem Φ K w'):=by
 have:=z3w (c:=n.toUInt8) N;rwa [z6y h] at this
theorem j3y (h:n < 256) (N:Mem Φ K w):Calls prog 204 #[.int .u8 n] w (fun ee w'=>ee=.returned (.bool (yU n))/\Mem Φ K w'):=by
 have:=cK (c:=n.toUInt8) N;rwa [z6y h] at this
theorem y3l (h:n < 256) (N:Mem Φ K w):Calls prog 206 #[.int .u8 n] w (fun ee w'=>ee=.returned (.bool (nD n))/\Mem Φ K w'):=by
 have:=z8x (c:=n.toUInt8) N;rwa [z6y h] at this
theorem j3z (h:n < 256) (N:Mem Φ K w):Calls prog 208 #[.int .u8 n] w (fun ee w'=>ee=.returned (.bool (dR n))/\Mem Φ K w'):=by
 have:=z8w (c:=n.toUInt8) N;rwa [z6y h] at this
end
theorem y5d:wordsL.length=15:=rfl
theorem j5l {i:Nat} {x:Bs} (h:wordsL[i]? = some x):z0p (wordsM.take i) x (.int .i64 ((5:Nat):Int))=wordsM.take (i+1):=by
 have hi:i < 15:=by have:=(List.getElem?_eq_some_iff.1 h).1;rwa [y5d] at this
 have a:x=wordsL[i]'(by rw [y5d];exact hi):=(List.getElem?_eq_some_iff.1 h).2.symm
 subst a
 match i,hi with
 | 0,_=>rfl
 | 1,_=>rfl
 | 2,_=>rfl
 | 3,_=>rfl
 | 4,_=>rfl
 | 5,_=>rfl
 | 6,_=>rfl
 | 7,_=>rfl
 | 8,_=>rfl
 | 9,_=>rfl
 | 10,_=>rfl
 | 11,_=>rfl
 | 12,_=>rfl
 | 13,_=>rfl
 | 14,_=>rfl
theorem q8h {i:Nat} (h:¬i < 15):wordsM.take i=wordsM:=List.take_of_length_le (by show 15<=i;omega)
theorem q2y {Φ:Fz} {K:List Res} {w:World} {t:Bs} {pos:Nat} {b:Nat} {rest:List Value} {T0:TypeId} (a:pos<=1000000000) (N:Mem Φ (.blk b (ob (.string t::.int .i64 pos::rest) T0)::K) w) :
  Calls prog 203 #[.pointer (some ⟨b,0,none⟩),.int .i64 ((0:Nat):Int)] w (fun ee w'=>ee=.returned (.int .u8 ((yW t pos:Nat):Int))/\Mem Φ (.blk b (ob (.string t::.int .i64 pos::rest) T0)::K) w') :=
 z2n (k:=0) a N
theorem aT (t:Bs) (pos:Nat):sW t pos=if z9l (wZ t pos)=0 then
   (if qQ (yW t (pos+(vC t pos+xQ t pos)))=true∨yW t (pos+(vC t pos+xQ t pos))=39 then .error (pos,13) else .ok ⟨1,y6r (wZ t pos),wZ t pos,pos⟩)
  else .error (pos,13):=by
 unfold sW z9l y6r
 cases dJ (wZ t pos) with
 | none=>rfl
 | some v=>rfl
set_option maxRecDepth 10000 in
theorem j0w:∀c < 256,decide ((0:Int)<=Lib.indexByte [40,41,44,59,58,124,61,60,43,45,42,47,37,95] ((c:Nat):Int).toNat.toUInt8)=z5j c:=by decide
theorem q2w (t:Bs):∀(f i q:Nat),i<=t.size->z2m t f i=.ok q->i<=q/\q<=t.size
 | 0,i,q,h,a=>by simp only [z2m,Except.ok.injEq] at a;omega
 | f+1,i,q,h,a=>by
  have j:=kU jN t t.size i h
  simp only [z2m] at a
  split at a
  ·cases b:vF t (i+qB jN t t.size i) (i+qB jN t t.size i) 0 with
   | error c=>rw [b] at a;cases a
   | ok e=>
    rw [b] at a
    have d:=wL _ _ _ _ _ _ b
    have g:=q2w t f e q d.2 a
    omega
  ·simp only [Except.ok.injEq] at a;omega
theorem z9t {t:Bs} {i q:Nat} (h:i<=t.size) (a:cM t i=.ok q):i<=q/\q<=t.size:=q2w t _ i q h a
theorem z8k (t:Bs) (i n:Nat) (h:i+n<=t.size):(t.extract i (i+n)).size=n:=by
 rw [ByteArray.size_extract];omega
theorem q4b {t:Bs} {pos:Nat} {k:Tok} (g:pos < t.size) (h:zV t pos=.ok k):1<=k.text.size/\pos+k.text.size<=t.size:=by
 have b:∀p:Nat->Bool,p (yW t pos)=true->1<=qB p t t.size pos:=fun p d=>by
  rw [tX,if_pos ⟨g,d⟩];omega
 have name:∀kd,nD (yW t pos)=true∨dR (yW t pos)=true->kK t pos kd=.ok k->1<=k.text.size/\pos+k.text.size<=t.size:=fun kd O c=>by
  unfold kK at c
  split at c
  ·cases c
  ·simp only [Except.ok.injEq] at c
   subst c
   have e:=q6u t pos (by omega)
   have f:=b qQ (by unfold qQ;rcases O with h | h <;> simp [h])
   have o:qB qQ t t.size pos<=jE t pos:=by
    unfold jE;split
    ·split <;> omega
    ·omega
   simp only
   rw [z8k t pos _ e];omega
 have made:∀kd n,1<=n->pos+n<=t.size->vO t pos kd n=.ok k->1<=k.text.size/\pos+k.text.size<=t.size:=fun kd n e f c=>by
  obtain ⟨_,rfl⟩:=z9g c
  simp only
  rw [z8k t pos _ f];omega
 unfold zV at h
 split at h
 ·rename_i j
  have i:1<=vC t pos+xQ t pos/\pos+(vC t pos+xQ t pos)<=t.size:=by
   unfold xQ
   by_cases a:yW t pos=126
   ·have:vC t pos=1:=by simp [vC,a]
    have:=kU yU t t.size (pos+vC t pos) (by omega)
    omega
   ·have O:vC t pos=0:=by simp [vC,a]
    have l:yU (yW t pos)=true:=j.resolve_right a
    have e:=b yU l
    have f:=kU yU t t.size pos (by omega)
    rw [O,Nat.add_zero];omega
  rw [aT] at h
  split at h
  ·split at h
   ·cases h
   ·simp only [Except.ok.injEq] at h
    subst h
    simp only [wZ]
    rw [z8k t pos _ i.2];omega
  ·cases h
 split at h
 ·rename_i O;exact name _ (.inl O) h
 split at h
 ·rename_i O;exact name _ (.inr O) h
 split at h
 ·have:=kU qQ t t.size (pos+1) (by omega)
  exact made _ _ (by omega) (by omega) h
 split at h
 ·rename_i d
  have m:(⟨#[61,62]⟩:Bs).size=2:=rfl
  have e2:(⟨#[45,62]⟩:Bs).size=2:=rfl
  have:2<=t.size - pos:=by
   rcases d with d | d
   ·have:=jS d;omega
   ·have:=jS d;omega
  exact made _ _ (by omega) (by omega) h
 split at h
 ·exact made _ _ (by omega) (by omega) h
 ·cases h
theorem y0y (t:Bs):∀(f g i:Nat),i<=t.size->t.size < i+f->t.size < i+g->gP t f i=gP t g i
 | 0,_,i,a,h,_=>by omega
 | _+1,0,i,a,_,h=>by omega
 | f+1,g+1,i,a,h,h'=>by
  simp only [gP]
  cases e:cM t i with
  | error c=>rfl
  | ok q=>
   simp only
   split
   ·rename_i hq
    cases d:zV t q with
    | error c=>rfl
    | ok k=>
     simp only
     have j:=z9t a e
     have b:=q4b hq d
     rw [y0y t f g (q+k.text.size) b.2 (by omega) (by omega)]
   ·rfl
def z3b (t:Bs) (q:Nat):Except (Nat×Int) (List Tok):=if q < t.size then
  match zV t q with
  | .error c=>.error c
  | .ok k=>match gP t (t.size+1) (q+k.text.size) with
   | .error c=>.error c
   | .ok l=>.ok (k::l)
 else .ok []
theorem j1a {t:Bs} {i:Nat} (h:i<=t.size):gP t (t.size+1) i=match cM t i with
  | .error c=>.error c
  | .ok q=>z3b t q:=by
 rw [y0y t (t.size+1) (t.size+2) i h (by omega) (by omega)]
 rfl
def z9x (pre:List Tok) (r:Except (Nat×Int) (List Tok)):Except (Nat×Int) (List Tok):=match r with
 | .ok l=>.ok (pre++l)
 | .error c=>.error c
theorem q2z (r:Except (Nat×Int) (List Tok)):z9x [] r=r:=by cases r <;> rfl
theorem y4w {t:Bs} {i q:Nat} {pre:List Tok} (h:i<=t.size) (a:cM t i=.ok q):z9x pre (gP t (t.size+1) i)=z9x pre (z3b t q):=by
 rw [j1a h,a]
theorem y4x {t:Bs} {i:Nat} {pre:List Tok} {c:Nat×Int} (h:i<=t.size) (a:cM t i=.error c):z9x pre (gP t (t.size+1) i)=.error c:=by
 rw [j1a h,a];rfl
theorem y4y {t:Bs} {q:Nat} {pre:List Tok} {k:Tok} (h:q < t.size) (a:zV t q=.ok k):z9x pre (z3b t q)=z9x (pre++[k]) (gP t (t.size+1) (q+k.text.size)):=by
 unfold z3b
 rw [if_pos h,a]
 simp only
 cases gP t (t.size+1) (q+k.text.size) <;> simp [z9x]
theorem j5j {t:Bs} {q:Nat} {pre:List Tok} {c:Nat×Int} (h:q < t.size) (a:zV t q=.error c):z9x pre (z3b t q)=.error c:=by
 unfold z3b
 rw [if_pos h,a];rfl
theorem x2q {t:Bs} {q:Nat} {pre:List Tok} (h:¬q < t.size):z9x pre (z3b t q)=.ok pre:=by
 unfold z3b
 rw [if_neg h];simp [z9x]
section
variable {P:Program} {n m:Nat} {E:List (Nat×Value)} {D:List Deferred} {a:Act} {w:World} {ops:Array Oper} {rest:List Oper} {Q:Exit->Act->World->Prop} {r:Option Nat} {d:Nat} {v:Value} {op:Op} {ty:TypeId} {pos:String} {aft:Array Edge}
theorem z5p {o:Oper} {K:Act->World->Prop} (b:∀c,o.op≠.defer c)
  (h:Oper.eff P o a w (fun v w'=>K (a.put o.dst v) w') (fun c w'=>Q (.panic c) a w')):o.wpIn (FO r) m P a w K Q:=by
 refine ⟨fun f _=>FO.fn f,?_⟩
 rw [Oper.semAt_plain _ _ _ b]
 unfold Oper.eff at h
 generalize (execOp a.eval o).run P w=q at *
 cases q with
 | ok x w'=>
  cases x <;> simp only [kC] at h <;> simp only [Oper.uponIn]
  case value=>exact h
  case skip=>exact h
  case enter f args=>exact ⟨fun d=>(FO.depth d).elim,FO.calls (h.mono fun e w'' J=>by cases e <;> first | exact J | exact J.elim)⟩
 | halt x w'=>cases x <;> simp only [kC] at h;simp only [Oper.uponIn];exact h
theorem vS {o:Oper} (J:EnvR n E D a) (i:o.dst=some d) (b:Nat.blt d n=true) (j:o.guard=none) (e:∀c,o.op≠.defer c)
  (h:Oper.eff P o a w (fun v w'=>∀a,EnvR n ((d,v)::E) D a->wpListIn (FO r) m P ops Q rest a w') (fun _ _=>False)):wpListIn (FO r) m P ops Q (o::rest) a w:=by
 refine wpListIn_plain j fun L f=>z5p e (jX h (fun v w' k=>f _ _ ?_) (fun c w' g=>g.elim))
 rw [i];exact k _ (J.put b)
theorem jY {o:Oper} (J:EnvR n E D a) (f:o.dst=none) (g:o.guard=none) (b:∀c,o.op≠.defer c)
  (h:Oper.eff P o a w (fun _ w'=>∀a,EnvR n E D a->wpListIn (FO r) m P ops Q rest a w') (fun _ _=>False)):wpListIn (FO r) m P ops Q (o::rest) a w:=by
 refine wpListIn_plain g fun L d=>z5p b (jX h (fun v w' i=>d _ _ ?_) (fun c w' e=>e.elim))
 rw [f];exact i _ J.put_none
theorem zH (J:EnvR n E D a) (b:∀c,op≠.defer c) (f:Ok P a op ty w v) (e:Nat.blt d n=true) (k:∀a,EnvR n ((d,v)::E) D a->wpListIn (FO r) m P ops Q rest a w) :
  wpListIn (FO r) m P ops Q (⟨some d,op,ty,pos,aft,none⟩::rest) a w :=
 vS J rfl e rfl b (pE f k)
theorem mQ {id:Nat} {l:List Oper} (h:wpListIn (FO none) 3 P l.toArray Q l a w):(Code.region id l.toArray false).wp P Q a w:=wpIn_wide.1 (wpIn_region_lit h)
theorem x0a {y x:Operand} {ts:Array TypeId} {l:Nat} {JJ:World->Prop} (J:EnvR n E D a) (b:Nat.blt d n=true) (s:ev E y=some (.func (.yield l) #[] #[])) (r:ev E x=some v)
  (q:YieldAt Fence.wide 2 P l #[v] w (fun e w'=>e=.returned (.bool true)/\JJ w')) (k:∀w',JJ w'->∀a,EnvR n ((d,.bool true)::E) D a->wpListIn (FO none) 3 P ops Q rest a w') :
  wpListIn (FO none) 3 P ops Q (⟨some d,.call { callee:=.value y,args:=#[x],argTypes:=ts },ty,pos,aft,none⟩::rest) a w:=by
 obtain ⟨fn,tmps,assign,body,g,i⟩:=q
 refine wpListIn_plain rfl fun L o=>⟨fun f _=>trivial,?_⟩
 rw [Oper.semAt_plain _ _ _ (by intro c h;cases h)]
 have j:(execOp a.eval ⟨some d,.call { callee:=.value y,args:=#[x],argTypes:=ts },ty,pos,aft,none⟩).run P w=.ok (.round l fn tmps assign body) w:=by
  simp only [execOp,resolve,Sem.run_bind,List.map_toArray,List.map_cons,List.map_nil,J.ev r,J.ev s,Deferred.ofValue]
  simp [invoke,Sem.run_bind,Result.andThen,g]
 rw [j,Oper.uponIn_round]
 refine ⟨fun p=>(by cases p),i.mono fun e w' he'=>?_⟩
 obtain ⟨rfl,m⟩:=he'
 exact o _ _ (k _ m _ (J.put b))
end
section
variable {P:Program} {Φ Ψ:Fz} {K:List Res} {w:World}
theorem Mem.putObj {i l:Nat} {o o':Obj} (N:Mem Φ K w) (b:yV K i=some (.blk l o)):Mem Φ (kS K i (.blk l o')) (w.putObj l o'):=by
 have hb:l < w.heap.size:=(Array.getElem?_eq_some_iff.1 (N.own _ (yS b))).1
 exact N.upd b rfl rfl (fun c d a=>World.putObj_heap_other (fun e=>a (by simp [Res.foot,e]))) (World.putObj_heap_same hb) (.inl rfl)
theorem x1o {β γ:Type} {l n:Nat} {r:Loop} {tmps:Array Value} {E:List (Nat×Value)} {E1:β->List (Nat×Value)} {K1:β->List Res} {KO:γ->List Res} (N:Mem Φ (.blk l (.loop r)::K) w) (b:r.state=.ready) (d:r.pending=none)
  (J:EnvR n E [] ⟨tmps,[]⟩)
  (t:∀a,EnvR n E [] a->r.assign.wpIn (FO (some l)) 2 P (Exit.then (fun j g=>∃y,EnvR n (E1 y) [] j/\Mem Φ (.blk l (.loop r)::K1 y) g) (fun _ _ _=>False)) a w)
  (u:∀y a w,EnvR n (E1 y) [] a->Mem Φ (.blk l (.loop { r with state:=.busy })::K1 y) w->r.body.wpIn (FO (some l)) 2 P (fun e _ w=>e=.normal/\∃z,Mem Φ (.blk l (.loop { r with state:=.busy })::KO z) w) a w) :
  RoundIn Fence.wide 2 P l r.fn tmps r.assign r.body w (fun e w'=>e=.returned (.bool true)/\∃z,Mem Φ (.blk l (.loop r)::KO z) w'):=by
 refine roundIn_of_wpIn trivial (Code.wpIn_mono (fun e j g h=>?_) (t _ J))
 cases e with
 | normal=>
  obtain ⟨y,q,k⟩:=h
  have hl:g.heap[l]? = some (.loop r):=k.own _ msQ
  refine ⟨_,run_beginRound hl b,?_⟩
  have s:=k.putObj (i:=0) (o':=.loop { r with state:=.busy }) rfl
  refine Code.wpIn_mono (fun e a2 v h=>?_) (u y _ _ q s)
  obtain ⟨rfl,z,m⟩:=h
  have f:v.heap[l]? = some (.loop { r with state:=.busy }):=m.own _ msQ
  refine ⟨_,_,run_endRound none f,rfl,z,?_⟩
  have o:=m.putObj (i:=0) (o':=.loop { ({ r with state:=.busy }:Loop) with state:=.ready,pending:=none }) rfl
  have p:({ ({ r with state:=.busy }:Loop) with state:=.ready,pending:=none }:Loop)=r:=by cases r;simp only at b d;subst b;subst d;rfl
  simp only [kS,p] at o;simpa [p] using o
 | exit id=>exact h.elim
 | goto l=>exact h.elim
 | ret=>exact h.elim
 | panic c=>exact h.elim
 | outgrown=>exact h.elim
theorem x2v {β δ:Type} {n gf:Nat} {E:List (Nat×Value)} {Dd:List Deferred} {a:Act} {g:Operand} {ps:Array Tmp} {assign body:Code} {Q:Exit->Act->World->Prop} {fs cs:List Value} {F1:β->Fz} {KO:β->List Res} {KE:δ->List Res} {G:β->Prop} {B:δ->List PanicEntry->Prop}
  (J:EnvR n E Dd a) (N:Mem Φ K w) (C:ev E g=some (.func (.func gf) fs.toArray cs.toArray)) (A:∀args w,(callFunc gf args).run P w=.ok (.enter gf args) w)
  (t:∀Dk l r w,r.params=ps->r.assign=assign->r.body=body->r.state=.ready->r.pending=none->EnvR n E [] ⟨r.tmps,[]⟩->Mem Φ (.blk l (.loop r)::.blk Dk (.deferred (some []))::K) w ->
   Calls P gf (fs++[Value.func (.yield l) #[] #[]]++cs).toArray w (fun e w'=>(∃v y,e=.returned v/\G y/\Mem (F1 y) (.blk l (.loop r)::.blk Dk (.deferred (some []))::KO y) w')∨(∃c z,e=.panicked c/\B z c/\Mem Φ (.blk Dk (.deferred (some []))::KE z) w')))
  (kn:∀Dk y a w,G y->EnvR n E ({ target:=.collected Dk,args:=#[] }::Dd) a->Mem (F1 y) (.blk Dk (.deferred (some []))::KO y) w->Q .normal a w)
  (kp:∀Dk z c a w,B z c->EnvR n E ({ target:=.collected Dk,args:=#[] }::Dd) a->Mem Φ (.blk Dk (.deferred (some []))::KE z) w->Q (.panic c) a w):(Code.rangeFunc g ps assign body).wp P Q a w:=by
 refine (wpIn_wide (n:=3)).1 (wpIn_rangeFunc fun fn _=>?_)
 generalize j:((w.alloc (.deferred (some []))).alloc (.loop { state:=.ready,pending:=none,fn,tmps:=a.tmps,params:=ps,assign,body,defers:=w.heap.size }))=f
 have o:Mem Φ (.blk (w.heap.size+1) (.loop { state:=.ready,pending:=none,fn,tmps:=a.tmps,params:=ps,assign,body,defers:=w.heap.size })::.blk w.heap.size (.deferred (some []))::K) f:=by
  have m:=N.push (.deferred (some []))
  have k:=m.push (.loop { state:=.ready,pending:=none,fn,tmps:=a.tmps,params:=ps,assign,body,defers:=w.heap.size })
  have q:({ w with heap:=w.heap.push (.deferred (some [])) }:World).heap.size=w.heap.size+1:=Array.size_push _
  rw [q] at k
  rw [<- j];exact k
 have p:EnvR n E ({ target:=.collected w.heap.size,args:=#[] }::Dd) { a with defers:=[{ target:=.collected w.heap.size,args:=#[] }]++a.defers }:=⟨J.size,J.env,by simp [J.defs]⟩
 have d:=t w.heap.size (w.heap.size+1) { state:=.ready,pending:=none,fn,tmps:=a.tmps,params:=ps,assign,body,defers:=w.heap.size } f rfl rfl rfl rfl rfl ⟨J.size,J.env,rfl⟩ o
 refine ⟨w.heap.size+1,[{ target:=.collected w.heap.size,args:=#[] }],f,{ target:=.fn (.func gf) cs.toArray,args:=(fs++[Value.func (.yield (w.heap.size+1)) #[] #[]]).toArray },f,gf,(fs++[Value.func (.yield (w.heap.size+1)) #[] #[]]++cs).toArray,f,?_,?_,fun f' _=>trivial,?_,fun u=>(by cases u),?_⟩
 ·rw [show Fence.wide.round=none from rfl,run_enterLoop_outer,j]
 ·have m:=J.ev C
  have k:a.eval (.const (.func (.yield (w.heap.size+1)) #[] #[]))=.func (.yield (w.heap.size+1)) #[] #[]:=rfl
  simp only [resolve,Sem.run_bind,m,k,List.map_toArray,List.map_cons,List.map_nil]
  simp [Deferred.ofValue]
 ·have:=A (fs++[Value.func (.yield (w.heap.size+1)) #[] #[]]++cs).toArray f
  simp only [invoke]
  simpa using this
 ·refine callsIn_wide.2 (d.mono fun e D h=>?_)
  rcases h with ⟨v,y,rfl,hG,b⟩ | ⟨c,z,rfl,s,b⟩
  ·have hl:D.heap[w.heap.size+1]? = _:=b.own _ msQ
   refine ⟨_,_,run_endLoop hl (by intro h;cases h),?_⟩
   exact kn _ y _ _ hG p (b.putObj (i:=0) rfl).tail
  ·exact kp _ z c _ _ s p b
def mD (P:Program) (fn:Func) (tmps:Array Value) (R:Ending->World->Prop) (ds:List Deferred) (u:FrameMode) (w:World):Prop :=
 ∀(fr:Frame) (cs:List Frame),fr.mode=u->fr.defers=ds->fr.tmps=tmps->P.funcs[fr.fn]? = some fn->fr.kind=.normal ->
  ∃e w' fr',R e w'/\Comes P (lone fr cs w) (lone fr' cs w') e/\fr'.fn=fr.fn/\fr'.leaving P w' e
theorem z0m {fn:Func} {tmps:Array Value} {R:Ending->World->Prop} {ds:List Deferred} {u:FrameMode} (h:Leaves P fn tmps R ds u w):mD P fn tmps R ds u w :=
 fun fr cs a b c d e=>leaves_steps ds u w fr cs a b c d e h
theorem hY {fn:Func} {tmps:Array Value} {R:Ending->World->Prop} {Dk:Nat} {ds:List Deferred} {u:FrameMode} (k:u≠.run) (l:w.heap[Dk]? = some (.deferred (some [])))
  (h:mD P fn tmps R ds u (w.putObj Dk (.deferred none))):mD P fn tmps R ({ target:=.collected Dk,args:=#[] }::ds) u w:=by
 intro fr cs b c d f g
 have O:=step_collected (P:=P) (cs:=cs) (b▸k) c rfl (run_takeDeferred l)
 obtain ⟨e,w',fr',i,j,a,hl⟩:=h { fr with defers:=[]++ds } cs b rfl d f g
 exact ⟨e,w',fr',i,Comes.of_steps (.one O) j,a,hl⟩
def xP (P:Program) (fn:Func) (R:Ending->World->Prop):Exit->Act->World->Prop
 | .normal,a,w | .ret,a,w=>mD P fn a.tmps R a.defers .returning w
 | .panic chain,a,w=>mD P fn a.tmps R a.defers (.panicking chain) w
 | .outgrown,_,w=>R .outgrown w
 | _,_,_=>False
theorem y1r {f:FuncId} {fn:Func} {c:Code} {args:Array Value} {w:World} {R:Ending->World->Prop}
  (i:P.funcs[f]? = some fn) (hb:fn.body=some c)
  (h:c.wp P (xP P fn R) { tmps:=args++Array.replicate (fn.ntmps - args.size) undef,defers:=[] } w):Calls P f args w R:=by
 intro cs
 let b:Frame:={ (default:Frame) with fn:=f,kind:=.normal }
 have henter:Frame.enter P f args .normal =
   b.at { tmps:=args++Array.replicate (fn.ntmps - args.size) undef,defers:=[] } [.code c]:=by
  simp [Frame.enter,Frame.at,i,hb,b]
 obtain ⟨e,a',w',hq,a⟩:=h b [] cs
 rw [<- henter] at a
 cases e with
 | normal=>
  obtain ⟨e',w'',fr',g,O,d,hl⟩:=hq { b.at a' [] with mode:=.returning } cs rfl rfl rfl i rfl
  exact ⟨e',w'',fr',g,Comes.of_steps (Steps.trans a (.one step_end)) O,d,hl⟩
 | ret=>
  obtain ⟨todo,hs₀⟩:=a
  obtain ⟨e',w'',fr',g,O,d,hl⟩:=hq { b.at a' todo with mode:=.returning } cs rfl rfl rfl i rfl
  exact ⟨e',w'',fr',g,Comes.of_steps hs₀ O,d,hl⟩
 | panic chain=>
  obtain ⟨todo,hs₀⟩:=a
  obtain ⟨e',w'',fr',g,O,d,hl⟩:=hq { b.at a' todo with mode:=.panicking chain } cs rfl rfl rfl i rfl
  exact ⟨e',w'',fr',g,Comes.of_steps hs₀ O,d,hl⟩
 | exit id=>exact hq.elim
 | goto l=>exact hq.elim
 | outgrown=>exact ⟨.outgrown,w',b,hq,a.resolve_left (by simp [b]),rfl,trivial⟩
theorem sL {n:Nat} {f:FuncId} {fn:Func} {c:Code} {vs:List Value} {R:Ending->World->Prop} (g:P.funcs[f]? = some fn) (hb:fn.body=some c) (i:fn.ntmps=n) (hl:Nat.ble vs.length n=true)
  (k:∀Q:Exit->Act->World->Prop,(∀e a w,xP P fn R e a w->Q e a w)->∀a,EnvR n (aO 0 vs) [] a->c.wp P Q a w):Calls P f vs.toArray w R:=by
 have hl':vs.length<=n:=by simpa using hl
 refine y1r g hb (k _ (fun _ _ _ h=>h) _ ⟨by simp [i];omega,fun t v j=>?_,rfl⟩)
 obtain ⟨_,b⟩:=nM vs 0 t v j
 simp only [Nat.sub_zero] at b
 have d:t < vs.length:=(List.getElem?_eq_some_iff.1 b).1
 simp only [List.getElem?_toArray,Array.getElem?_append,List.size_toArray,d,↓reduceIte]
 exact b
end
theorem yP {P:Program} {n:Nat} {E:List (Nat×Value)} {a:Act} {w:World} {fn:Func} {R:Ending->World->Prop} (J:EnvR n E [] a) (b:fn.results=#[]) (h:R (.returned (.tuple #[])) w):bodyPost P fn R .normal a w :=
 ⟨J.defs,.tuple #[],by simp [results,b],h⟩
section
variable {P:Program} {n:Nat} {E:List (Nat×Value)} {D:List Deferred} {a:Act} {w:World} {ops:Array Oper} {rest:List Oper} {Q:Exit->Act->World->Prop} {ty:TypeId} {pos:String} {aft:Array Edge}
theorem tE {y:Operand} {fv:Fn} {fs cs vs:List Value} {xs:Array Operand} {ts:Array TypeId} (J:EnvR n E D a) (d:ev E y=some (.func fv fs.toArray cs.toArray)) (c:evs E xs.toList=some vs)
  (k:∀a,EnvR n E ({ target:=.fn fv cs.toArray,args:=(fs++vs).toArray }::D) a->wpList P ops Q rest a w) :
  wpList P ops Q (⟨none,.defer { callee:=.value y,args:=xs,argTypes:=ts },ty,pos,aft,none⟩::rest) a w:=by
 refine wpList_plain rfl fun L b=>?_
 unfold Oper.wp
 simp only [execOp,resolve,J.evsA c,J.ev d,Deferred.ofValue]
 refine b _ _ (k _ ⟨J.size,J.env,?_⟩)
 simp [Act.put,J.defs]
end
section
variable {P:Program} {n:Nat} {E:List (Nat×Value)} {D:List Deferred} {a:Act} {w:World} {ty:TypeId}
theorem y1l {x:Operand} {t t0:TypeId} {d:TypeDesc} {v:Value} (J:EnvR n E D a) (e:ev E x=some (.iface t v)) (c:Under P t d) (b:∀ms,d≠.interface ms) :
  Ok P a (.typeAssert x t0 t true) ty w (.tuple #[v,.bool true]):=fun _ _ _ _=>by
 simp only [execOp,J.ev e,Instr.typeAssert]
 simp only [Sem.run_bind,c _,Result.andThen,if_true]
 cases d <;> first | (exact absurd rfl (b _)) | simp [Sem.run_bind,Result.andThen]
end
section
variable {P:Program} {n:Nat} {E:List (Nat×Value)} {D:List Deferred} {a:Act} {w:World} {d:Nat} {ops:Array Oper} {rest:List Oper} {Q:Exit->Act->World->Prop}
theorem stP {o:Oper} (J:EnvR n E D a) (g:o.dst=some d) (b:Nat.blt d n=true) (i:o.guard=none)
  (h:Oper.eff P o a w (fun v w'=>∀a,EnvR n ((d,v)::E) D a->wpList P ops Q rest a w') (fun c w'=>∀a,EnvR n E D a->Q (.panic c) a w')):wpList P ops Q (o::rest) a w:=by
 refine wpList_plain i fun L e=>gR (jX h (fun v w' j=>e _ _ ?_) (fun c w' f=>f _ J))
 rw [g];exact j _ (J.put b)
end
theorem y8u {P:Program} {fn:Func} {n:Nat} {E:List (Nat×Value)} {D:List Deferred} {a:Act} {Φ:Fz} {K:List Res} {w:World} {t T b i:Nat} {cs:List Value} {T0:TypeId} {v:Value} (J:EnvR n E D a) (N:Sees Φ K w) (g:fn.results=#[.cell t T]) (h:get E t=some (.pointer (some ⟨b,0,none⟩)))
  (f:yV K i=some (.blk b (ob cs T0))) (e:nth cs 0=some v) (d:Scalar P T):(results fn a.tmps).run P w=.ok v w:=by
 have c:=N.cell f 0
 rw [e] at c
 simp [results,g,Array.getD_eq_getD_getElem?,J.env t _ h,asAddr,loadVar,Sem.run_bind,d w,Result.andThen,load,Sem.run,c]
section
variable {P:Program} {n:Nat} {E:List (Nat×Value)} {D:List Deferred} {a:Act} {Φ:Fz} {K:List Res} {w:World}
theorem q0f {t T b k i:Nat} {cs:List Value} {T0:TypeId} (J:EnvR n E D a) (N:Sees Φ K w) (m:get E t=some (.pointer (some ⟨b,0,none⟩)))
  (l:yV K i=some (.blk b (ob cs T0))) (f:AggT P T) (e:SizeT P T k) (hl:cs.length=k):(loadVar T ⟨b,0,none⟩).run P w=.ok (.agg cs.toArray) w:=by
 have g:∀j v,cs[j]? = some v->w.cell? ((⟨b,0,none⟩:Addr).add j)=some v:=fun j v h=>by
  have c:=N.cell l j
  rw [sV,h] at c
  unfold Addr.add;split
  ·subst_vars;exact c
  ·simpa using c
 have d:=run_loadCells_list (P:=P) (w:=w) ⟨b,0,none⟩ cs g
 rw [hl] at d
 simp [loadVar,Sem.run_bind,f w,e w,d,Result.andThen]
end
section
variable {P:Program} {n:Nat} {E:List (Nat×Value)} {D:List Deferred} {a:Act} {Φ Ψ:Fz} {K:List Res} {w:World}
theorem Mem.freezeMap {b i:Nat} {m:List (Bs×Value)} (N:Mem Φ K w) (c:yV K i=some (.mp b m)):∃Ψ,Φ.Le Ψ/\Mem Ψ (cX K i) w/\MapAt Ψ b m:=by
 have h:=N.pull c
 obtain ⟨es,clock,d,a⟩:=N.own _ (yS c)
 exact ⟨_,Fz.le_add (h.no rfl) _,h.freezeHead (b:=b) rfl d,es,clock,by simp [Fz.add],a⟩
theorem q3e {fn:Func} {t u x T U k i j b c:Nat} {v y:Value} {cs:List Value} {T0 g:TypeId} (J:EnvR n E D a) (N:Sees Φ K w) (r:fn.results=#[.tmp x,.cell t T,.cell u U]) (z:get E x=some y) (s:get E t=some (.pointer (some ⟨b,0,none⟩)))
  (q:yV K i=some (.blk b (ob [v] T0))) (p:Scalar P T) (f:get E u=some (.pointer (some ⟨c,0,none⟩))) (e:yV K j=some (.blk c (ob cs g))) (d:AggT P U) (o:SizeT P U k) (hl:cs.length=k) :
  (results fn a.tmps).run P w=.ok (.tuple #[y,v,.agg cs.toArray]) w:=by
 have h:w.cell? ⟨b,0,none⟩=some v:=N.cell q 0
 have l:=q0f (P:=P) J N f e d o hl
 have m:(loadVar T ⟨b,0,none⟩).run P w=.ok v w:=by simp [loadVar,Sem.run_bind,p w,Result.andThen,load,Sem.run,h]
 simp [results,r,Array.getD_eq_getD_getElem?,J.env t _ s,J.env u _ f,J.env x _ z,asAddr,l,m,Sem.run_bind,Result.andThen]
end
theorem j3j {P:Program} {n:Nat} {E:List (Nat×Value)} {D:List Deferred} {a:Act} {w:World} {Kn:Value->World->Prop} {Qp:List PanicEntry->World->Prop} {dst:Option Tmp} {ty:TypeId} {pos:String} {aft:Array Edge} {g:Option (Nat×Bool)}
  {α β ε δ:Type} {f:FuncId} {xs:Array Operand} {ts:Array TypeId} {vs:List Value} {r:Except ε α} {X:α->β->Value} {Z:ε->δ->Value} {d i:Fz} {KO:α->β->List Res} {KE:ε->δ->List Res}
  (J:EnvR n E D a) (o:evs E xs.toList=some vs) (m:∀args w,(callFunc f args).run P w=.ok (.enter f args) w)
  (l:Calls P f vs.toArray w (fun e w'=>Out r (fun x=>∃y,e=.returned (X x y)/\Mem d (KO x y) w') (fun c=>∃y,e=.returned (Z c y)/\Mem i (KE c y) w')))
  (k:∀x y w',r=.ok x->Mem d (KO x y) w'->Kn (X x y) w') (kp:∀c y w',r=.error c->Mem i (KE c y) w'->Kn (Z c y) w') :
  Oper.eff P ⟨dst,.call { callee:=.value (.func f),args:=xs,argTypes:=ts },ty,pos,aft,g⟩ a w Kn Qp:=by
 refine mH J o m l (fun v w' h=>?_) (fun c w' h=>?_) (fun w' h=>?_)
 ·cases r with
  | ok x=>obtain ⟨y,b,j⟩:=h;cases b;exact k _ _ _ rfl j
  | error c=>obtain ⟨y,b,j⟩:=h;cases b;exact kp _ _ _ rfl j
 ·cases r with
  | ok x=>obtain ⟨y,b,_⟩:=h;cases b
  | error c=>obtain ⟨y,b,_⟩:=h;cases b
 ·cases r with
  | ok x=>obtain ⟨y,b,_⟩:=h;cases b
  | error c=>obtain ⟨y,b,_⟩:=h;cases b
section
variable {Φ:Fz} {K:List Res} {w:World}
theorem j3d {n:Int}  (b:I64 n) (G:Glob Φ) (N:Mem Φ K w) :
  Calls prog 226 #[.int .i64 n] w (fun ee w'=>ee=.returned (.string (z1p n))/\Mem Φ K w'):=by
 refine zJ func226 ntmps226 fun Q hQ a J=>?_
 refine zF call192 (fun w N a J=>?_) (c:=j0a b G.tabs N)
 refine zF call225 (fun w N a J=>?_) (c:=y0a (by have h_:=z0l b;omega) (by decide) rfl G N)
 refine yK ?_
 exact ret_s N (by rfl)
theorem z9m {s:Bs} (O:s.size<=900000) (G:Glob Φ) (N:Mem Φ K w) :
  Calls prog 220 #[.string s] w (fun ee w'=>ee=.returned (.tuple #[.int .i64 (y6r s),.int .i64 (z9l s)])/\Mem Φ K w'):=by
 refine zJ func220 ntmps220 fun Q hQ a J=>?_
 refine zF call225 (fun w N a J=>?_) (c:=y0a (by omega) (by decide) rfl G N)
 refine st J rfl rfl rfl (j3k J rfl call224 (atoi_ok (by have h_:=q7d s ⟨#[126]⟩ ⟨#[45]⟩;have b:(⟨#[45]⟩:Bs).size=1:=rfl;omega) G N) (fun g w e N a J=>?_) (fun g h w e N a J=>?_))
 replace N:=N.nf
 refine Qq (fun a J=>?_) (o:=by exact fun J O=>jC (v:=.bool false) J rfl rfl rfl (by kernel_rfl))
 refine zF call226 (fun w N a J=>?_) (c:=j3d (j6l e) G N)
 by_cases f:(z1p g)=s
 refine z3k ?_
 obtain ⟨d,b⟩:=num_ok e f
 rw [d,b];exact ⟨rfl,N⟩
 refine z3k ?_
 obtain ⟨d,b⟩:=num_no e f
 rw [d,b];exact ⟨rfl,N⟩
 replace N:=N.nf
 refine Qq (fun a J=>?_) (o:=by exact fun J O=>jC (v:=.bool true) J rfl rfl rfl (by kernel_rfl))
 refine z3k ?_
 obtain ⟨d,b⟩:=num_err e
 rw [d,b];exact ⟨rfl,N⟩
theorem y3x {t:Bs} {pos b:Nat} {rest:List Value} {T0:TypeId} (G:Glob Φ) (B:pos<=t.size) (D:t.size<=800000) (N:Mem Φ (.blk b (ob (.string t::.int .i64 pos::rest) T0)::K) w) :
  Calls prog 205 #[.pointer (some ⟨b,0,none⟩)] w (fun ee w'=>Out (sW t pos) (fun q=>ee=.returned (y0x q)/\Mem Φ (.blk b (ob (.string t::.int .i64 pos::rest) T0)::K) w') (fun c=>ee=.panicked (dW c)/\Mem Φ K w')):=by
 refine zJ func205 ntmps205 fun Q hQ a J=>?_
 refine Alc fun C w N a J=>?_
 replace N:=N.pl 1
 refine zF call203 (fun w N a J=>?_) (c:=q2y (by omega) N)
 by_cases E:yW t pos=126
 have A:=tO (t:=t) (i:=pos) (by omega)
 refine zF call199 (fun w N a J=>?_) (c:=y8y (p:=yU) (pos:=pos) (k:=1) (fs:=[]) (cs:=[]) call204 (fun c N=>cK N) (by omega) (by omega) N)
 have A:=tO (t:=t) (i:=pos) (by omega)
 have hr_:=kU yU t t.size (pos+1) (by omega)
 have f:vC t pos+xQ t pos=(1+(qB yU t t.size (pos+1))):=by simp [vC,xQ, *]
 refine Qq (fun a J=>?_) (o:=by exact fun J O=>vH (i:=1) (j:=(qB yU t t.size (pos+1))) J rfl rfl (by omega))
 refine zF call203 (fun w N a J=>?_) (c:=z2n (k:=(1+(qB yU t t.size (pos+1)))) (by omega) N)
 refine Reg [1,1,1,1,2,1,1,1,1,2,1,1,1,1,2,1,1,1,1,1,1] [0,1] fun w N a J=>?_
 refine Qq (fun a J=>?_) (o:=by exact fun J O=>vH (i:=(pos+1)) (j:=(qB yU t t.size (pos+1))) J rfl rfl (by omega))
 refine Qq (fun a J=>?_) (o:=by exact fun J O=>aD pos (((pos+1)+(qB yU t t.size (pos+1)))) J rfl runUnderlying9 ⟨_,rfl⟩ ⟨_,rfl⟩ (by omega) (by omega))
 have d:(t.extract pos ((pos+1)+(qB yU t t.size (pos+1))))=wZ t pos:=by unfold wZ;rw [f];simp only [Nat.add_assoc]
 refine zF call220 (fun w N a J=>?_) (c:=z9m (s:=(t.extract pos ((pos+1)+(qB yU t t.size (pos+1))))) (by have h_:=ByteArray.size_extract (a:=t) (b:=pos) (e:=(pos+1)+(qB yU t t.size (pos+1)));omega) G N)
 by_cases n:z9l (t.extract pos ((pos+1)+(qB yU t t.size (pos+1))))=0
 refine nL call210 (fun g w N a J=>?_) (fun g w N a J=>?_) (c:=q1l (wJ _ _) N)
 refine yE fun a J=>?_
 refine Qq (fun a J=>?_) (o:=by exact fun J O=>yM J rfl runUnderlying180 (by intro ms h;cases h))
 refine st0 J rfl rfl (jZ J rfl (xC _) (fun a m=>hQ _ _ _ (zS m ?_)))
 replace N:=N.dl [1,0]
 show Out (sW t pos) _ _
 rw [aT,f,<- d,if_pos n,if_pos (.inl g)];exact ⟨rfl,N⟩
 by_cases y:yW t (pos+(1+(qB yU t t.size (pos+1))))=39
 refine yE fun a J=>?_
 refine Qq (fun a J=>?_) (o:=by exact fun J O=>yM J rfl runUnderlying180 (by intro ms h;cases h))
 refine st0 J rfl rfl (jZ J rfl (xC _) (fun a m=>hQ _ _ _ (zS m ?_)))
 replace N:=N.dl [1,0]
 show Out (sW t pos) _ _
 rw [aT,f,<- d,if_pos n,if_pos (.inr y)];exact ⟨rfl,N⟩
 refine yE fun a J=>?_
 refine Sto 1 fun w N a J=>?_
 refine go fun a J=>?_
 have v:=N
 replace N:=N.dl [1]
 refine kE (N:=v) ?_
 show Out (sW t pos) _ _
 rw [aT,f,<- d,if_pos n,if_neg (fun u=>u.elim (fun h_=>absurd (h_.symm.trans g) (by decide)) y)];exact ⟨rfl,N⟩
 refine yE fun a J=>?_
 refine Qq (fun a J=>?_) (o:=by exact fun J O=>yM J rfl runUnderlying180 (by intro ms h;cases h))
 refine st0 J rfl rfl (jZ J rfl (xC _) (fun a m=>hQ _ _ _ (zS m ?_)))
 replace N:=N.dl [1,0]
 show Out (sW t pos) _ _
 rw [aT,f,<- d,if_neg n];exact ⟨rfl,N⟩
 refine zF call199 (fun w N a J=>?_) (c:=y8x (p:=yU) (pos:=pos) (fs:=[]) (cs:=[]) call204 (fun c N=>cK N) (by omega) (by omega) N)
 have hr_:=kU yU t t.size pos B
 have f:vC t pos+xQ t pos=(0+(qB yU t t.size pos)):=by simp [vC,xQ, *]
 refine Qq (fun a J=>?_) (o:=by exact fun J O=>vH (i:=0) (j:=(qB yU t t.size pos)) J rfl rfl (by omega))
 refine zF call203 (fun w N a J=>?_) (c:=z2n (k:=(0+(qB yU t t.size pos))) (by omega) N)
 refine Reg [1,1,1,1,2,1,1,1,1,2,1,1,1,1,2,1,1,1,1,1,1] [0,1] fun w N a J=>?_
 refine Qq (fun a J=>?_) (o:=by exact fun J O=>vH (i:=pos) (j:=0) J rfl rfl (by omega))
 refine Qq (fun a J=>?_) (o:=by exact fun J O=>vH (i:=(pos+0)) (j:=(qB yU t t.size pos)) J rfl rfl (by omega))
 refine Qq (fun a J=>?_) (o:=by exact fun J O=>aD pos (((pos+0)+(qB yU t t.size pos))) J rfl runUnderlying9 ⟨_,rfl⟩ ⟨_,rfl⟩ (by omega) (by omega))
 have d:(t.extract pos ((pos+0)+(qB yU t t.size pos)))=wZ t pos:=by unfold wZ;rw [f];simp only [Nat.add_assoc]
 refine zF call220 (fun w N a J=>?_) (c:=z9m (s:=(t.extract pos ((pos+0)+(qB yU t t.size pos)))) (by have h_:=ByteArray.size_extract (a:=t) (b:=pos) (e:=(pos+0)+(qB yU t t.size pos));omega) G N)
 by_cases r:z9l (t.extract pos ((pos+0)+(qB yU t t.size pos)))=0
 refine nL call210 (fun l w N a J=>?_) (fun l w N a J=>?_) (c:=q1l (wJ _ _) N)
 refine yE fun a J=>?_
 refine Qq (fun a J=>?_) (o:=by exact fun J O=>yM J rfl runUnderlying180 (by intro ms h;cases h))
 refine st0 J rfl rfl (jZ J rfl (xC _) (fun a m=>hQ _ _ _ (zS m ?_)))
 replace N:=N.dl [1,0]
 show Out (sW t pos) _ _
 rw [aT,f,<- d,if_pos r,if_pos (.inl l)];exact ⟨rfl,N⟩
 by_cases z:yW t (pos+(0+(qB yU t t.size pos)))=39
 refine yE fun a J=>?_
 refine Qq (fun a J=>?_) (o:=by exact fun J O=>yM J rfl runUnderlying180 (by intro ms h;cases h))
 refine st0 J rfl rfl (jZ J rfl (xC _) (fun a m=>hQ _ _ _ (zS m ?_)))
 replace N:=N.dl [1,0]
 show Out (sW t pos) _ _
 rw [aT,f,<- d,if_pos r,if_pos (.inr z)];exact ⟨rfl,N⟩
 refine yE fun a J=>?_
 refine Sto 1 fun w N a J=>?_
 refine go fun a J=>?_
 have v:=N
 replace N:=N.dl [1]
 refine kE (N:=v) ?_
 show Out (sW t pos) _ _
 rw [aT,f,<- d,if_pos r,if_neg (fun u=>u.elim (fun h_=>absurd (h_.symm.trans l) (by decide)) z)];exact ⟨rfl,N⟩
 refine yE fun a J=>?_
 refine Qq (fun a J=>?_) (o:=by exact fun J O=>yM J rfl runUnderlying180 (by intro ms h;cases h))
 refine st0 J rfl rfl (jZ J rfl (xC _) (fun a m=>hQ _ _ _ (zS m ?_)))
 replace N:=N.dl [1,0]
 show Out (sW t pos) _ _
 rw [aT,f,<- d,if_neg r];exact ⟨rfl,N⟩
end
theorem x2o {Φ:Fz} {K:List Res} {w:World} {t:Bs} {pos b mb:Nat} {cv:Value} (G:Glob Φ) (E:MapAt Φ mb wordsM) (h1:pos < t.size) (h2:t.size<=800000) (N:Mem Φ (.blk b (ob [.string t,.int .i64 pos,.map (some mb),cv] 235)::K) w) :
  Calls prog 181 #[.pointer (some ⟨b,0,none⟩)] w (fun ee w'=>Out (zV t pos) (fun q=>ee=.returned (y0x q)/\Mem Φ (.blk b (ob [.string t,.int .i64 pos,.map (some mb),cv] 235)::K) w') (fun c=>ee=.panicked (dW c)/\Mem Φ K w')):=by
 refine zJ func181 ntmps181 fun Q hQ a J=>?_
 refine Alc fun b2 w N a J=>?_
 refine go fun a J=>?_
 have U:yU 39=false:=rfl
 have V:nD 39=false:=rfl
 have W:dR 39=false:=rfl
 have X:z5j 39=false:=rfl
 replace N:=N.pl 1
 refine zF call203 (fun w N a J=>?_) (c:=q2y (by omega) N)
 refine nL call204 (fun Y w N a J=>?_) (fun Y w N a J=>?_) (c:=j3y (wJ _ _) N)
 refine yG call205 (fun q9 w f N a J=>?_) (fun q9 w f N=>?_) (c:=y3x (pos:=pos) G (by omega) (by omega) N)
 refine Sto 1 fun w N a J=>?_
 refine go fun a J=>?_
 have d:=N
 replace N:=N.dl [1]
 refine kE (N:=d) ?_
 show Out (zV t pos) _ _
 rw [show zV t pos=sW t pos by simp [zV, *],f];exact ⟨rfl,N⟩
 replace N:=N.dl [0]
 show Out (zV t pos) _ _
 rw [show zV t pos=sW t pos by simp [zV, *],f];exact ⟨rfl,N⟩
 by_cases j0:yW t pos=126
 refine yG call205 (fun a0 w g N a J=>?_) (fun a0 w g N=>?_) (c:=y3x (pos:=pos) G (by omega) (by omega) N)
 refine Sto 1 fun w N a J=>?_
 refine go fun a J=>?_
 have d:=N
 replace N:=N.dl [1]
 refine kE (N:=d) ?_
 show Out (zV t pos) _ _
 rw [show zV t pos=sW t pos by simp [zV, *],g];exact ⟨rfl,N⟩
 replace N:=N.dl [0]
 show Out (zV t pos) _ _
 rw [show zV t pos=sW t pos by simp [zV, *],g];exact ⟨rfl,N⟩
 refine nL call206 (fun L w N a J=>?_) (fun L w N a J=>?_) (c:=y3l (wJ _ _) N)
 refine yG call207 (fun b0 w i N a J=>?_) (fun b0 w i N=>?_) (c:=j0k (pos:=pos) (kd:=2) E (by omega) (by omega) N)
 refine Sto 1 fun w N a J=>?_
 refine go fun a J=>?_
 have d:=N
 replace N:=N.dl [1]
 refine kE (N:=d) ?_
 show Out (zV t pos) _ _
 rw [show zV t pos=kK t pos 2 by simp [zV, *],i];exact ⟨rfl,N⟩
 replace N:=N.dl [0]
 show Out (zV t pos) _ _
 rw [show zV t pos=kK t pos 2 by simp [zV, *],i];exact ⟨rfl,N⟩
 refine nL call208 (fun M w N a J=>?_) (fun M w N a J=>?_) (c:=j3z (wJ _ _) N)
 refine yG call207 (fun c0 w j N a J=>?_) (fun c0 w j N=>?_) (c:=j0k (pos:=pos) (kd:=3) E (by omega) (by omega) N)
 refine Sto 1 fun w N a J=>?_
 refine go fun a J=>?_
 have d:=N
 replace N:=N.dl [1]
 refine kE (N:=d) ?_
 show Out (zV t pos) _ _
 rw [show zV t pos=kK t pos 3 by simp [zV, *],j];exact ⟨rfl,N⟩
 replace N:=N.dl [0]
 show Out (zV t pos) _ _
 rw [show zV t pos=kK t pos 3 by simp [zV, *],j];exact ⟨rfl,N⟩
 by_cases T:yW t pos=39
 refine zF call203 (fun w N a J=>?_) (c:=z2n (k:=1) (by omega) N)
 refine nL call206 (fun P w N a J=>?_) (fun P w N a J=>?_) (c:=y3l (wJ _ _) N)
 refine zF call199 (fun w N a J=>?_) (c:=y8y (p:=qQ) (pos:=pos) (k:=1) (fs:=[]) (cs:=[]) call210 (fun c N=>z3w N) (by omega) (by omega) N)
 refine Qq (fun a J=>?_) (o:=by exact fun J O=>tJ (((1+(qB qQ t t.size (pos+1))):Nat):Int) J rfl rfl (by have hr_:=kU qQ t t.size (pos+1) (by omega);rw [cU (by omega)];omega))
 refine yG call209 (fun d0 w l N a J=>?_) (fun d0 w l N=>?_) (c:=aS (pos:=pos) (kd:=4) (n:=(1+(qB qQ t t.size (pos+1)))) (by have hr_:=kU qQ t t.size (pos+1) (by omega);omega) (by omega) N)
 refine Sto 1 fun w N a J=>?_
 refine go fun a J=>?_
 have d:=N
 replace N:=N.dl [1]
 refine kE (N:=d) ?_
 show Out (zV t pos) _ _
 rw [show zV t pos=vO t pos 4 (1+(qB qQ t t.size (pos+1))) by simp [zV, *],l];exact ⟨rfl,N⟩
 replace N:=N.dl [0]
 show Out (zV t pos) _ _
 rw [show zV t pos=vO t pos 4 (1+(qB qQ t t.size (pos+1))) by simp [zV, *],l];exact ⟨rfl,N⟩
 refine nL call201 (fun A w N a J=>?_) (fun A w N a J=>?_) (c:=nE (s:=(⟨#[61,62]⟩:Bs)) (by omega) N)
 refine yG call209 (fun e0 w m N a J=>?_) (fun e0 w m N=>?_) (c:=aS (pos:=pos) (kd:=6) (n:=2) (by have h_:=jS A;have S:(⟨#[61,62]⟩:Bs).size=2:=rfl;have F:(⟨#[45,62]⟩:Bs).size=2:=rfl;omega) (by omega) N)
 refine Sto 1 fun w N a J=>?_
 refine go fun a J=>?_
 have d:=N
 replace N:=N.dl [1]
 refine kE (N:=d) ?_
 show Out (zV t pos) _ _
 rw [show zV t pos=vO t pos 6 2 by simp [zV, *],m];exact ⟨rfl,N⟩
 replace N:=N.dl [0]
 show Out (zV t pos) _ _
 rw [show zV t pos=vO t pos 6 2 by simp [zV, *],m];exact ⟨rfl,N⟩
 refine nL call201 (fun B w N a J=>?_) (fun B w N a J=>?_) (c:=nE (s:=(⟨#[45,62]⟩:Bs)) (by omega) N)
 refine yG call209 (fun f0 w r N a J=>?_) (fun f0 w r N=>?_) (c:=aS (pos:=pos) (kd:=6) (n:=2) (by have h_:=jS B;have S:(⟨#[61,62]⟩:Bs).size=2:=rfl;have F:(⟨#[45,62]⟩:Bs).size=2:=rfl;omega) (by omega) N)
 refine Sto 1 fun w N a J=>?_
 refine go fun a J=>?_
 have d:=N
 replace N:=N.dl [1]
 refine kE (N:=d) ?_
 show Out (zV t pos) _ _
 rw [show zV t pos=vO t pos 6 2 by simp [zV, *],r];exact ⟨rfl,N⟩
 replace N:=N.dl [0]
 show Out (zV t pos) _ _
 rw [show zV t pos=vO t pos 6 2 by simp [zV, *],r];exact ⟨rfl,N⟩
 refine zF call211 (fun w N a J=>?_) (c:=z2a N)
 have e:=j0w (yW t pos) (wJ t pos)
 by_cases H:0<=Lib.indexByte (⟨#[40,41,44,59,58,124,61,60,43,45,42,47,37,95]⟩:Bs).data.toList (((yW t pos:Nat):Int).toNat.toUInt8)
 refine go fun a J=>?_
 have z:z5j (yW t pos)=true:=by rw [<- e];exact decide_eq_true H
 rw [T] at z
 cases z
 refine yE fun a J=>?_
 refine Qq (fun a J=>?_) (o:=by exact fun J O=>yM J rfl runUnderlying180 (by intro ms h;cases h))
 refine st0 J rfl rfl (jZ J rfl (xC _) (fun a Z=>hQ _ _ _ (zS Z ?_)))
 replace N:=N.dl [1,0]
 have R:z5j (yW t pos)=false:=by rw [<- e];exact decide_eq_false H
 show Out (zV t pos) _ _
 rw [show zV t pos=.error (pos,11) by simp [zV, *]];exact ⟨rfl,N⟩
 refine nL call201 (fun C w N a J=>?_) (fun C w N a J=>?_) (c:=nE (s:=(⟨#[61,62]⟩:Bs)) (by omega) N)
 refine yG call209 (fun g0 w u N a J=>?_) (fun g0 w u N=>?_) (c:=aS (pos:=pos) (kd:=6) (n:=2) (by have h_:=jS C;have S:(⟨#[61,62]⟩:Bs).size=2:=rfl;have F:(⟨#[45,62]⟩:Bs).size=2:=rfl;omega) (by omega) N)
 refine Sto 1 fun w N a J=>?_
 refine go fun a J=>?_
 have d:=N
 replace N:=N.dl [1]
 refine kE (N:=d) ?_
 show Out (zV t pos) _ _
 rw [show zV t pos=vO t pos 6 2 by simp [zV, *],u];exact ⟨rfl,N⟩
 replace N:=N.dl [0]
 show Out (zV t pos) _ _
 rw [show zV t pos=vO t pos 6 2 by simp [zV, *],u];exact ⟨rfl,N⟩
 refine nL call201 (fun D w N a J=>?_) (fun D w N a J=>?_) (c:=nE (s:=(⟨#[45,62]⟩:Bs)) (by omega) N)
 refine yG call209 (fun h0 w v N a J=>?_) (fun h0 w v N=>?_) (c:=aS (pos:=pos) (kd:=6) (n:=2) (by have h_:=jS D;have S:(⟨#[61,62]⟩:Bs).size=2:=rfl;have F:(⟨#[45,62]⟩:Bs).size=2:=rfl;omega) (by omega) N)
 refine Sto 1 fun w N a J=>?_
 refine go fun a J=>?_
 have d:=N
 replace N:=N.dl [1]
 refine kE (N:=d) ?_
 show Out (zV t pos) _ _
 rw [show zV t pos=vO t pos 6 2 by simp [zV, *],v];exact ⟨rfl,N⟩
 replace N:=N.dl [0]
 show Out (zV t pos) _ _
 rw [show zV t pos=vO t pos 6 2 by simp [zV, *],v];exact ⟨rfl,N⟩
 refine zF call211 (fun w N a J=>?_) (c:=z2a N)
 have e:=j0w (yW t pos) (wJ t pos)
 by_cases I:0<=Lib.indexByte (⟨#[40,41,44,59,58,124,61,60,43,45,42,47,37,95]⟩:Bs).data.toList (((yW t pos:Nat):Int).toNat.toUInt8)
 have z:z5j (yW t pos)=true:=by rw [<- e];exact decide_eq_true I
 refine yG call209 (fun i0 w y N a J=>?_) (fun i0 w y N=>?_) (c:=aS (pos:=pos) (kd:=6) (n:=1) (by have hr_:=kU qQ t t.size (pos+1) (by omega);omega) (by omega) N)
 refine Sto 1 fun w N a J=>?_
 refine go fun a J=>?_
 have d:=N
 replace N:=N.dl [1]
 refine kE (N:=d) ?_
 show Out (zV t pos) _ _
 rw [show zV t pos=vO t pos 6 1 by simp [zV, *],y];exact ⟨rfl,N⟩
 replace N:=N.dl [0]
 show Out (zV t pos) _ _
 rw [show zV t pos=vO t pos 6 1 by simp [zV, *],y];exact ⟨rfl,N⟩
 refine yE fun a J=>?_
 refine Qq (fun a J=>?_) (o:=by exact fun J O=>yM J rfl runUnderlying180 (by intro ms h;cases h))
 refine st0 J rfl rfl (jZ J rfl (xC _) (fun a Z=>hQ _ _ _ (zS Z ?_)))
 replace N:=N.dl [1,0]
 have R:z5j (yW t pos)=false:=by rw [<- e];exact decide_eq_false I
 show Out (zV t pos) _ _
 rw [show zV t pos=.error (pos,11) by simp [zV, *]];exact ⟨rfl,N⟩
theorem y1v {Φ:Fz} {K:List Res} {w:World} {t:Bs} (N:Mem Φ K w) :
  Calls prog 142 #[.string t] w (fun ee w'=>∃y:Nat×Nat,ee=.returned (.pointer (some ⟨y.1,0,none⟩))/\True/\Mem Φ (.blk y.1 (ob [.string t,.int .i64 ((0:Nat):Int),.map (some y.2),.slice none 0 0] 235)::.mp y.2 wordsM::K) w'):=by
 refine zJ func142 ntmps142 fun Q hQ a J=>?_
 refine yE fun a J=>?_
 refine MkM fun f w N a J=>?_
 refine BldT fun a J=>?_
 refine Bx fun k w N a J=>?_
 refine yE fun a J=>?_
 refine go fun a J=>?_
 refine qD (J.ks [3,11]) N (fun R mm a w=>∃(i:Nat),mm=15 - i/\R Φ [(12,.int .i64 i)] [(1,.mp f (wordsM.take i))] a w/\(True)) (15 - 0) ⟨0,rfl,⟨J.pk,N⟩,trivial⟩ ?_
 clear N J
 rintro mm a w ⟨i,e,⟨J,N⟩,g⟩ j d
 replace N:=N.nf
 by_cases c:i < 15
 obtain ⟨h,b⟩:=zW (l:=wordsL) (i:=i) c
 refine Qq (fun a J=>?_) (o:=by exact fun J O=>q4l i 15 (cs:=strs wordsL) J rfl rfl runUnderlying236 sizeOf9 isAgg9 rfl (by rw [strs,List.getElem?_map,b];rfl))
 refine uF 1 runUnderlying98 runUnderlying9 fun w N a J=>?_
 rw [show Value.int .i64 5=.int .i64 ((5:Nat):Int) from rfl,j5l b] at N
 refine go fun a J=>?_
 refine d _ _ _ (by subst e;omega) ⟨(i+1),rfl,⟨J.pk,N⟩,?_⟩
 trivial
 refine yK ?_
 rw [q8h c] at N
 exact ⟨(_,_),rfl,trivial,N⟩
theorem j5i {Φ:Fz} {K:List Res} {w:World} {b:Nat} (N:Mem Φ K w) :
  Calls prog 144 #[.pointer (some ⟨b,0,none⟩)] w (fun ee w'=>∃y:Nat,ee=.returned (.func (.func 179) #[] #[.pointer (some ⟨y,0,none⟩)])/\True/\Mem Φ (.blk y (ob [.pointer (some ⟨b,0,none⟩)] 178)::K) w'):=by
 refine zJ func144 ntmps144 fun Q hQ a J=>?_
 refine Bx fun c w N a J=>?_
 refine yK ?_
 exact ⟨_,rfl,trivial,N⟩
theorem q8b {β:Type} {Φ:Fz} {w:World} {t:Bs} {bx b mb l:Nat} {KY:List Tok->β->List Res} {z:β} (G:Glob Φ) (B:MapAt Φ mb wordsM) (V:t.size<=800000)
  (W:∀pre z K0 (k:Tok) w,pre.length < t.size->Mem Φ (K0++KY pre z) w->YieldAt Fence.wide 2 prog l #[y0x k] w (fun e w'=>e=.returned (.bool true)/\∃z',Mem Φ (K0++KY (pre++[k]) z') w'))
  (N:Mem Φ (.blk bx (ob [.pointer (some ⟨b,0,none⟩)] 178)::.blk b (ob [.string t,.int .i64 ((0:Nat):Int),.map (some mb),.slice none 0 0] 235)::KY [] z) w) :
  Calls prog 179 #[.func (.yield l) #[] #[],.pointer (some ⟨bx,0,none⟩)] w (fun ee w'=>Out (pC t) (fun r=>∃y:β,ee=.returned (.tuple #[])/\Mem Φ (KY r y) w') (fun c=>∃y:List Tok×β,ee=.panicked (dW c)/\Mem Φ (KY y.1 y.2) w')):=by
 refine zJ func179 ntmps179 fun Q hQ a J=>?_
 refine go fun a J=>?_
 replace N:=N.nilRow 260 2
 replace N:=N.nf
 replace N:=N.pl 2
 refine cZ call180 (fun E T w q F N a J=>?_) (fun E w q N=>?_) (c:=j0o (pos:=0) (by omega) (by omega) (Nat.zero_le _) N)
 replace N:=N.nf
 have n:=z9t (by omega) q
 refine go fun a J=>?_
 refine pX (fun mm a w=>∃(i:Nat) (pre:List Tok) (u:Value) (ds:List Value) (z0:β),mm=t.size - i/\EnvR 38 [(0,.func (.yield l) #[] #[]),(1,.pointer (some ⟨bx,0,none⟩))] [] a/\Mem Φ (.blk b (ob [.string t,.int .i64 i,.map (some mb),u] 235)::.gs (u) 260 2 ds::.blk bx (ob [.pointer (some ⟨b,0,none⟩)] 178)::KY pre z0) w/\(i<=t.size/\ds.length<=2 * i/\pre.length<=i/\pC t=z9x pre (z3b t i))) (t.size - E) ⟨E,[],T.1,T.2,z,rfl,J.pk,N,⟨n.2,F,Nat.zero_le _,(q2z _).symm.trans (y4w (Nat.zero_le _) q)⟩⟩ ?_
 clear N J
 rintro mm a w ⟨i,pre,u,ds,z0,L,J,N,H⟩ X K
 obtain ⟨M,P,R,p⟩:=H
 refine Reg [2,1,1,1,2,2,1,1,1,2,1,1] [0,1,2] fun w N a J=>?_
 by_cases m:i < t.size
 refine yG call181 (fun d w f N a J=>?_) (fun d w f N=>?_) (c:=x2o (pos:=i) G B m V N)
 have S:=q4b m f
 refine Alc fun U w N a J=>?_
 refine Sto 0 fun w N a J=>?_
 refine Reg [2,1,1,1,2,1,2,1,1,1,1,1,0] [0,1,2,3] fun w N a J=>?_
 refine Qq (fun a J=>?_) (o:=by exact fun J O=>vH (i:=i) (j:=d.text.size) J rfl rfl (by omega))
 refine Sto 1 fun w N a J=>?_
 refine go1 fun a J=>?_
 refine mQ ?_
 refine zH J (by intro c h;cases h) (yX J rfl) rfl fun a J=>?_
 refine zH J (by intro c h;cases h) (qA 0 (vs:=[.int .i64 (d.kind),.int .i64 (d.num),.string d.text,.int .i64 d.org]) J N.toSees rfl rfl isAgg204 sizeOf204 rfl rfl) rfl fun a J=>?_
 replace N:=N.dl [0]
 refine x0a (v:=y0x d) J rfl rfl rfl (W pre z0 [.blk b (ob [.string t,.int .i64 (((i+d.text.size):Nat):Int),.map (some mb),u] 235),.gs (u) 260 2 ds,.blk bx (ob [.pointer (some ⟨b,0,none⟩)] 178)] d w (by omega) N) fun w I a J=>?_
 obtain ⟨D,N⟩:=I
 replace N:=N.nf
 refine zH J (by intro c h;cases h) (z5v J rfl) rfl fun a J=>?_
 refine wpListIn_nil ?_
 replace N:=N.ar [] [1,1]
 refine cZ call180 (fun s C w g A N a J=>?_) (fun s w g N=>?_) (c:=j0o (pos:=(i+d.text.size)) (by omega) (by omega) (by omega) N)
 replace N:=N.nf
 have n:=z9t (by omega) g
 refine go fun a J=>?_
 refine K _ _ _ (by subst L;omega) ⟨(s),(pre++[d]),(C.1),(C.2),(D),rfl,J.pk,N,?_⟩
 exact ⟨n.2,A,by simp only [laQ,lcQ,lnQ];omega,by rw [p,y4y m f,y4w (by omega) g]⟩
 replace N:=N.dl [0]
 have hr_:pC t=.error s:=by
  rw [p,y4y m f,y4x (by omega) g]
 show Out (pC t) _ _
 rw [hr_];exact ⟨(pre++[d],D),rfl,N⟩
 replace N:=N.dl [1,0]
 have hr_:pC t=.error d:=by
  rw [p,j5j m f]
 show Out (pC t) _ _
 rw [hr_];exact ⟨(pre,z0),rfl,N⟩
 refine go fun a J=>?_
 replace N:=N.dl [2,1,0]
 refine hQ _ _ _ (yP J results179 ?_)
 show Out (pC t) _ _
 rw [p,x2q m];exact ⟨z0,rfl,N⟩
 replace N:=N.dl [0]
 have hr_:pC t=.error E:=by
  exact (q2z _).symm.trans (y4x (Nat.zero_le _) q)
 show Out (pC t) _ _
 rw [hr_];exact ⟨([],z),rfl,N⟩
end Go.Sw
