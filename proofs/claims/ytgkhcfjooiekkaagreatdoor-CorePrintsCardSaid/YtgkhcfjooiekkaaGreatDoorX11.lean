import Derived.Test.YtgkhcfjooiekkaaGreatDoorX10
set_option linter.unusedVariables false
set_option linter.unusedSimpArgs false
namespace Go.Sw
open Go.Proofs.Tryz
open Go.Proofs
set_option maxRecDepth 20000
set_option maxHeartbeats 4000000
variable {V:Fz} {K:List Res} {w:World}
theorem x3j {b off cap:Nat} {arr:Array Value} {l:List Bs} {sep:Bs} (hq:QAt off cap arr l) (hb:pW l+sep.size * l.length<=70368744177664) (N:Mem V (qblk b arr::K) w) :
  Calls prog 67 #[qval b off cap l,.string sep] w (fun ee w'=>ee=.returned (.string (pE sep l))/\Mem V (qblk b arr::K) w'):=by
 have z0:l.length<=9223372036854775807:=Nat.le_trans hq.fits (by have h_:=hq.max;simpa [maxLen] using h_)
 have y0:(l.drop 1).length<=l.length:=by rw [List.length_drop];omega
 refine zM func67 ntmps67 fun Q hQ a J=>?_
 by_cases h5:l.length=0
 refine zF ?_
 have e_:l=[]:=List.eq_nil_of_length_eq_zero h5
 subst e_
 exact ⟨rfl,N⟩
 by_cases h8:l.length=1
 have H:=h8
 have Y:0 < l.length:=by omega
 obtain ⟨J0,G⟩:=qR Y
 refine Qq (fun a J=>?_) (o:=by exact fun J O=>dG 0 0 J O hq rfl rfl G isAgg9)
 refine zF ?_
 obtain ⟨y_,e_⟩:∃y_,l=[y_]:=by
  cases l with
  | nil=>simp at H
  | cons a r=>cases r with
   | nil=>exact ⟨a,rfl⟩
   | cons b r=>simp at H
 subst e_
 have P:=G
 simp at P
 subst P
 exact ⟨rfl,N⟩
 by_cases G0:0 < sep.size
 refine Qq (fun a J=>?_) (o:=by exact fun J O=>vY (((l.length - 1):Nat):Int) J rfl rfl (by rw [yD (by omega)];omega))
 refine Qq (fun a J=>?_) (o:=by exact fun J O=>y_quo _ J rfl rfl (by omega) rfl)
 have n0:¬IntKind.i64.wrap ((9223372036854775807:Int).tdiv (((l.length - 1):Nat):Int))<=((sep.size:Nat):Int):=quo_big (by omega) (by omega) (by have h_:=Nat.mul_le_mul_left sep.size (show l.length - 1<=l.length by omega);omega)
 refine Qq (fun a J=>?_) (o:=by exact fun J O=>vY (((l.length - 1):Nat):Int) J rfl rfl (by rw [yD (by omega)];omega))
 refine Qq (fun a J=>?_) (o:=by exact fun J O=>y_mul (((sep.size * (l.length - 1)):Nat):Int) J rfl rfl (by rw [<- Int.natCast_mul];exact yD (by have h_:=Nat.mul_le_mul_left sep.size (show l.length - 1<=l.length by omega);omega)))
 refine Qq (fun a J=>?_) (o:=by exact fun J O=>pI (i:=0) (j:=(sep.size * (l.length - 1))) J rfl rfl (by have h_:=Nat.mul_le_mul_left sep.size (show l.length - 1<=l.length by omega);omega))
 have p:(0+(sep.size * (l.length - 1)))<=sep.size * l.length+pW (l.take 0):=by have h_:=Nat.mul_le_mul_left sep.size (show l.length - 1<=l.length by omega);omega
 refine go fun a J=>?_
 refine mW (fun mm a w=>∃(i:Nat) (n:Nat),mm=l.length - i/\EnvR 75 [(0,qval b off cap l),(1,.string sep),(5,.int .i64 ((n:Nat):Int)),(39,qval b off cap l),(40,.int .i64 ((l.length:Nat):Int)),(41,.int .i64 ((i:Nat):Int))] [] a/\Mem V (qblk b arr::K) w/\(n<=sep.size * l.length+pW (l.take i))) (l.length - 0) ⟨0,(0+(sep.size * (l.length - 1))),rfl,J.pk,N,p⟩ ?_
 clear N J
 rintro mm a w ⟨i,n,f,J,N,E⟩ C0 T
 by_cases j0:i < l.length
 obtain ⟨C,u⟩:=qR j0
 refine Qq (fun a J=>?_) (o:=by exact fun J O=>dG 0 i J O hq rfl rfl u isAgg9)
 have Z:n+C.size<=140737488355328:=by have M:=E;have d:=cP l i;have e:=cO u;omega
 refine Qq (fun a J=>?_) (o:=by exact fun J O=>vY (((9223372036854775807 - n):Nat):Int) J rfl rfl (by rw [yD (by omega)];omega))
 have a0:¬(9223372036854775807 - n) < C.size:=by omega
 refine Qq (fun a J=>?_) (o:=by exact fun J O=>pI (i:=n) (j:=C.size) J rfl rfl (by omega))
 refine go fun a J=>?_
 refine T _ _ _ (by subst f;omega) ⟨(i+1),((n+C.size)),rfl,J.pk,N,?_⟩
 rw [y9y u];omega
 refine Alc fun I w N a J=>?_
 refine qO call119 (fun K0 w r0 N a J=>?_) (c:=q5p (n:=n) (by have d:=E;have e:=cP l i;omega) N)
 replace N:=N.nf
 have k:0 < l.length:=by omega
 obtain ⟨d0,v⟩:=qR k
 refine Qq (fun a J=>?_) (o:=by exact fun J O=>dG 2 0 J O hq rfl rfl v isAgg9)
 replace N:=N.ar [] [1,1]
 refine qO call68 (fun o0 w s0 N a J=>?_) (c:=yJ (t:=⟨#[]⟩) (s:=d0) (.inr rfl) (by have M:(⟨#[]⟩:Bs).size=0:=rfl;have d:=cP l 0;have e:=cO v;omega) N)
 replace N:=N.nf
 have b0:=hq.tail k
 refine Qq (fun a J=>?_) (o:=by exact fun J O=>z8n J hq rfl rfl runUnderlying25 sizeOf9 k)
 refine go fun a J=>?_
 refine mW (fun mm a w=>∃(i:Nat) (bv:Value) (acc:Bs),mm=(l.drop 1).length - i/\EnvR 75 [(1,.string sep),(8,.pointer (some ⟨I,0,none⟩)),(63,qval b (y4r off cap) (cap - 1) (l.drop 1)),(64,.int .i64 (((l.drop 1).length:Nat):Int)),(65,.int .i64 ((i:Nat):Int))] [] a/\Mem V (.blk I (ob [.pointer (some ⟨I,0,none⟩),bv] 130)::.gs (bv) 5 1 (Lib.strCells acc)::qblk b arr::K) w/\(pE sep l=((l.drop 1).drop i).foldl (fun a s=>a++sep++s) acc/\acc.size+pW ((l.drop 1).drop i)+sep.size * ((l.drop 1).length - i)<=70368744177664)) ((l.drop 1).length - 0) ⟨0,o0,(⟨#[]⟩++d0),rfl,J.pk,N,(y9s v hb)⟩ ?_
 clear N J
 rintro mm a w ⟨i,bv,acc,f,J,N,g⟩ D0 U
 obtain ⟨g,q⟩:=g
 refine go fun a J=>?_
 by_cases R:i < (l.drop 1).length
 obtain ⟨e0,y⟩:=qR R
 refine Qq (fun a J=>?_) (o:=by exact fun J O=>dG 2 i J O b0 rfl rfl y isAgg9)
 replace N:=N.ar [] [1,1]
 refine qO call68 (fun L0 w t0 N a J=>?_) (c:=yJ (t:=acc) (s:=sep) (.inr rfl) (by have d:sep.size<=sep.size * ((l.drop 1).length - i):=Nat.le_mul_of_pos_right _ (by omega);omega) N)
 replace N:=N.nf
 replace N:=N.ar [] [1,1]
 refine qO call68 (fun p0 w u0 N a J=>?_) (c:=yJ (t:=(acc++sep)) (s:=e0) (.inr rfl) (by have d:sep.size<=sep.size * ((l.drop 1).length - i):=Nat.le_mul_of_pos_right _ (by omega);have e:=cO y;rw [zB];omega) N)
 replace N:=N.nf
 refine go fun a J=>?_
 refine U _ _ _ (by subst f;omega) ⟨(i+1),(p0),(((acc++sep)++e0)),rfl,J.pk,N,?_⟩
 exact y9t y g q
 replace N:=N.ar [] [1,1]
 refine zS call72 (fun w N a J=>?_) (c:=cK (t:=acc) N)
 replace N:=N.nf
 refine zF ?_
 rw [g,zE R]
 exact ⟨rfl,N⟩
 have p:0<=sep.size * l.length+pW (l.take 0):=by have h_:=Nat.mul_le_mul_left sep.size (show l.length - 1<=l.length by omega);omega
 refine go fun a J=>?_
 refine mW (fun mm a w=>∃(i:Nat) (n:Nat),mm=l.length - i/\EnvR 75 [(0,qval b off cap l),(1,.string sep),(5,.int .i64 ((n:Nat):Int)),(39,qval b off cap l),(40,.int .i64 ((l.length:Nat):Int)),(41,.int .i64 ((i:Nat):Int))] [] a/\Mem V (qblk b arr::K) w/\(n<=sep.size * l.length+pW (l.take i))) (l.length - 0) ⟨0,0,rfl,J.pk,N,p⟩ ?_
 clear N J
 rintro mm a w ⟨i,n,f,J,N,F⟩ E0 W
 by_cases k0:i < l.length
 obtain ⟨D,z⟩:=qR k0
 refine Qq (fun a J=>?_) (o:=by exact fun J O=>dG 0 i J O hq rfl rfl z isAgg9)
 have Z:n+D.size<=140737488355328:=by have M:=F;have d:=cP l i;have e:=cO z;omega
 refine Qq (fun a J=>?_) (o:=by exact fun J O=>vY (((9223372036854775807 - n):Nat):Int) J rfl rfl (by rw [yD (by omega)];omega))
 have a0:¬(9223372036854775807 - n) < D.size:=by omega
 refine Qq (fun a J=>?_) (o:=by exact fun J O=>pI (i:=n) (j:=D.size) J rfl rfl (by omega))
 refine go fun a J=>?_
 refine W _ _ _ (by subst f;omega) ⟨(i+1),((n+D.size)),rfl,J.pk,N,?_⟩
 rw [y9y z];omega
 refine Alc fun L w N a J=>?_
 refine qO call119 (fun M0 w w0 N a J=>?_) (c:=q5p (n:=n) (by have d:=F;have e:=cP l i;omega) N)
 replace N:=N.nf
 have m:0 < l.length:=by omega
 obtain ⟨f0,A⟩:=qR m
 refine Qq (fun a J=>?_) (o:=by exact fun J O=>dG 2 0 J O hq rfl rfl A isAgg9)
 replace N:=N.ar [] [1,1]
 refine qO call68 (fun q0 w x0 N a J=>?_) (c:=yJ (t:=⟨#[]⟩) (s:=f0) (.inr rfl) (by have M:(⟨#[]⟩:Bs).size=0:=rfl;have d:=cP l 0;have e:=cO A;omega) N)
 replace N:=N.nf
 have c0:=hq.tail m
 refine Qq (fun a J=>?_) (o:=by exact fun J O=>z8n J hq rfl rfl runUnderlying25 sizeOf9 m)
 refine go fun a J=>?_
 refine mW (fun mm a w=>∃(i:Nat) (bv:Value) (acc:Bs),mm=(l.drop 1).length - i/\EnvR 75 [(1,.string sep),(8,.pointer (some ⟨L,0,none⟩)),(63,qval b (y4r off cap) (cap - 1) (l.drop 1)),(64,.int .i64 (((l.drop 1).length:Nat):Int)),(65,.int .i64 ((i:Nat):Int))] [] a/\Mem V (.blk L (ob [.pointer (some ⟨L,0,none⟩),bv] 130)::.gs (bv) 5 1 (Lib.strCells acc)::qblk b arr::K) w/\(pE sep l=((l.drop 1).drop i).foldl (fun a s=>a++sep++s) acc/\acc.size+pW ((l.drop 1).drop i)+sep.size * ((l.drop 1).length - i)<=70368744177664)) ((l.drop 1).length - 0) ⟨0,q0,(⟨#[]⟩++f0),rfl,J.pk,N,(y9s A hb)⟩ ?_
 clear N J
 rintro mm a w ⟨i,bv,acc,f,J,N,h⟩ F0 X
 obtain ⟨h,q⟩:=h
 refine go fun a J=>?_
 by_cases S:i < (l.drop 1).length
 obtain ⟨g0,B⟩:=qR S
 refine Qq (fun a J=>?_) (o:=by exact fun J O=>dG 2 i J O c0 rfl rfl B isAgg9)
 replace N:=N.ar [] [1,1]
 refine qO call68 (fun A0 w l0 N a J=>?_) (c:=yJ (t:=acc) (s:=sep) (.inr rfl) (by have d:sep.size<=sep.size * ((l.drop 1).length - i):=Nat.le_mul_of_pos_right _ (by omega);omega) N)
 replace N:=N.nf
 replace N:=N.ar [] [1,1]
 refine qO call68 (fun h0 w m0 N a J=>?_) (c:=yJ (t:=(acc++sep)) (s:=g0) (.inr rfl) (by have d:sep.size<=sep.size * ((l.drop 1).length - i):=Nat.le_mul_of_pos_right _ (by omega);have e:=cO B;rw [zB];omega) N)
 replace N:=N.nf
 refine go fun a J=>?_
 refine X _ _ _ (by subst f;omega) ⟨(i+1),(h0),(((acc++sep)++g0)),rfl,J.pk,N,?_⟩
 exact y9t B h q
 replace N:=N.ar [] [1,1]
 refine zS call72 (fun w N a J=>?_) (c:=cK (t:=acc) N)
 replace N:=N.nf
 refine zF ?_
 rw [h,zE S]
 exact ⟨rfl,N⟩
theorem j0n {p:Option Addr} {c:Nat} {sep:Bs} (N:Mem V K w) :
  Calls prog 67 #[.slice p 0 c,.string sep] w (fun ee w'=>ee=.returned (.string ⟨#[]⟩)/\Mem V K w'):=by
 refine zM func67 ntmps67 fun Q hQ a J=>?_
 refine Qq (fun a J=>?_) (o:=by exact fun J O=>vI true J rfl rfl rfl)
 refine zF ?_
 exact ⟨rfl,N⟩
theorem y3n {v:Value} {l:List Bs} {sep:Bs} (hb:pW l+sep.size * l.length<=70368744177664) (N:Mem V (.gs v 9 1 (strs l)::K) w) :
  Calls prog 67 #[v,.string sep] w (fun ee w'=>ee=.returned (.string (pE sep l))/\Mem V K w'):=by
 by_cases hl:l=[]
 subst hl
 obtain ⟨f,d,c0,rfl,c,_⟩:=N.toSees.gsForm (i:=0) rfl
 have a:d=0:=by simpa [strs] using c.symm
 subst a
 exact j0n N.tail
 obtain ⟨b,cap,arr,rfl,hq,N⟩:=y3b (i:=0) N rfl hl
 exact (x3j hq hb N).mono fun e w' h=>⟨h.1,h.2.tail⟩
end Go.Sw

namespace Go.Sw
def jH (l:Tx):Bs:=⟨l.toArray⟩
theorem nV (a b:Tx):jH (a++b)=jH a++jH b:=by
 apply ByteArray.ext
 simp only [jH,ByteArray.data_append]
 apply Array.ext';simp
theorem q3a (s:Bs):jH (tx s)=s:=by
 apply ByteArray.ext;simp [jH,tx]
theorem nW (l:Tx):(jH l).size=l.length:=by
 show l.toArray.size=_;simp
theorem hY (s:Bs):(tx s).length=s.size:=by
 simp only [tx,Array.length_toList];rfl
def wB (e:Ex):Bs:=jH (xG e)
def wsB (l:List Ex):Bs:=jH (writePs l)
theorem z6q {l:List Ex} {i:Nat} {x:Ex} (h:l[i]? = some x):writePs (l.drop i)=32::xG x++writePs (l.drop (i+1)):=by rw [zA h];rfl
theorem q8r {l:List Ex} {i:Nat} (h:¬i < l.length):writePs (l.drop i)=[]:=by rw [zE h];rfl
theorem q3x (a:Arm) (l:List Arm):writePa (a::l)=[32,40]++(tx a.con++(a.vars.map fun v=>32::tx v).flatten)++[32,45,62,32]++xG a.body++[41]++writePa l:=by
 cases a;rfl
section
variable {e:Ex}
theorem j9t (h:e.kind=1):xG e=z3k e.num:=by cases e;simp only [Ex.kind] at h;subst h;rfl
theorem j9u (h:e.kind=2):xG e=tx e.name:=by cases e;simp only [Ex.kind] at h;subst h;rfl
theorem j9r (h:e.kind=3):xG e=33::tx e.name:=by cases e;simp only [Ex.kind] at h;subst h;rfl
theorem j2y (h:e.kind=4) (a:e.args.length=0):xG e=tx e.name:=by
 cases e with
 | mk k n s args arms=>
  simp only [Ex.kind] at h;subst h
  have:args=[]:=List.eq_nil_of_length_eq_zero a
  subst this;rfl
theorem j9q (h:e.kind=4) (b:¬e.args.length=0):xG e=40::tx e.name++writePs e.args++[41]:=by
 cases e with
 | mk k n s args arms=>
  simp only [Ex.kind] at h;subst h
  cases args with
  | nil=>exact absurd rfl b
  | cons a l=>rfl
theorem j9s (h:e.kind=6):xG e=40::([108,101,116,32]++tx e.name)++writePs e.args++[41]:=by cases e;simp only [Ex.kind] at h;subst h;rfl
theorem y6i (h:e.kind=7):xG e=[40,99,97,115,101,32]++writeH e.args++writePa e.arms++[41]:=by cases e;simp only [Ex.kind] at h;subst h;rfl
theorem q8s (h1:¬e.kind=1) (a:¬e.kind=2) (b:¬e.kind=3) (c:¬e.kind=4) (d:¬e.kind=6) (f:¬e.kind=7):xG e=40::tx e.name++writePs e.args++[41]:=by
 cases e with
 | mk k n s args arms=>
  simp only [Ex.kind] at *
  simp only [xG,if_neg h1,if_neg a,if_neg b,if_neg c,if_neg d,if_neg f];rfl
end
theorem j4l:∀(x:Bs) (l:List Bs),tx (pE ⟨#[32]⟩ (x::l))=tx x++(l.map fun v=>32::tx v).flatten
 | x,l=>by
  have:∀(l:List Bs) (a:Bs),tx (l.foldl (fun a s=>a++⟨#[32]⟩++s) a)=tx a++(l.map fun v=>32::tx v).flatten:=by
   intro l
   induction l with
   | nil=>intro a;simp
   | cons y l b=>
    intro a
    rw [List.foldl_cons,b]
    simp [tx,ByteArray.data_append,List.append_assoc]
  exact this l x
theorem y8y:∀(f n:Nat),n < f->(gJ f n).reverse=Lib.decDigits n
 | 0,_,h=>by omega
 | f+1,n,h=>by
  rw [Lib.decDigits]
  simp only [gJ]
  by_cases a:n < 10
  ·rw [if_pos a,dif_pos a];rfl
  ·rw [if_neg a,dif_neg a,List.reverse_cons,y8y f (n / 10) (by omega)];try rfl
theorem itoa_eq (n:Int):Lib.itoa n=z3k n:=by
 have h:∀u,cB u=Lib.decDigits u:=fun u=>y8y (u+1) u (Nat.lt_succ_self _)
 unfold Lib.itoa z3k
 split
 ·rw [h,show n.natAbs=(-n).toNat by omega]
 ·rw [h]
theorem y3m (n:Int):sN n=jH (z3k n):=by unfold sN jH;rw [itoa_eq]
theorem jL (e:Ex):(wB e).size=(xG e).length:=nW _
def xN (op:Bs) (l:List Ex):Bs:=jH (40::tx op++writePs l++[41])
theorem y6a (t op:Bs) (l:List Ex):(t++(⟨#[40]⟩++op))++jH (writePs l++[41])=t++xN op l:=by (apply ByteArray.ext;apply Array.ext';simp [xN,wB,wsB,jH,tx,ByteArray.data_append,List.append_assoc])
theorem w1_step {acc F:Bs} {l:List Ex} {i:Nat} {x:Ex} (a:l[i]? = some x) (h:acc++jH (writePs (l.drop i)++[41])=F):((acc++⟨#[32]⟩)++wB x)++jH (writePs (l.drop (i+1))++[41])=F:=by
 rw [<- h,z6q a];(apply ByteArray.ext;apply Array.ext';simp [xN,wB,wsB,jH,tx,ByteArray.data_append,List.append_assoc])
theorem w1_end {acc F:Bs} {l:List Ex} {i:Nat} (a:¬i < l.length) (h:acc++jH (writePs (l.drop i)++[41])=F):acc++⟨#[41]⟩=F:=by
 rw [<- h,q8r a];(apply ByteArray.ext;apply Array.ext';simp [xN,wB,wsB,jH,tx,ByteArray.data_append,List.append_assoc])
theorem vX {acc F:Bs} {l:Tx} (h:acc++jH l=F):acc.size+l.length=F.size:=by rw [<- h,zB,nW]
mutual
def wfE:Ex->Bool
 | .mk k n s args arms=>(decide (k≠7) || decide (0 < args.length))&&wfEs args&&wfEa arms&&decide (s.size<=24)&&decide ((z3k n).length<=24)
def wfEs:List Ex->Bool
 | []=>true
 | e::es=>wfE e&&wfEs es
def wfEa:List Arm->Bool
 | []=>true
 | .mk c vs b::es=>wfE b&&wfEa es&&decide (c.size<=24)&&vs.all (fun v=>decide (v.size<=24))
end
theorem q8k:∀{l:List Ex},wfEs l=true->∀x∈l,wfE x=true
 | [],_,x,h=>by cases h
 | y::l,h,x,a=>by
  simp only [wfEs,baQ] at h
  rcases List.mem_cons.1 a with rfl | a
  ·exact h.1
  ·exact q8k h.2 x a
theorem q8j:∀{l:List Arm},wfEa l=true->∀a∈l,wfE a.body=true
 | [],_,x,h=>by cases h
 | .mk c v b::l,h,x,d=>by
  simp only [wfEa,baQ] at h
  rcases List.mem_cons.1 d with rfl | d
  ·exact h.1.1.1
  ·exact q8j h.1.1.2 x d
theorem z3f {e:Ex} (h:wfE e=true):(e.kind=7->0 < e.args.length)/\(∀x∈e.args,wfE x=true)/\∀a∈e.arms,wfE a.body=true:=by
 cases e with
 | mk k n s args arms=>
  simp only [wfE,baQ,Bool.or_eq_true,decide_eq_true_eq] at h
  exact ⟨fun b=>h.1.1.1.1.resolve_left (fun c=>c b),q8k h.1.1.1.2,q8j h.1.1.2⟩
theorem x3k (x:Bs) (l:List Bs):pW (x::l)+(⟨#[32]⟩:Bs).size * (x::l).length=(tx x++(l.map fun v=>32::tx v).flatten).length+1:=by
 have h1:(⟨#[32]⟩:Bs).size=1:=rfl
 rw [h1,nU,laQ,hY,lcQ]
 have:∀l:List Bs,(l.map fun v=>32::tx v).flatten.length=pW l+l.length:=by
  intro l
  induction l with
  | nil=>rfl
  | cons y l a=>rw [List.map_cons,List.flatten_cons,laQ,a,nU,lcQ,lcQ,hY];omega
 rw [this];omega
def armB (a:Arm):Bs:=((((⟨#[32,40]⟩:Bs)++pE ⟨#[32]⟩ (a.con::a.vars))++⟨#[32,45,62,32]⟩)++wB a.body)++⟨#[41]⟩
theorem j3g (a:Arm) (l:List Arm):armB a++jH (writePa l)=jH (writePa (a::l)):=by
 rw [q3x]
 have h:=j4l a.con a.vars
 have b:jH (tx a.con++(a.vars.map fun v=>32::tx v).flatten)=pE ⟨#[32]⟩ (a.con::a.vars):=by rw [<- h,q3a]
 simp only [nV,armB,wB]
 rw [<- nV (tx a.con),b]
 rfl
section
variable {e:Ex}
theorem j2s (h:e.kind=1):sN e.num=wB e:=by unfold wB;rw [j9t h,y3m]
theorem j2t (h:e.kind=2):e.name=wB e:=by unfold wB;rw [j9u h,q3a]
theorem q3s (h:e.kind=3):(⟨#[33]⟩:Bs)++e.name=wB e:=by unfold wB;rw [j9r h];(apply ByteArray.ext;apply Array.ext';simp [xN,wB,wsB,jH,tx,ByteArray.data_append,List.append_assoc])
theorem y0l (h:e.kind=4) (a:e.args.length=0):e.name=wB e:=by unfold wB;rw [j2y h a,q3a]
theorem j2q (h:e.kind=4) (a:¬e.args.length=0):xN e.name e.args=wB e:=by unfold wB xN;rw [j9q h a]
theorem j2r (h:e.kind=6):xN ((⟨#[108,101,116,32]⟩:Bs)++e.name) e.args=wB e:=by unfold wB xN;rw [j9s h];(apply ByteArray.ext;apply Array.ext';simp [xN,wB,wsB,jH,tx,ByteArray.data_append,List.append_assoc])
theorem y6b (h1:¬e.kind=1) (a:¬e.kind=2) (b:¬e.kind=3) (c:¬e.kind=4) (d:¬e.kind=6) (f:¬e.kind=7):xN e.name e.args=wB e:=by
 unfold wB xN;rw [q8s h1 a b c d f]
theorem x6b {t:Bs} {a:Ex} (h:e.kind=7) (b:e.args[0]? = some a):((t++(⟨#[40,99,97,115,101,32]⟩:Bs))++wB a)++jH (writePa e.arms++[41])=t++wB e:=by
 have h1:writeH e.args=xG a:=by
  cases hl:e.args with
  | nil=>rw [hl] at b;simp at b
  | cons x l=>rw [hl] at b;simp only [List.getElem?_cons_zero,Option.some.injEq] at b;subst b;rfl
 have c:wB e=jH ([40,99,97,115,101,32]++xG a++writePa e.arms++[41]):=by unfold wB;rw [y6i h,h1]
 rw [c];(apply ByteArray.ext;apply Array.ext';simp [xN,wB,wsB,jH,tx,ByteArray.data_append,List.append_assoc])
end
theorem wc_step {acc F:Bs} {l:List Arm} {i:Nat} {x:Arm} (a:l[i]? = some x) (h:acc++jH (writePa (l.drop i)++[41])=F) :
  (((acc++(((⟨#[32,40]⟩:Bs)++pE (⟨#[32]⟩:Bs) (x.con::x.vars))++(⟨#[32,45,62,32]⟩:Bs)))++wB x.body)++⟨#[41]⟩)++jH (writePa (l.drop (i+1))++[41])=F:=by
 rw [<- h,zA a,nV (writePa (x::_)),<- j3g,nV]
 unfold armB;simp only [ByteArray.append_assoc]
theorem wc_end {acc F:Bs} {l:List Arm} {i:Nat} (a:¬i < l.length) (h:acc++jH (writePa (l.drop i)++[41])=F):acc++⟨#[41]⟩=F:=by
 rw [<- h,zE a];(apply ByteArray.ext;apply Array.ext';simp [xN,wB,wsB,jH,tx,ByteArray.data_append,List.append_assoc]);rfl
theorem uH {l:List Arm} {i:Nat} {x:Arm} (a:l[i]? = some x):(writePa (l.drop i)).length=(armB x).size+(writePa (l.drop (i+1))).length:=by
 have:=congrArg ByteArray.size (j3g x (l.drop (i+1)))
 rw [zA a]
 rw [zB,nW,nW] at this
 exact this.symm
theorem cI (a:Arm):(armB a).size=2+(pE ⟨#[32]⟩ (a.con::a.vars)).size+4+(wB a.body).size+1:=by
 simp only [armB,zB];rfl
theorem uO (x:Bs) (l:List Bs):pW (x::l)+(⟨#[32]⟩:Bs).size * (x::l).length=(pE ⟨#[32]⟩ (x::l)).size+1:=by
 rw [x3k,<- j4l,hY]
theorem j0b (op:Bs) (l:List Ex):(xN op l).size=2+op.size+(writePs l).length:=by
 unfold xN;rw [nW];simp only [laQ,lcQ,lnQ,hY];omega
theorem q8h:∀{vs:List Bs},(vs.all fun v=>decide (v.size<=24))=true->(vs.map fun v=>32::tx v).flatten.length<=25 * vs.length
 | [],_=>by simp
 | v::vs,h=>by
  simp only [List.all_cons,baQ,decide_eq_true_eq] at h
  have:=q8h h.2
  simp only [List.map_cons,List.flatten_cons,laQ,lcQ,hY];omega
mutual
theorem z2i:∀(e:Ex) (l:Int),wfE e=true->(qU e l).1=false->((xG e).length:Int)<=500 * (l - (qU e l).2) - 440
 | .mk k n s args arms,l=>by
  intro a h
  simp only [wfE,baQ,decide_eq_true_eq] at a
  obtain ⟨⟨⟨⟨_,i⟩,hb⟩,O⟩,p⟩:=a
  simp only [qU] at h ⊢
  split at h
  ·cases h
  ·rename_i hl
   rw [if_neg hl]
   cases N:meass args (l - 1) with
   | mk b q=>
    rw [N] at h
    cases b with
    | true=>cases h
    | false=>
     have d:=writes_short args (l - 1) i (by rw [N])
     have g:=writea_short arms q hb h
     rw [N] at d
     simp only at d ⊢
     have m:(writeH args).length<=(writePs args).length:=by
      cases args with
      | nil=>simp [writeH,writePs]
      | cons x xs=>simp only [writeH,writePs,laQ,lcQ];omega
     have r:=hY s
     have f:=meass_le args (l - 1) (by rw [N]) (by omega)
     rw [N] at f
     have t:=measa_le arms q h (by simp only at f;omega)
     simp only at f
     simp only [xG]
     split
     ·omega
     split
     ·omega
     split
     ·simp only [lcQ];omega
     split
     ·cases args with
      | nil=>simp only;omega
      | cons x xs=>simp only [laQ,lcQ,lnQ];omega
     split
     ·simp only [laQ,lcQ,lnQ];omega
     split
     ·simp only [laQ,lcQ,lnQ];omega
     ·simp only [laQ,lcQ,lnQ];omega
theorem writes_short:∀(es:List Ex) (l:Int),wfEs es=true->(meass es l).1=false->((writePs es).length:Int)<=500 * (l - (meass es l).2)
 | [],l=>by intro _ _;simp [writePs,meass]
 | e::es,l=>by
  intro a h
  simp only [wfEs,baQ] at a
  simp only [meass] at h ⊢
  cases N:qU e l with
  | mk b q=>
   rw [N] at h
   cases b with
   | true=>cases h
   | false=>
    have d:=z2i e l a.1 (by rw [N])
    have g:=writes_short es q a.2 h
    rw [N] at d
    simp only [writePs,laQ,lcQ] at d ⊢
    omega
theorem writea_short:∀(es:List Arm) (l:Int),wfEa es=true->(measa es l).1=false->((writePa es).length:Int)<=500 * (l - (measa es l).2)
 | [],l=>by intro _ _;simp [writePa,measa]
 | .mk c vs b::es,l=>by
  intro a h
  simp only [wfEa,baQ,decide_eq_true_eq] at a
  simp only [measa] at h ⊢
  split at h
  ·cases h
  ·rename_i j
   rw [if_neg j]
   cases N:qU b l with
   | mk o q=>
    rw [N] at h
    cases o with
    | true=>cases h
    | false=>
     have d:=z2i b l a.1.1.1 (by rw [N])
     have g:=writea_short es q a.1.1.2 h
     have m:=q8h a.2
     rw [N] at d
     simp only [writePa,laQ,lcQ,lnQ,hY] at d ⊢
     omega
end
end Go.Sw

namespace Go.Sw
open Go.Proofs.Tryz
open Go.Proofs
set_option maxRecDepth 20000
set_option maxHeartbeats 4000000
theorem z8m {V:Fz} {K:List Res} {w:World} {b bb:Nat} {v va:Value} {bp:Option Addr} {t op:Bs} {l:List Ex} (Z:∀x:Ex,x∈l->∀{V:Fz} {K:List Res} {w:World} {d:List Value} {b:Nat} {v:Value} {bp:Option Addr} {t:Bs},REx V d x->(bp=none∨bp=some ⟨b,0,none⟩)->Tabs V->t.size+(xG x).length<=8796093022208->Mem V (.blk b (ob [.pointer bp,v] 130)::.gs v 5 1 (Lib.strCells t)::K) w->Calls prog 69 #[.pointer (some ⟨b,0,none⟩),.agg d.toArray] w (fun ee w'=>∃v2,ee=.returned (.tuple #[])/\True/\Mem V (.blk b (ob [.pointer (some ⟨b,0,none⟩),v2] 130)::.gs v2 5 1 (Lib.strCells (t++wB x))::K) w')) (rl:SliceOf REx V 5 va l) (Y:bp=none∨bp=some ⟨b,0,none⟩) (G:Tabs V) (hb:t.size+(xN op l).size<=8796093022208) (N:Mem V (.blk bb (ob [.pointer (some ⟨b,0,none⟩)] 127)::.blk b (ob [.pointer bp,v] 130)::.gs v 5 1 (Lib.strCells t)::K) w) :
  Calls prog 121 #[.string op,va,.pointer (some ⟨bb,0,none⟩)] w (fun ee w'=>∃v2,ee=.returned (.tuple #[])/\True/\Mem V (.blk bb (ob [.pointer (some ⟨b,0,none⟩)] 127)::.blk b (ob [.pointer (some ⟨b,0,none⟩),v2] 130)::.gs v2 5 1 (Lib.strCells (t++xN op l))::K) w'):=by
 obtain ⟨p1,c1,rfl,X,p⟩:=rl.fm
 refine zM func121 ntmps121 fun Q hQ a J=>?_
 refine Qq (fun a J=>?_) (o:=by exact fun J O=>yE J rfl rfl (by have e:=vX (y6a t op l);rw [zB,zB] at e;have k:(⟨#[40]⟩:Bs).size=1:=rfl;have h:(t++xN op l).size=t.size+(xN op l).size:=zB _ _;omega))
 replace N:=N.ar [] [2,2]
 refine qO call68 (fun y2 w W N a J=>?_) (c:=yJ (t:=t) (s:=((⟨#[40]⟩:Bs)++op)) Y (by have h:(t++xN op l).size=t.size+(xN op l).size:=zB _ _;have e:=vX (y6a t op l);rw [zB,zB] at e;have k:(⟨#[40]⟩:Bs).size=1:=rfl;rw [zB];omega) N)
 replace N:=N.nf
 refine go fun a J=>?_
 refine zV (J.ks [2,11,12]) N (fun R mm a w=>∃(i:Nat) (bv:Value) (acc:Bs),mm=l.length - i/\R V [(13,.int .i64 ((i:Nat):Int))] [(0,.blk b (ob [.pointer (some ⟨b,0,none⟩),bv] 130)),(1,.gs (bv) 5 1 (Lib.strCells acc))] a w/\(acc++jH (writePs (l.drop i)++[41])=t++xN op l)) (l.length - 0) ⟨0,y2,(t++((⟨#[40]⟩:Bs)++op)),rfl,⟨J.pk,N⟩,y6a t op l⟩ ?_
 clear N J
 rintro mm a w ⟨i,bv,acc,n,⟨J,N⟩,f⟩ L6 m
 replace N:=N.nf
 refine go fun a J=>?_
 by_cases z:i < l.length
 refine go fun a J=>?_
 obtain ⟨c0,rfl,q,g,y,F,D,j⟩:=rl.el p z
 obtain ⟨a0,c23,b0,S,rfl,E,T,U,H,L,I,M⟩:=REx.fm j
 refine Alc fun P w N a J=>?_
 refine Sto 0 fun w N a J=>?_
 replace N:=N.ar [] [2,2]
 refine qO call70 (fun e0 w A N a J=>?_) (c:=aV (t:=acc) (c:=32) (.inr rfl) (by have h:(t++xN op l).size=t.size+(xN op l).size:=zB _ _;have e:=vX f;simp only [laQ,lcQ,lnQ] at e;omega) N)
 replace N:=N.nf
 replace N:=N.ar [] [1,1]
 refine qO call69 (fun r w B N a J=>?_) (c:=Z _ (mgQ g) (t:=(acc++⟨#[32]⟩)) j (.inr rfl) G (by have h:(t++xN op l).size=t.size+(xN op l).size:=zB _ _;have e:=vX f;rw [z6q g] at e;simp only [laQ,lcQ,lnQ] at e;have k:(⟨#[32]⟩:Bs).size=1:=rfl;rw [zB];omega) N)
 replace N:=N.nf
 refine go fun a J=>?_
 replace N:=N.dl [2]
 refine m _ _ _ (by subst n;omega) ⟨(i+1),(r),(((acc++⟨#[32]⟩)++wB q)),rfl,⟨J.pk,by exact N⟩,?_⟩
 exact w1_step g f
 replace N:=N.ar [] [1,1]
 refine qO call70 (fun u w C N a J=>?_) (c:=aV (t:=acc) (c:=41) (.inr rfl) (by have h:(t++xN op l).size=t.size+(xN op l).size:=zB _ _;have e:=vX f;simp only [laQ,lcQ,lnQ] at e;omega) N)
 replace N:=N.nf
 refine go fun a J=>?_
 replace N:=N.ar [] [1,1,2]
 refine hQ _ _ _ (cE J results121 ?_)
 refine ⟨u,rfl,trivial,?_⟩
 rw [<- w1_end z f];exact N
theorem j2z {V:Fz} {K:List Res} {w:World} {d:List Value} {e:Ex} {b:Nat} {v:Value} {bp:Option Addr} {t:Bs} (ih:∀x:Ex,x.sz < e.sz->wfE x=true->∀{V:Fz} {K:List Res} {w:World} {d:List Value} {b:Nat} {v:Value} {bp:Option Addr} {t:Bs},REx V d x->(bp=none∨bp=some ⟨b,0,none⟩)->Tabs V->t.size+(xG x).length<=8796093022208->Mem V (.blk b (ob [.pointer bp,v] 130)::.gs v 5 1 (Lib.strCells t)::K) w->Calls prog 69 #[.pointer (some ⟨b,0,none⟩),.agg d.toArray] w (fun ee w'=>∃v2,ee=.returned (.tuple #[])/\True/\Mem V (.blk b (ob [.pointer (some ⟨b,0,none⟩),v2] 130)::.gs v2 5 1 (Lib.strCells (t++wB x))::K) w')) (u:wfE e=true) (re:REx V d e) (L:bp=none∨bp=some ⟨b,0,none⟩) (G:Tabs V) (hb:t.size+(xG e).length<=8796093022208) (N:Mem V (.blk b (ob [.pointer bp,v] 130)::.gs v 5 1 (Lib.strCells t)::K) w) :
  Calls prog 69 #[.pointer (some ⟨b,0,none⟩),.agg d.toArray] w (fun ee w'=>∃v2,ee=.returned (.tuple #[])/\True/\Mem V (.blk b (ob [.pointer (some ⟨b,0,none⟩),v2] 130)::.gs v2 5 1 (Lib.strCells (t++wB e))::K) w'):=by
 obtain ⟨p3,c4,p9,u1,rfl,Y0,h2,h8,C1,A0,c1,a0⟩:=REx.fm re
 refine zM func69 ntmps69 fun Q hQ a J=>?_
 refine Bx fun q1 w N a J=>?_
 refine Bx fun s1 w N a J=>?_
 by_cases B:e.kind=1
 refine Reg [2,1,2,0,0] [0,1] fun w N a J=>?_
 have n:=congrArg ByteArray.size (j2s B)
 have y:=jL e
 refine zS call122 (fun w N a J=>?_) (c:=q2r (by obtain ⟨_,_,_,h_,_⟩:=REx.iff.1 re;exact h_) G N)
 replace N:=N.ar [] [3,3]
 refine qO call68 (fun B0 w O0 N a J=>?_) (c:=yJ (t:=t) (s:=(sN e.num)) L (by omega) N)
 replace N:=N.nf
 refine go fun a J=>?_
 replace N:=N.dl [3,2]
 refine hQ _ _ _ (cE J results69 ?_)
 refine ⟨B0,rfl,trivial,?_⟩
 rw [<- j2s B];exact N
 by_cases C:e.kind=2
 refine go fun a J=>?_
 have n:=congrArg ByteArray.size (j2t C)
 have y:=jL e
 replace N:=N.ar [] [3,3]
 refine qO call68 (fun C0 w P0 N a J=>?_) (c:=yJ (t:=t) (s:=e.name) L (by omega) N)
 replace N:=N.nf
 refine go fun a J=>?_
 replace N:=N.dl [3,2]
 refine hQ _ _ _ (cE J results69 ?_)
 refine ⟨C0,rfl,trivial,?_⟩
 rw [<- j2t C];exact N
 by_cases D:e.kind=3
 have n:=congrArg ByteArray.size (q3s D)
 have y:=jL e
 refine Qq (fun a J=>?_) (o:=by exact fun J O=>yE J rfl rfl (by rw [zB] at n;omega))
 replace N:=N.ar [] [3,3]
 refine qO call68 (fun D0 w Q0 N a J=>?_) (c:=yJ (t:=t) (s:=((⟨#[33]⟩:Bs)++e.name)) L (by omega) N)
 replace N:=N.nf
 refine go fun a J=>?_
 replace N:=N.dl [3,2]
 refine hQ _ _ _ (cE J results69 ?_)
 refine ⟨D0,rfl,trivial,?_⟩
 rw [<- q3s D];exact N
 refine go fun a J=>?_
 by_cases p:e.kind=4
 by_cases E:e.args.length=0
 refine go fun a J=>?_
 have n:=congrArg ByteArray.size (y0l p E)
 have y:=jL e
 replace N:=N.ar [] [3,3]
 refine qO call68 (fun E0 w R0 N a J=>?_) (c:=yJ (t:=t) (s:=e.name) L (by omega) N)
 replace N:=N.nf
 refine go fun a J=>?_
 replace N:=N.dl [3,2]
 refine hQ _ _ _ (ret0 J results69 ?_)
 refine ⟨E0,rfl,trivial,?_⟩
 rw [<- y0l p E];exact N
 have n:=congrArg ByteArray.size (j2q p E)
 have y:=jL e
 refine go fun a J=>?_
 replace N:=N.ar [] [3,3,3]
 refine st J rfl rfl rfl (oP J rfl rfl call121 (z8m (t:=t) (op:=e.name) (fun x S _ _ _ _ _ _ _ _ r1 r2 r3 r4 r5=>ih x (Ex.lt_args S) ((z3f u).2.1 x S) r1 r2 r3 r4 r5) h2 L G (by omega) N) (fun F0 w S0 N a J=>?_))
 replace N:=N.nf
 refine go fun a J=>?_
 replace N:=N.dl [3,0]
 refine hQ _ _ _ (cE J results69 ?_)
 refine ⟨F0,rfl,trivial,?_⟩
 rw [<- j2q p E];exact N
 by_cases F:e.kind=6
 have n:=congrArg ByteArray.size (j2r F)
 have y:=jL e
 refine Qq (fun a J=>?_) (o:=by exact fun J O=>yE J rfl rfl (by rw [j0b,zB] at n;omega))
 refine go fun a J=>?_
 replace N:=N.ar [] [3,3,3]
 refine st J rfl rfl rfl (oP J rfl rfl call121 (z8m (t:=t) (op:=((⟨#[108,101,116,32]⟩:Bs)++e.name)) (fun x S _ _ _ _ _ _ _ _ r1 r2 r3 r4 r5=>ih x (Ex.lt_args S) ((z3f u).2.1 x S) r1 r2 r3 r4 r5) h2 L G (by omega) N) (fun G0 w T0 N a J=>?_))
 replace N:=N.nf
 refine go fun a J=>?_
 replace N:=N.dl [3,0]
 refine hQ _ _ _ (cE J results69 ?_)
 refine ⟨G0,rfl,trivial,?_⟩
 rw [<- j2r F];exact N
 by_cases H:e.kind=7
 refine go fun a J=>?_
 have M:0 < e.args.length:=(z3f u).1 H
 obtain ⟨n0,I⟩:=qR M
 have z:=x6b (t:=t) H I
 replace N:=N.ar [] [3,3]
 refine qO call68 (fun K1 w U0 N a J=>?_) (c:=yJ (t:=t) (s:=(⟨#[40,99,97,115,101,32]⟩:Bs)) L (by have g:=vX z;rw [zB,zB,zB t (wB e),jL e] at g;omega) N)
 replace N:=N.nf
 refine Reg [2,1,2,1,2,0] [2,3] fun w N a J=>?_
 refine go fun a J=>?_
 obtain ⟨H1,rfl,i0,A,L0,a1,W0,P⟩:=h2.el A0 M
 obtain ⟨D1,v1,E1,w1,rfl,Z0,y1,z1,d1,g1,e1,i1⟩:=REx.fm P
 refine go fun a J=>?_
 obtain rfl:i0=n0:=Option.some.inj (A.symm.trans I)
 replace N:=N.ar [] [1,1]
 refine qO call69 (fun H0 w V0 N a J=>?_) (c:=ih _ (Ex.lt_args (mgQ A)) ((z3f u).2.1 _ (mgQ A)) (t:=(t++(⟨#[40,99,97,115,101,32]⟩:Bs))) P (.inr rfl) G (by have g:=vX z;rw [zB,zB,zB t (wB e),jL e,jL] at g;rw [zB];omega) N)
 replace N:=N.nf
 refine go fun a J=>?_
 refine zV (J.ks [2,72,73]) N (fun R mm a w=>∃(i:Nat) (bv:Value) (acc:Bs),mm=e.arms.length - i/\R V [(74,.int .i64 ((i:Nat):Int))] [(0,.blk b (ob [.pointer (some ⟨b,0,none⟩),bv] 130)),(1,.gs (bv) 5 1 (Lib.strCells acc))] a w/\(acc++jH (writePa (e.arms.drop i)++[41])=t++wB e)) (e.arms.length - 0) ⟨0,H0,((t++(⟨#[40,99,97,115,101,32]⟩:Bs))++wB i0),rfl,⟨J.pk,N⟩,z⟩ ?_
 clear N J
 rintro mm a w ⟨i,bv,acc,x0,⟨J,N⟩,h⟩ p1 Z
 replace N:=N.nf
 refine go fun a J=>?_
 by_cases W:i < e.arms.length
 refine go fun a J=>?_
 obtain ⟨I1,rfl,f,j,M0,b1,X0,b0⟩:=h8.el a0 W
 obtain ⟨J1,t1,rfl,X,Y⟩:=RArm.iff.1 b0
 obtain ⟨F1,x1,rfl,f1,j1⟩:=X.fm
 obtain ⟨G1,J0,k1,K0,rfl,t0,B1,N0,u0,y0,w0,z0⟩:=REx.fm Y
 refine Alc fun I0 w N a J=>?_
 refine Sto 0 fun w N a J=>?_
 refine go fun a J=>?_
 refine qN [2,1,2,0,1,2,0,0,1,1,0] (.q 0 (.q 1 (.q 2 (.q 4 (.q 5 (.e 3 (.e 6 (.e 7 (.q 8 (.q 9 (.e 10 (.done)))))))))))) [0,3,4] J N fun w N=>?_
 refine qH fun l1 w N a J=>?_
 refine qP 0 wQ (fun m1 w N a J=>?_) (hr:=(SliceOf.strs.1 X).rowIn N.toSees) (h1:=dA _) (hb:=by have g:=vX h;rw [laQ,zB t (wB e),jL e] at g;have k:=uH j;rw [cI] at k;have m:=uO f.con f.vars;have r:(⟨#[32]⟩:Bs).size=1:=rfl;rw [r] at m;simp only [lcQ,lnQ,yF] at m ⊢;omega)
 refine zS call67 (fun w N a J=>?_) (c:=y3n (l:=f.con::f.vars) (sep:=⟨#[32]⟩) (by have g:=vX h;rw [laQ,zB t (wB e),jL e] at g;have k:=uH j;rw [cI] at k;have m:=uO f.con f.vars;omega) N)
 replace N:=N.nf
 refine Qq (fun a J=>?_) (o:=by exact fun J O=>yE J rfl rfl (by have g:=vX h;rw [laQ,zB t (wB e),jL e] at g;have k:=uH j;rw [cI] at k;have m:=uO f.con f.vars;have r:(⟨#[32,40]⟩:Bs).size=2:=rfl;omega))
 refine Qq (fun a J=>?_) (o:=by exact fun J O=>yE J rfl rfl (by have g:=vX h;rw [laQ,zB t (wB e),jL e] at g;have k:=uH j;rw [cI] at k;have m:=uO f.con f.vars;have r:(⟨#[32,40]⟩:Bs).size=2:=rfl;have T:(⟨#[32,45,62,32]⟩:Bs).size=4:=rfl;rw [zB];omega))
 replace N:=N.ar [] [2,2]
 refine qO call68 (fun n1 w o0 N a J=>?_) (c:=yJ (t:=acc) (s:=(((⟨#[32,40]⟩:Bs)++(pE (⟨#[32]⟩:Bs) (f.con::f.vars)))++(⟨#[32,45,62,32]⟩:Bs))) (.inr rfl) (by have g:=vX h;rw [laQ,zB t (wB e),jL e] at g;have k:=uH j;rw [cI,jL] at k;have m:([41]:List UInt8).length=1:=rfl;have r:(⟨#[32,40]⟩:Bs).size=2:=rfl;have T:(⟨#[32,45,62,32]⟩:Bs).size=4:=rfl;have U:(⟨#[41]⟩:Bs).size=1:=rfl;rw [zB,zB];omega) N)
 replace N:=N.nf
 replace N:=N.ar [] [1,1]
 refine qO call69 (fun o1 w p0 N a J=>?_) (c:=ih _ (Ex.lt_arms (mgQ j)) ((z3f u).2.2 _ (mgQ j)) (t:=(acc++(((⟨#[32,40]⟩:Bs)++(pE (⟨#[32]⟩:Bs) (f.con::f.vars)))++(⟨#[32,45,62,32]⟩:Bs)))) Y (.inr rfl) G (by have g:=vX h;rw [laQ,zB t (wB e),jL e] at g;have k:=uH j;rw [cI,jL] at k;have m:([41]:List UInt8).length=1:=rfl;have r:(⟨#[32,40]⟩:Bs).size=2:=rfl;have T:(⟨#[32,45,62,32]⟩:Bs).size=4:=rfl;have U:(⟨#[41]⟩:Bs).size=1:=rfl;rw [zB,zB,zB];omega) N)
 replace N:=N.nf
 replace N:=N.ar [] [1,1]
 refine qO call70 (fun j0 w q0 N a J=>?_) (c:=aV (t:=((acc++(((⟨#[32,40]⟩:Bs)++(pE (⟨#[32]⟩:Bs) (f.con::f.vars)))++(⟨#[32,45,62,32]⟩:Bs)))++wB f.body)) (c:=41) (.inr rfl) (by have g:=vX h;rw [laQ,zB t (wB e),jL e] at g;have k:=uH j;rw [cI,jL] at k;have m:([41]:List UInt8).length=1:=rfl;have r:(⟨#[32,40]⟩:Bs).size=2:=rfl;have T:(⟨#[32,45,62,32]⟩:Bs).size=4:=rfl;have U:(⟨#[41]⟩:Bs).size=1:=rfl;rw [zB,zB,zB,zB,jL];omega) N)
 replace N:=N.nf
 refine go fun a J=>?_
 replace N:=N.dl [2]
 refine Z _ _ _ (by subst x0;omega) ⟨(i+1),(j0),((((acc++(((⟨#[32,40]⟩:Bs)++(pE (⟨#[32]⟩:Bs) (f.con::f.vars)))++(⟨#[32,45,62,32]⟩:Bs)))++wB f.body)++⟨#[41]⟩)),rfl,⟨J.pk,by exact N⟩,?_⟩
 exact wc_step j h
 replace N:=N.ar [] [1,1]
 refine qO call70 (fun k0 w r0 N a J=>?_) (c:=aV (t:=acc) (c:=41) (.inr rfl) (by have g:=vX h;rw [laQ,zB t (wB e),jL e] at g;have m:([41]:List UInt8).length=1:=rfl;omega) N)
 replace N:=N.nf
 refine go fun a J=>?_
 replace N:=N.dl [3,2]
 refine hQ _ _ _ (cE J results69 ?_)
 refine ⟨k0,rfl,trivial,?_⟩
 rw [<- wc_end W h];exact N
 have n:=congrArg ByteArray.size (y6b B C D p F H)
 have y:=jL e
 refine go fun a J=>?_
 replace N:=N.ar [] [3,3,3]
 refine st J rfl rfl rfl (oP J rfl rfl call121 (z8m (t:=t) (op:=e.name) (fun x S _ _ _ _ _ _ _ _ r1 r2 r3 r4 r5=>ih x (Ex.lt_args S) ((z3f u).2.1 x S) r1 r2 r3 r4 r5) h2 L G (by omega) N) (fun l0 w s0 N a J=>?_))
 replace N:=N.nf
 refine go fun a J=>?_
 replace N:=N.dl [3,0]
 refine hQ _ _ _ (cE J results69 ?_)
 refine ⟨l0,rfl,trivial,?_⟩
 rw [<- y6b B C D p F H];exact N
theorem x6f {V:Fz} {K:List Res} {w:World} {d:List Value} {e:Ex} {b:Nat} {v:Value} {bp:Option Addr} {t:Bs} (a:wfE e=true) (re:REx V d e) (c:bp=none∨bp=some ⟨b,0,none⟩) (G:Tabs V) (hb:t.size+(xG e).length<=8796093022208) (N:Mem V (.blk b (ob [.pointer bp,v] 130)::.gs v 5 1 (Lib.strCells t)::K) w) :
  Calls prog 69 #[.pointer (some ⟨b,0,none⟩),.agg d.toArray] w (fun ee w'=>∃v2,ee=.returned (.tuple #[])/\True/\Mem V (.blk b (ob [.pointer (some ⟨b,0,none⟩),v2] 130)::.gs v2 5 1 (Lib.strCells (t++wB e))::K) w'):=by
 suffices H:∀n (e:Ex),e.sz < n->wfE e=true->∀{V:Fz} {K:List Res} {w:World} {d:List Value} {b:Nat} {v:Value} {bp:Option Addr} {t:Bs},REx V d e->(bp=none∨bp=some ⟨b,0,none⟩)->Tabs V->t.size+(xG e).length<=8796093022208->Mem V (.blk b (ob [.pointer bp,v] 130)::.gs v 5 1 (Lib.strCells t)::K) w ->
   Calls prog 69 #[.pointer (some ⟨b,0,none⟩),.agg d.toArray] w (fun ee w'=>∃v2,ee=.returned (.tuple #[])/\True/\Mem V (.blk b (ob [.pointer (some ⟨b,0,none⟩),v2] 130)::.gs v2 5 1 (Lib.strCells (t++wB e))::K) w') from H _ e (Nat.lt_succ_self _) a re c G hb N
 intro n
 induction n with
 | zero=>intro e h;omega
 | succ n g=>intro e h a V K w d b v bp t re c G hb N;exact j2z (fun x o f _ _ _ _ _ _ _ _ i j k l m=>g x (by omega) f i j k l m) a re c G hb N
end Go.Sw

namespace Go.Sw
def qY:List Bs->Bs
 | []=>⟨#[]⟩
 | x::l=>x++qY l
def z1e (c:Con):Bs:=pE ⟨#[32]⟩ (c.name::c.fields)
def tN (d:Data):Bs:=((((⟨#[100,97,116,97,32]⟩:Bs)++d.name)++⟨#[32,61,32]⟩)++pE ⟨#[32,124,32]⟩ (d.cons.map z1e))++⟨#[10]⟩
def aK (p:Param):Bs:=((((⟨#[105,110,112,117,116,32]⟩:Bs)++p.name)++⟨#[32,58,32]⟩)++p.type)++⟨#[10]⟩
def gE (p:Param):Bs:=((((⟨#[32,40]⟩:Bs)++p.name)++⟨#[32,58,32]⟩)++p.type)++⟨#[41]⟩
def tR (f:Fun):Bs:=((((⟨#[102,117,110,32]⟩:Bs)++f.name)++qY (f.params.map gE))++(((⟨#[32,58,32]⟩:Bs)++f.result)++⟨#[32,61,32]⟩))++(wB f.body++⟨#[10]⟩)
def uA (o:Bs):Bs:=((⟨#[111,117,116,112,117,116,32]⟩:Bs)++o)++⟨#[10]⟩
def kU (c:Core):Bs:=qY (c.datas.map tN)++(qY (c.inputs.map aK)++(qY (c.funs.map tR)++qY (c.outputs.map uA)))
def aQ (c:Core):Bs×Int:=if yT c≠0 then (sNo,yT c) else if 60000 < (kU c).size then (sNo,2) else (kU c,0)
theorem tI (x:Bs):x++(⟨#[]⟩:Bs)=x:=by apply ByteArray.ext;simp [ByteArray.data_append]
theorem xO (a b c:Bs):(a++b)++c=a++(b++c):=ByteArray.append_assoc
theorem dM {α:Type} {f:α->Bs} {l:List α} {i:Nat} {x:α} (h:l[i]? = some x):qY ((l.drop i).map f)=f x++qY ((l.drop (i+1)).map f):=by
 rw [zA h];rfl
theorem cat_end {α:Type} {f:α->Bs} {l:List α} {i:Nat} (h:¬i < l.length):qY ((l.drop i).map f)=⟨#[]⟩:=by
 rw [zE h];rfl
theorem z1d {α:Type} {f:α->Bs} {l:List α} {i:Nat} {x:α} {acc rest F:Bs} (a:l[i]? = some x) (h:acc++(qY ((l.drop i).map f)++rest)=F):(acc++f x)++(qY ((l.drop (i+1)).map f)++rest)=F:=by
 rw [<- h,dM a];simp only [xO]
theorem nB {α:Type} {f:α->Bs} {l:List α} {i:Nat} {acc rest F:Bs} (a:¬i < l.length) (h:acc++(qY ((l.drop i).map f)++rest)=F):acc++rest=F:=by
 rw [<- h,cat_end a,oE]
theorem oC:∀{l:List Bs} {m:Nat},(∀x∈l,x.size<=m)->(qY l).size<=l.length * m
 | [],_,_=>by simp [qY];rfl
 | x::l,m,h=>by
  have h1:=h x msQ
  have b:=oC (l:=l) (m:=m) (fun y a=>h y (mcQ _ a))
  simp only [qY,zB,lcQ,Nat.add_mul];omega
theorem z4v {α:Type} {f:α->Bs} {l:List α} {i:Nat} {x:α} {acc rest F:Bs} (a:l[i]? = some x) (h:acc++(qY ((l.drop i).map f)++rest)=F):acc.size+(f x).size<=F.size:=by
 rw [<- h,dM a];simp only [zB];omega
theorem y7p {α β:Type} {f:α->β} {l:List α} {j:Nat} {x:α} (a:l[j]? = some x):(l.map f).take (j+1)=(l.map f).take j++[f x] :=
 xI (by rw [List.getElem?_map,a];rfl)
theorem q2u {α β:Type} {f:α->β} {l:List α} {j:Nat} (h:¬j < l.length):(l.map f).take j=l.map f:=y5p (by rw [List.length_map];exact h)
theorem j7e {l:List Fun} {i:Nat} {f:Fun} {acc rest F:Bs} (a:l[i]? = some f) (h:acc++(qY ((l.drop i).map tR)++rest)=F) :
  (acc++((⟨#[102,117,110,32]⟩:Bs)++f.name))++(qY ((f.params.drop 0).map gE)++((((⟨#[32,58,32]⟩:Bs)++f.result)++⟨#[32,61,32]⟩)++((wB f.body++⟨#[10]⟩)++(qY ((l.drop (i+1)).map tR)++rest))))=F:=by
 rw [<- h,dM a];simp only [tR,xO,List.drop_zero]
theorem x2v {acc m w n R F:Bs} (h:acc++(m++((w++n)++R))=F):(((acc++m)++w)++n)++R=F:=by
 rw [<- h];simp only [xO]
theorem z9o {c:Core} (h:¬yT c=0):aQ c=(⟨#[]⟩,yT c):=by unfold aQ;rw [if_pos h];rfl
theorem z9n {c:Core} (h:yT c=0) (hl:60000 < (kU c).size):aQ c=(⟨#[]⟩,2):=by unfold aQ;rw [if_neg (not_not_intro h),if_pos hl];rfl
theorem q0l {c:Core} (h:yT c=0) (hl:¬60000 < (kU c).size):aQ c=(kU c,0):=by unfold aQ;rw [if_neg (not_not_intro h),if_neg hl]
theorem z4u:∀{l:List Ex} {x:Ex} {y:Bs},x∈l->y∈qJ x->y∈calledPs l
 | z::l,x,y,h,a=>by
  simp only [calledPs,List.mem_append]
  rcases List.mem_cons.1 h with rfl | h
  ·exact .inl a
  ·exact .inr (z4u h a)
theorem z4t:∀{l:List Arm} {a:Arm} {y:Bs},a∈l->y∈qJ a.body->y∈calledPa l
 | z::l,a,y,h,b=>by
  rw [sX,List.mem_append]
  rcases List.mem_cons.1 h with rfl | h
  ·exact .inl b
  ·exact .inr (z4t h b)
theorem j1o {T:Table} {n y x:Bs} (h1:y∈jN T n) (h:Reach T y x):Reach T n x:=by
 induction h with
 | refl=>exact .step .refl h1
 | step _ a b=>exact .step b a
theorem y9l {T:Table}:∀{vs:List Val} {ps:List Param},gA T vs ps=true->sV T vs (ps.map Param.type)
 | [],[],_=>trivial
 | v::vs,p::ps,h=>by
  simp only [gA,baQ] at h
  exact ⟨h.1.2,y9l h.2⟩
 | [],_::_,h=>by cases h
 | _::_,[],h=>by cases h
theorem y0z {T:Table} {n:Bs} {f:Fun} (d:zL T.funs n=some f) (b:¬pA T n):xT f.body=false/\∀y∈qJ f.body,¬pA T y:=by
 have hb:=oR d
 refine ⟨?_,fun y e hr=>b ?_⟩
 ·cases a:xT f.body with
  | false=>rfl
  | true=>exact absurd ⟨_,.refl,by rw [hb];exact a⟩ b
 ·obtain ⟨x,h1,c⟩:=hr
  exact ⟨x,j1o (by unfold jN;rw [hb];exact e) h1,c⟩
theorem q3g (T:Table):Closed T ⟨T.funs,[]⟩ (fun e=>xT e=false/\∀y∈qJ e,¬pA T y):=by
 refine ⟨fun {e x} b i=>?_,fun {e a} b h=>?_,fun {e t} b d=>?_,fun {e f} b d j=>?_⟩
 ·obtain ⟨h1,c⟩:=b
  rw [cX] at h1
  simp only [Bool.or_eq_false_iff] at h1
  refine ⟨?_,fun y g=>c y ?_⟩
  ·have:=List.any_eq_false.1 h1.1.2 x i;simpa using this
  ·rw [oL];simp only [List.mem_append];exact .inl (.inr (z4u i g))
 ·obtain ⟨h1,c⟩:=b
  rw [cX] at h1
  simp only [Bool.or_eq_false_iff] at h1
  refine ⟨?_,fun y g=>c y ?_⟩
  ·have:=List.any_eq_false.1 h1.2 a h;simpa using this
  ·rw [oL];simp only [List.mem_append];exact .inr (z4t h g)
 ·have:=b.1
  rw [cX] at this;simp [d] at this
 ·exact y0z j (b.2 _ (by rw [oL,if_pos d];simp))
theorem j6b {c:Core} (h:yT c=0) (name:Bs) (args:List Val):q4e c name args:=by
 intro f a b hr g
 exact (q4q (nM h) (q3g (zI c)) a (y0z a hr) (y9l b) g).1
mutual
def tZ:Ex->Prop
 | .mk _ n _ args arms=>I64 n/\numsEs args/\numsEa arms
def numsEs:List Ex->Prop
 | []=>True
 | e::es=>tZ e/\numsEs es
def numsEa:List Arm->Prop
 | []=>True
 | .mk _ _ b::es=>tZ b/\numsEa es
end
mutual
theorem REx'.nums {V:Fz}:∀{x:Ex} {cs:List Value},REx' V x cs->tZ x
 | .mk _ _ _ _ _,_,⟨_,_,_,_,_,c,_,a,_,d⟩=>⟨c,REs'.nums a,RArms'.nums d⟩
theorem REs'.nums {V:Fz}:∀{xs:List Ex} {cs:List Value},REs' V xs cs->numsEs xs
 | [],_,_=>trivial
 | _::_,_,⟨_,_,_,_,b,a⟩=>⟨REx'.nums b,REs'.nums a⟩
theorem RArm'.nums {V:Fz}:∀{x:Arm} {cs:List Value},RArm' V x cs->tZ x.body
 | .mk _ _ _,_,⟨_,_,_,_,_,a⟩=>REx'.nums a
theorem RArms'.nums {V:Fz}:∀{xs:List Arm} {cs:List Value},RArms' V xs cs->numsEa xs
 | [],_,_=>trivial
 | .mk _ _ _::_,_,⟨_,_,_,_,b,a⟩=>⟨RArm'.nums b,RArms'.nums a⟩
end
theorem y1g {α:Type} {R:List Value->α->Prop} {k:Nat}:∀{xs:List α} {cs:List Value},Chunks R k cs xs->∀x∈xs,∃c,R c x
 | y::xs,_,h,x,a=>by
  obtain ⟨c,rest,_,_,b,d⟩:=h
  rcases List.mem_cons.1 a with rfl | a
  ·exact ⟨c,b⟩
  ·exact y1g d x a
theorem z7d {V:Fz} {d:List Value} {c:Core} (h:RCore V d c):∀f∈c.funs,tZ f.body:=fun f b=>by
 obtain ⟨_,_,_,_,_,_,_,a,_⟩:=h
 obtain ⟨_,_,a⟩:=a
 obtain ⟨_,_,_,_,_,hb⟩:=y1g a f b
 exact REx'.nums hb
theorem y4f:∀{l:List Ex},numsEs l->∀x∈l,tZ x
 | y::l,h,x,a=>by
  rcases List.mem_cons.1 a with rfl | a
  ·exact h.1
  ·exact y4f h.2 x a
theorem y4e:∀{l:List Arm},numsEa l->∀a∈l,tZ a.body
 | .mk _ _ b::l,h,x,c=>by
  rcases List.mem_cons.1 c with rfl | c
  ·exact h.1
  ·exact y4e h.2 x c
theorem x3z {e:Ex} (h:tZ e):I64 e.num/\(∀x∈e.args,tZ x)/\∀a∈e.arms,tZ a.body:=by
 cases e;exact ⟨h.1,y4f h.2.1,y4e h.2.2⟩
theorem z7g:∀(d f n:Nat),n < 10 ^ (d+1)->(gJ f n).length<=d+1
 | _,0,_,_=>by simp [gJ]
 | d,f+1,n,h=>by
  simp only [gJ]
  split
  ·simp
  ·rename_i a
   cases d with
   | zero=>omega
   | succ d=>
    have:=z7g d f (n / 10) (by rw [Nat.pow_succ] at h;omega)
    simp only [lcQ];omega
theorem j7q {n:Int} (h:I64 n):(z3k n).length<=24:=by
 have h1:∀m:Nat,m<=9223372036854775808->(cB m).length<=19:=fun m N=>by
  unfold cB;rw [List.length_reverse];exact z7g 18 _ _ (by omega)
 unfold I64 at h
 unfold z3k
 split
 ·have:=h1 (-n).toNat (by omega);simp only [lcQ];omega
 ·have:=h1 n.toNat (by omega);omega
theorem j5o:∀{l:List Ex},(∀x∈l,wfE x=true)->wfEs l=true
 | [],_=>rfl
 | y::l,h=>by
  simp only [wfEs,baQ]
  exact ⟨h y msQ,j5o fun x a=>h x (mcQ _ a)⟩
theorem j5n:∀{l:List Arm},(∀a∈l,wfE a.body=true/\a.con.size<=24/\∀v∈a.vars,v.size<=24)->wfEa l=true
 | [],_=>rfl
 | .mk c vs b::l,h=>by
  obtain ⟨h1,d,e⟩:=h (.mk c vs b) msQ
  simp only [wfEa,baQ,decide_eq_true_eq,List.all_eq_true]
  exact ⟨⟨⟨h1,j5n fun x f=>h x (mcQ _ f)⟩,d⟩,e⟩
theorem wfE_of {e:Ex} (h1:e.kind=7->0 < e.args.length) (c:∀x∈e.args,wfE x=true) (d:∀a∈e.arms,wfE a.body=true/\a.con.size<=24/\∀v∈a.vars,v.size<=24) (f:e.name.size<=24) (g:I64 e.num):wfE e=true:=by
 cases e with
 | mk k n s args arms=>
  simp only [wfE,baQ,Bool.or_eq_true,decide_eq_true_eq]
  refine ⟨⟨⟨⟨?_,j5o c⟩,j5n d⟩,f⟩,j7q g⟩
  by_cases b:k=7
  ·exact .inr (h1 b)
  ·exact .inl b
theorem All2.left {α β:Type} {R:α->β->Prop}:∀{xs:List α} {ys:List β},All2 R xs ys->∀x∈xs,∃y∈ys,R x y
 | x::xs,y::ys,h,z,a=>by
  rcases List.mem_cons.1 a with rfl | a
  ·exact ⟨y,msQ,h.1⟩
  ·obtain ⟨u,h1,b⟩:=All2.left h.2 z a;exact ⟨u,mcQ _ h1,b⟩
 | [],_,_,z,a=>by cases a
 | _::_,[],h,_,_=>h.elim
theorem y3x {l:List Ex} {x:Ex} (h:x∈l):∃p q,bindPs l=p++zQ x++q:=by
 induction l with
 | nil=>cases h
 | cons b az a=>
  simp only [bindPs]
  rcases List.mem_cons.1 h with rfl | h
  ·exact ⟨[],bindPs az,by simp⟩
  ·obtain ⟨p,q,e⟩:=a h
   exact ⟨zQ b++p,q,by rw [e];simp⟩
theorem y8g {e:Ex} {num:Bool} {a b:Int} (h:qE e num false a b=true):e.name=sNo:=by
 simp only [qE,baQ,Bool.false_or,decide_eq_true_eq] at h;exact h.1.1.2
theorem z3u {e:Ex} {num nm:Bool} {b:Int} (h:qE e num nm 0 b=true):e.args=[]:=List.eq_nil_of_length_eq_zero (xP (n:=0) h)
theorem nI {e:Ex} {num nm:Bool} {a:Int} (h:qE e num nm a 0=true):e.arms=[]:=by
 simp only [qE,baQ,Bool.or_eq_true,decide_eq_true_eq] at h
 rcases h.2 with h | h
 ·omega
 ·exact List.eq_nil_of_length_eq_zero (by omega)
structure Brief (T:Table):Prop where
 cons:∀n m,zL T.cons n=some m->n.size<=24
 funs:∀n f,zL T.funs n=some f->n.size<=24
 inputs:∀n t,zL T.inputs n=some t->n.size<=24
 datas:∀t d x,zL T.datas t=some d->x∈d.cons->x.name.size<=24
 dNo:zL T.datas sNo=none
structure Parts (T:Table) (e:Ex) (s:Scope):Prop where
 args:∀x∈e.args,∃s' u,(zQ x).Nodup/\Fresh s' (zQ x)/\Ty T x s' u/\∀m v,zL s' m=some v->m∈zQ e∨∃v',zL s m=some v'
 arms:∀a∈e.arms,(∃s' u,(zQ a.body).Nodup/\Fresh s' (zQ a.body)/\Ty T a.body s' u/\∀m v,zL s' m=some v->m∈zQ e∨∃v',zL s m=some v')/\∃n d c,zL T.datas n=some d/\c∈d.cons/\a.con=c.name
 name:e.name.size<=1∨e.name∈zQ e∨(∃v,zL s e.name=some v)∨(∃v,zL T.inputs e.name=some v)∨(∃m,zL T.cons e.name=some m)∨(∃f,zL T.funs e.name=some f)
 case1:e.kind=7->0 < e.args.length
 inp:e.kind=3->∃u,zL T.inputs e.name=some u
theorem z9r {T:Table} (F:zL T.datas sNo=none) {e:Ex} {s:Scope} {t:Bs} (g0:(zQ e).Nodup) (a0:Fresh s (zQ e)) (c:Ty T e s t):Parts T e s:=by
  obtain ⟨c,g⟩:=c
  have B:∀x∈e.args,mZ T x:=fun x D=>aL T F _ x (Nat.lt_succ_self _)
  have c0:∀a∈e.arms,mZ T a.body:=fun a o=>aL T F _ a.body (Nat.lt_succ_self _)
  have G:=wD e
  have X:=g0
  have M:=a0
  rw [G] at X M
  have L:=zU X
  have A:=zU L.1
  have w:Fresh s (bindPs e.args):=M.sub fun m N=>List.mem_append.2 (.inl (List.mem_append.2 (.inr N)))
  have Q:Fresh s (bindPa e.arms):=M.sub fun m N=>List.mem_append.2 (.inr N)
  have all:∀ts,All2 (fun x t=>Ty T x s t) e.args ts->∀x∈e.args,∃s' u,(zQ x).Nodup/\Fresh s' (zQ x)/\Ty T x s' u/\∀m v,zL s' m=some v->m∈zQ e∨∃v',zL s m=some v':=fun ts o x D=>by
   obtain ⟨u,_,hu⟩:=All2.left o x D
   obtain ⟨p,q,V⟩:=y3x D
   have k1:(zQ x).Nodup:=by have:=A.2.1;rw [V] at this;exact (zU (zU this).1).2.1
   exact ⟨s,u,k1,w.sub fun m N=>by rw [V];simp [N],hu,fun m v h=>.inr ⟨v,h⟩⟩
  by_cases h1:e.kind=1
  ·rw [nP T e s h1] at c
   simp only [gY] at c
   split at c
   ·rename_i i
    exact ⟨by rw [z3u i];simp,by rw [nI i];simp,.inl (by rw [y8g i];decide),fun h=>by omega,fun h=>by omega⟩
   ·exact absurd c.symm g
  by_cases h2:e.kind=2
  ·rw [mS T e s h2] at c
   simp only [wJ] at c
   split at c
   ·rename_i i
    cases hl:zL s e.name with
    | none=>rw [hl] at c;exact absurd c.symm g
    | some u=>exact ⟨by rw [z3u i];simp,by rw [nI i];simp,.inr (.inr (.inl ⟨u,hl⟩)),fun h=>by omega,fun h=>by omega⟩
   ·exact absurd c.symm g
  by_cases h3:e.kind=3
  ·rw [mP T e s h3] at c
   simp only [oT] at c
   split at c
   ·rename_i i
    cases hl:zL T.inputs e.name with
    | none=>rw [hl] at c;exact absurd c.symm g
    | some u=>exact ⟨by rw [z3u i];simp,by rw [nI i];simp,.inr (.inr (.inr (.inl ⟨u,hl⟩))),fun h=>by omega,fun _=>⟨u,hl⟩⟩
   ·exact absurd c.symm g
  by_cases h4:e.kind=4
  ·rw [mO T e s h4] at c
   unfold sY at c
   split at c
   ·exact absurd c.symm g
   ·rename_i m N
    split at c
    ·rename_i i
     split at c
     ·rename_i o
      exact ⟨all _ (aF B A.2.1 w o).2,by rw [nI i];simp,.inr (.inr (.inr (.inr (.inl ⟨m,N⟩)))),fun h=>by omega,fun h=>by omega⟩
     ·exact absurd c.symm g
    ·exact absurd c.symm g
  by_cases h5:e.kind=5
  ·rw [wS T e s h5] at c
   unfold nA at c
   split at c
   ·exact absurd c.symm g
   ·rename_i f N
    split at c
    ·rename_i i
     split at c
     ·rename_i o
      exact ⟨all _ (aF B A.2.1 w o).2,by rw [nI i];simp,.inr (.inr (.inr (.inr (.inr ⟨f,N⟩)))),fun h=>by omega,fun h=>by omega⟩
     ·exact absurd c.symm g
    ·exact absurd c.symm g
  by_cases W:e.kind=6
  ·rw [mQ T e s W] at c
   unfold z0v at c
   split at c
   ·rename_i i
    have hl:=xP (n:=2) i
    obtain ⟨x,y,j⟩:∃x y,e.args=[x,y]:=by
     cases o:e.args with
     | nil=>rw [o] at hl;simp at hl
     | cons a l=>
      cases l with
      | nil=>rw [o] at hl;simp at hl
      | cons b l=>
       rw [o] at hl
       simp only [lcQ] at hl
       have:l=[]:=List.eq_nil_of_length_eq_zero (by omega)
       subst this;exact ⟨a,b,rfl⟩
    have D:e.args[0]? = some x:=by rw [j];rfl
    have hy:e.args[1]? = some y:=by rw [j];rfl
    by_cases E:(zG T x s).1=sNo
    ·rw [z2z D E] at c;exact absurd c.symm g
    ·rw [oX D hy E] at c
     simp only at c
     have K:x∈e.args:=by rw [j];simp
     simp only [if_pos W,j,bindPs,List.append_nil] at X M
     have f0:=zU X
     have U:=zU f0.1
     have I:=zU U.2.1
     have R:Fresh s (zQ x):=M.sub fun m N=>by simp [N]
     have Y:=B x K s I.1 R E
     have P:e.name∈zQ e:=by rw [G,if_pos W];simp
     have S:Fresh (wL s e.name (zG T x s).1) (zQ y):=fun m N=>by
      rw [kC,if_neg]
      ·exact M m (by simp [N])
      ·rintro rfl
       exact U.2.2 e.name (by simp) (by simp [N])
     rw [Y] at c
     refine ⟨fun z C=>?_,by rw [nI i];simp,.inr (.inl P),fun h=>by omega,fun h=>by omega⟩
     rw [j] at C
     rcases List.mem_cons.1 C with rfl | C
     ·exact ⟨s,_,I.1,R,⟨rfl,E⟩,fun m v h=>.inr ⟨v,h⟩⟩
     ·rcases List.mem_cons.1 C with rfl | C
      ·refine ⟨_,t,I.2.1,S,⟨c,g⟩,fun m u N=>?_⟩
       rw [kC] at N
       split at N
       ·rename_i h;rw [h];exact .inl P
       ·exact .inr ⟨u,N⟩
      ·cases C
   ·exact absurd c.symm g
  by_cases h7:e.kind=7
  ·rw [mN T e s h7] at c
   unfold jT at c
   split at c
   ·rename_i i
    have hl:=xP (n:=1) i
    obtain ⟨x,j⟩:∃x,e.args=[x]:=by
     cases o:e.args with
     | nil=>rw [o] at hl;simp at hl
     | cons a l=>
      rw [o] at hl
      simp only [lcQ] at hl
      have:l=[]:=List.eq_nil_of_length_eq_zero (by omega)
      subst this;exact ⟨a,rfl⟩
    have D:e.args[0]? = some x:=by rw [j];rfl
    have K:x∈e.args:=by rw [j];simp
    rw [jC D] at c
    split at c
    ·exact absurd c.symm g
    ·rename_i d Z
     split at c
     ·rename_i d0
      have E:(zG T x s).1≠sNo:=fun e0=>by rw [e0,F] at Z;cases Z
      rw [j] at A w
      simp only [bindPs,List.append_nil] at A w
      have Y:=B x K s A.2.1 w E
      rw [Y] at c
      have k0:=z0f g c0 d0 L.2.1 Q c
      refine ⟨fun z C=>?_,fun a o=>?_,.inl (by rw [y8g i];decide),fun _=>by omega,fun h=>by omega⟩
      ·rw [j] at C
       rcases List.mem_cons.1 C with rfl | C
       ·exact ⟨s,_,A.2.1,w,⟨rfl,E⟩,fun m v h=>.inr ⟨v,h⟩⟩
       ·cases C
      ·obtain ⟨k,hk,q3,q4,q5⟩:=All2.left k0.2.1 a o
       obtain ⟨l,r,H⟩:=z4e o
       have i0:(a.vars++zQ a.body).Nodup:=by
        have:=L.2.1
        rw [H] at this
        exact (zU (zU this).1).2.1
       have b0:Fresh s (a.vars++zQ a.body):=Q.sub fun m N=>by rw [H];simp at N ⊢;rcases N with N | N <;> simp [N]
       have hnn':=zU i0
       refine ⟨⟨putAll s a.vars k.fields,t,hnn'.2.1,fun m N=>by
        rw [xZ (fun hp=>hnn'.2.2 m hp N)];exact b0 m (List.mem_append.2 (.inr N)),q5,fun m u N=>?_⟩,_,d,k,Z,hk,q3⟩
       by_cases hv:m∈a.vars
       ·exact .inl (by rw [G,H];simp [hv])
       ·rw [xZ hv] at N;exact .inr ⟨u,N⟩
     ·exact absurd c.symm g
   ·exact absurd c.symm g
  by_cases h8:e.kind=8
  ·rw [aC T e s h8] at c
   unfold mY at c
   split at c
   ·rename_i i
    split at c
    ·rename_i o
     refine ⟨all _ (aF B A.2.1 w o).2,by rw [nI i];simp,.inl ?_,fun h=>by omega,fun h=>by omega⟩
     simp only at c
     unfold opT at c
     split at c
     ·rename_i ho
      rcases ho with h | h | h | h | h <;> rw [h] <;> decide
     ·split at c
      ·rename_i ho
       rcases ho with h | h <;> rw [h] <;> decide
      ·exact absurd c.symm g
    ·exact absurd c.symm g
   ·exact absurd c.symm g
  rw [mR T e s h1 h2 h3 h4 h5 W h7 h8] at c
  exact absurd c.symm g
theorem y6c {T:Table} (b:Brief T):∀(n:Nat) (e:Ex),e.sz < n->∀(s:Scope) (t:Bs),(zQ e).Nodup->Fresh s (zQ e)->Ty T e s t->(∀m∈zQ e,m.size<=24)->(∀m u,zL s m=some u->m.size<=24)->tZ e->wfE e=true
 | 0,_,h=>by omega
 | n+1,e,G=>by
  intro s t F E H hb O o
  obtain ⟨l,A,B⟩:=x3z o
  have w:=z9r b.dNo F E H
  have z:∀x∈e.args,∀m∈zQ x,m.size<=24:=fun x i m N=>hb m (by
   obtain ⟨p,q,g⟩:=y3x i
   rw [wD,g];simp [N])
  have j:∀a∈e.arms,∀m∈a.vars++zQ a.body,m.size<=24:=fun a f m N=>hb m (by
   obtain ⟨p,q,g⟩:=z4e f
   rw [wD,g];simp at N ⊢;rcases N with N | N <;> simp [N])
  have r:∀s':Scope,(∀m v,zL s' m=some v->m∈zQ e∨∃v',zL s m=some v')->∀m u,zL s' m=some u->m.size<=24:=fun s' h m u N=>by
   rcases h m u N with h | ⟨v,h⟩
   ·exact hb m h
   ·exact O m v h
  refine wfE_of w.case1 (fun x i=>?_) (fun a f=>?_) ?_ l
  ·obtain ⟨s',u,y,a2,a3,a4⟩:=w.args x i
   exact y6c b n x (by have:=Ex.lt_args i;omega) s' u y a2 a3 (z x i) (r s' a4) (A x i)
  ·obtain ⟨⟨s',u,y,a2,a3,a4⟩,k,d,c,h1,C,D⟩:=w.arms a f
   exact ⟨y6c b n a.body (by have:=Ex.lt_arms f;omega) s' u y a2 a3 (fun m N=>j a f m (List.mem_append.2 (.inr N))) (r s' a4) (B a f),by rw [D];exact b.datas _ _ _ h1 C,
    fun v I=>j a f v (List.mem_append.2 (.inl I))⟩
  ·rcases w.name with h | h | ⟨v,h⟩ | ⟨v,h⟩ | ⟨v,h⟩ | ⟨v,h⟩
   ·omega
   ·exact hb _ h
   ·exact O _ _ h
   ·exact b.inputs _ _ h
   ·exact b.cons _ _ h
   ·exact b.funs _ _ h
theorem z1x {T:Table} (b:zL T.datas sNo=none) (c:∀n,zL T.inputs n=none):∀(n:Nat) (e:Ex),e.sz < n->∀(s:Scope) (t:Bs),(zQ e).Nodup->Fresh s (zQ e)->Ty T e s t->xT e=false
 | 0,_,h=>by omega
 | n+1,e,m=>by
  intro s t l k o
  have f:=z9r b l k o
  rw [cX]
  simp only [Bool.or_eq_false_iff,decide_eq_false_iff_not,List.any_eq_false,Bool.not_eq_true]
  refine ⟨⟨fun h=>?_,fun x j=>?_⟩,fun a g=>?_⟩
  ·obtain ⟨u,i⟩:=f.inp h;rw [c] at i;cases i
  ·obtain ⟨s',u,d,a2,a3,_⟩:=f.args x j
   exact z1x b c n x (by have:=Ex.lt_args j;omega) s' u d a2 a3
  ·obtain ⟨⟨s',u,d,a2,a3,_⟩,_⟩:=f.arms a g
   exact z1x b c n a.body (by have:=Ex.lt_arms g;omega) s' u d a2 a3
theorem cR {s:Bs} (h:qF s=true):s.size<=24:=by
 simp only [qF,kW,decide_eq_true_eq] at h
 split at h
 ·cases h
 ·omega
theorem tL {s:Bs} (h:qC s=true):s.size<=24:=by
 simp only [qC,kW,decide_eq_true_eq] at h
 split at h
 ·cases h
 ·omega
theorem q4o {c:Core} (a:Right c):Brief (zI c) where
 cons n m h:=by
  rw [a.cons] at h
  obtain ⟨d,g,_,e,rfl⟩:=y8n h
  exact tL ((a.dN d g).2.2.2 _ e)
 funs n f h:=by
  rw [a.funs] at h
  obtain ⟨x,b,rfl,_⟩:=xM h
  exact cR (a.fN x b)
 inputs n t h:=by
  rw [a.inputs] at h
  obtain ⟨x,b,rfl,_⟩:=xM h
  exact cR (a.iN x b)
 datas t d x h b:=by
  rw [a.datas] at h
  obtain ⟨y,i,rfl,rfl⟩:=xM h
  exact tL ((a.dN y i).2.2.2 _ b)
 dNo:=(z2c (inp:=[]) a).dNo
theorem j5p {c:Core} (a:Right c) {f:Fun} (e:f∈c.funs) (g:tZ f.body):wfE f.body=true:=by
 have h1:=a.fOk f e
 have i:=h1
 simp only [pC,baQ,decide_eq_true_eq] at h1
 obtain ⟨d,_,a3⟩:=vD h1.1.2
 have a4:=zU d
 refine y6c (q4o a) _ f.body (Nat.lt_succ_self _) (tA f.params) f.result a4.2.1 (fun m N=>?_) ⟨h1.2,j5l a h1.1.1.2⟩ (fun m N=>cR (a3 m (List.mem_append.2 (.inr N)))) (fun m u N=>?_) g
 ·rw [cY,xZ (fun h=>a4.2.2 m h N)];rfl
 ·by_cases b:m∈f.params.map Param.name
  ·exact cR (a3 m (List.mem_append.2 (.inl b)))
  ·rw [cY,xZ b] at N;cases N
theorem z8i {c:Core} (a:Right c) {t:Bs} (h:vW (zI c) t=true):t.size<=24:=by
 simp only [vW,Bool.or_eq_true,decide_eq_true_eq] at h
 rcases h with h | h
 ·rw [a.datas] at h
  cases b:zL (vG Data.name id (truthsD::c.datas)) t with
  | none=>rw [b] at h;cases h
  | some d=>
   obtain ⟨x,e,rfl,_⟩:=xM b
   exact tL (a.dN x e).1
 ·rw [h];decide
theorem z5j (name:Bs):∀(l:List Data) (n:Int) (ok:Bool),(∀d∈l,d.name≠name)->(pR name l n ok).1=n
 | [],_,_,_=>rfl
 | d::l,n,ok,h=>by
  simp only [pR,if_neg (h d msQ)]
  exact z5j name l n ok fun x a=>h x (mcQ _ a)
theorem x3c {c:Core} (f:Right c) {t:Bs} (h:jG c.datas t=true):t.size<=24:=by
 unfold jG at h
 split at h
 ·rename_i e;rw [e];decide
 ·simp only [baQ,decide_eq_true_eq] at h
  by_cases b:∃d∈c.datas,d.name=t
  ·obtain ⟨d,a,rfl⟩:=b
   exact tL (f.dN d (mcQ _ a)).1
  ·have:=z5j t c.datas 0 true (fun d a e=>b ⟨d,a,e⟩)
   rw [this] at h;omega
theorem q2s {m:Nat}:∀{l:List Bs},(∀x∈l,x.size<=m)->pW l<=l.length * m
 | [],_=>by simp [pW]
 | x::l,h=>by
  have h1:=h x msQ
  have b:=q2s (l:=l) fun y a=>h y (mcQ _ a)
  rw [nU,lcQ,Nat.add_mul];omega
theorem q5y (sep:Bs) (l:List Bs):(pE sep l).size<=pW l+sep.size * l.length:=by
 cases l with
 | nil=>show 0<=_;omega
 | cons x l=>
  have:∀(l:List Bs) (a:Bs),(l.foldl (fun a s=>a++sep++s) a).size=a.size+pW l+sep.size * l.length:=by
   intro l
   induction l with
   | nil=>intro a;simp [pW]
   | cons y l b=>
    intro a
    rw [List.foldl_cons,b,zB,zB,nU,lcQ,Nat.mul_add];omega
  have h:=this l x
  simp only [pE]
  rw [h,nU,lcQ,Nat.mul_add];omega
theorem y1h {c:Core} (a:Right c) (hl:xX c=false) {d:Data} (b:d∈c.datas) {x:Con} (e:x∈d.cons):pW (x.name::x.fields)+(⟨#[32]⟩:Bs).size * (x.name::x.fields).length<=425:=by
 have h1:=tL ((a.dN d (mcQ _ b)).2.2.2 x e)
 have f:=a.fields d b
 simp only [nC,List.all_eq_true] at f
 have i:pW x.fields<=x.fields.length * 24:=q2s fun y h=>z8i a (f x e y h)
 have j:x.fields.length<=16:=by
  simp only [xX,Bool.or_eq_false_iff,List.any_eq_false] at hl
  have:=hl.1.2 d b
  simp only [gM,Bool.or_eq_true,decide_eq_true_eq,List.any_eq_true,not_or,not_exists,not_and] at this
  have:=this.2 x e
  omega
 have g:(⟨#[32]⟩:Bs).size=1:=rfl
 rw [g,nU,lcQ];omega
theorem z7e {c:Core} (f:Right c) (hl:xX c=false) {d:Data} (a:d∈c.datas):pW (d.cons.map z1e)+(⟨#[32,124,32]⟩:Bs).size * (d.cons.map z1e).length<=6848:=by
 have i:d.cons.length<=16:=by
  simp only [xX,Bool.or_eq_false_iff,List.any_eq_false] at hl
  have:=hl.1.2 d a
  simp only [gM,Bool.or_eq_true,decide_eq_true_eq,not_or] at this
  omega
 have b:pW (d.cons.map z1e)<=(d.cons.map z1e).length * 425:=q2s fun y h=>by
  obtain ⟨x,g,rfl⟩:=List.mem_map.1 h
  exact Nat.le_trans (q5y _ _) (y1h f hl a g)
 have e:(⟨#[32,124,32]⟩:Bs).size=3:=rfl
 rw [e];rw [List.length_map] at b ⊢;omega
theorem y4q {c:Core} (h:yT c=0) (t:∀f∈c.funs,tZ f.body):(kU c).size<=8796093022208:=by
 have a:=nM h
 obtain ⟨hl,_⟩:=mH h
 have g:=hl
 simp only [xX,Bool.or_eq_false_iff,decide_eq_false_iff_not] at g
 obtain ⟨⟨⟨⟨⟨F,G⟩,H⟩,I⟩,_⟩,_⟩:=g
 have w:(qY (c.datas.map tN)).size<=(c.datas.map tN).length * 7000:=oC fun y e=>by
  obtain ⟨d,q,rfl⟩:=List.mem_map.1 e
  have n:=tL (a.dN d (mcQ _ q)).1
  have r:=Nat.le_trans (q5y _ _) (z7e a hl q)
  simp only [tN,zB]
  have k:(⟨#[100,97,116,97,32]⟩:Bs).size=5:=rfl
  have e2:(⟨#[32,61,32]⟩:Bs).size=3:=rfl
  have l:(⟨#[10]⟩:Bs).size=1:=rfl
  omega
 have A:(qY (c.inputs.map aK)).size<=(c.inputs.map aK).length * 100:=oC fun y e=>by
  obtain ⟨p,j,rfl⟩:=List.mem_map.1 e
  have n:=cR (a.iN p j)
  have r:=x3c a (a.inT p j)
  simp only [aK,zB]
  have k:(⟨#[105,110,112,117,116,32]⟩:Bs).size=6:=rfl
  have e2:(⟨#[32,58,32]⟩:Bs).size=3:=rfl
  have l:(⟨#[10]⟩:Bs).size=1:=rfl
  omega
 have B:(qY (c.funs.map tR)).size<=(c.funs.map tR).length * 4000000:=oC fun y e=>by
  obtain ⟨f,b,rfl⟩:=List.mem_map.1 e
  have n:=cR (a.fN f b)
  have h1:=a.fOk f b
  simp only [pC,baQ,decide_eq_true_eq,List.all_eq_true] at h1
  have r:=z8i a h1.1.1.2
  have K:=z5r hl b
  obtain ⟨m,s,i⟩:=cQ hl b
  have L:=z2i f.body m (j5p a b (t f b)) i
  have M:=(kJ f.body m i).1
  have P:=jL f.body
  have D:(qY (f.params.map gE)).size<=(f.params.map gE).length * 100:=oC fun z v=>by
   obtain ⟨p,j,rfl⟩:=List.mem_map.1 v
   have Q:=cR ((vD h1.1.2).2.2 p.name (List.mem_append.2 (.inl (List.mem_map_of_mem j))))
   have R:=z8i a (h1.1.1.1 p j)
   simp only [gE,zB]
   have k:(⟨#[32,40]⟩:Bs).size=2:=rfl
   have e2:(⟨#[32,58,32]⟩:Bs).size=3:=rfl
   have l:(⟨#[41]⟩:Bs).size=1:=rfl
   omega
  rw [List.length_map] at D
  simp only [tR,zB]
  have k:(⟨#[102,117,110,32]⟩:Bs).size=4:=rfl
  have e2:(⟨#[32,58,32]⟩:Bs).size=3:=rfl
  have l:(⟨#[32,61,32]⟩:Bs).size=3:=rfl
  have E:(⟨#[10]⟩:Bs).size=1:=rfl
  omega
 have C:(qY (c.outputs.map uA)).size<=(c.outputs.map uA).length * 100:=oC fun y e=>by
  obtain ⟨o,u,rfl⟩:=List.mem_map.1 e
  obtain ⟨f,b,_⟩:=uW a.oOk o u
  have n:=(q4o a).funs _ _ b
  simp only [uA,zB]
  have k:(⟨#[111,117,116,112,117,116,32]⟩:Bs).size=7:=rfl
  have l:(⟨#[10]⟩:Bs).size=1:=rfl
  omega
 rw [List.length_map] at w A B C
 simp only [kU,zB]
 omega
theorem j8n {c:Core} (b:Right c) (e:c.inputs=[]) (n:Bs):¬pA (zI c) n:=by
 rintro ⟨x,_,a⟩
 cases d:zL (zI c).funs x with
 | none=>rw [uL d] at a;simp [ex0,xT,readsPs,readsPa] at a
 | some f=>
  rw [oR d] at a
  have g:=q5n (C:=⟨(zI c).funs,[]⟩) (z2c b) d
  have a4:=zU g.nodup
  have:=z1x (z2c (inp:=[]) b).dNo (fun n=>by rw [b.inputs,e];rfl) _ f.body (Nat.lt_succ_self _) (tA f.params) f.result a4.2.1 (fun m N=>by
   rw [cY,xZ (fun h=>a4.2.2 m h N)];rfl) g.ty
  rw [this] at a;cases a
theorem x0q {c:Core} {o:Bs} {f:Fun} {v:Val} {g1 a:Nat} (d:yT c=0) (b:c.inputs=[]) (g:zL (zI c).funs o=some f) (j:f.params=[])
  (h:vC (qM ⟨(zI c).funs,[]⟩) f [] g1=.ok v a) (k:g1<=4000) (hl:kR v=false):qB c o [] 4001=(v,((g1 - a+1:Nat):Int),0):=by
 have i:=dI h
 have e:=y8j h (4000 - (g1 - a))
 rw [show g1 - a+(4000 - (g1 - a))=(4001:Int).toNat - 1 by simp;omega] at e
 rw [z1a d (by omega) g (by rw [j];rfl) (j8n (nM d) b o),y1b (by decide) e hl]
 simp only [Prod.mk.injEq,true_and,and_true]
 simp;omega
noncomputable def y8q (c:Core) (o:Bs):Int:=(qB c o [] 4001).2.1
theorem x0c {c:Core} (d:yT c=0) (b:c.inputs=[]):∀{os:List Bs} {g r:Nat} {vs:List Val},(∀o∈os,o∈c.outputs)->g<=4000->xC ⟨(zI c).funs,[]⟩ os g=.ok vs r->vs.any kR=false ->
  All2 (fun o v=>(qB c o [] 4001).1=v/\(qB c o [] 4001).2.2=0/\0<=y8q c o/\y8q c o<=4001) os vs/\(os.map (y8q c)).sum=((g - r:Nat):Int)+os.length/\r<=g
 | [],g,r,vs,_,_,h,_=>by
  simp only [xC,Ev.ok.injEq] at h
  obtain ⟨rfl,rfl⟩:=h
  exact ⟨trivial,by simp,Nat.le_refl _⟩
 | o::os,g,r,vs,k,n,h,hl=>by
  obtain ⟨f,j,q⟩:=uW (nM d).oOk o (k o msQ)
  rw [cV j] at h
  obtain ⟨v,g1,e,e2⟩:=Ev.bind_ok h
  obtain ⟨l,w,m,i⟩:=Ev.bind_ok e2
  simp only [Ev.ok.injEq] at i
  obtain ⟨rfl,rfl⟩:=i
  simp only [List.any_cons,Bool.or_eq_false_iff] at hl
  have p:=dI e
  obtain ⟨t,u,y⟩:=x0c d b (fun x s=>k x (mcQ _ s)) (by omega) m hl.2
  have a:=x0q d b j q e n hl.1
  refine ⟨⟨⟨by rw [a],by rw [a],by simp only [y8q,a];omega,by simp only [y8q,a];omega⟩,t⟩,?_,by omega⟩
  simp only [List.map_cons,List.sum_cons,u,lcQ,y8q,a]
  omega
section
variable {ws:List Bs} {i:Nat}
theorem y4s {α β:Type} {r:Rd α} {f:α->Nat->Rd β} {y:β×Nat} (h:yR r f=.ok y):∃x j,r=.ok (x,j)/\f x j=.ok y:=by
 unfold yR at h
 split at h
 ·exact ⟨_,_,rfl,h⟩
 ·cases h
theorem zC {α β:Type} {r:Rd α} {f:α->Nat->Rd β} {x:α×Nat} (h:r=.ok x):yR r f=f x.1 x.2:=by subst h;rfl
theorem zP {α β:Type} {r:Rd α} {f:α->Nat->Rd β} {n:Nat} (h:r=.error n):yR r f=.error n:=by subst h;rfl
theorem pS (h:¬zD ws i=⟨#[]⟩):i < ws.length:=by
 refine Classical.byContradiction fun a=>h ?_
 unfold zD
 rw [List.getD_eq_getElem?_getD,List.getElem?_eq_none (by omega)];rfl
theorem jQ {x:Bs} (h:ws[i]? = some x):zD ws i=x:=by unfold zD;rw [List.getD_eq_getElem?_getD,h];rfl
theorem x4k (h:¬i < ws.length):zD ws i=⟨#[]⟩:=by unfold zD;rw [List.getD_eq_getElem?_getD,List.getElem?_eq_none (by omega)];rfl
theorem y5o {p:Bs->Bool} (h:¬zD ws i=⟨#[]⟩) (b:p (zD ws i)=true):nE ws p i=.ok (zD ws i,i+1):=by
 unfold nE;rw [if_neg];rintro (a | a);exact h a;rw [b] at a;cases a
theorem x5m {p:Bs->Bool} (h:zD ws i=⟨#[]⟩):nE ws p i=.error (i+1):=by unfold nE;rw [if_pos (.inl h)]
theorem j9h {p:Bs->Bool} (h:p (zD ws i)=false):nE ws p i=.error (i+1):=by unfold nE;rw [if_pos (.inr h)]
theorem z8f {p:Bs->Bool} {x:Bs×Nat} (h:nE ws p i=.ok x):x.2=i+1/\i < ws.length/\p x.1=true:=by
 unfold nE at h
 split at h
 ·cases h
 ·rename_i a
  simp only [Except.ok.injEq] at h
  subst h
  exact ⟨rfl,pS fun e=>a (.inl e),by cases b:p (zD ws i) with | true=>rfl | false=>exact absurd (.inr b) a⟩
theorem x3y {w:Bs} {x:Bs×Nat} (h:nE ws (fun s=>decide (s=w)) i=.ok x):wN ws w i=.ok ((),x.2):=by unfold wN;rw [zC h]
theorem j8e {w:Bs} {n:Nat} (h:nE ws (fun s=>decide (s=w)) i=.error n):wN ws w i=.error n:=by unfold wN;rw [zP h]
theorem q0i {w:Bs} {x:Unit×Nat} (h:wN ws w i=.ok x):x.2=i+1/\i < ws.length:=by
 obtain ⟨y,j,h1,a⟩:=y4s h
 have:=z8f h1
 simp only [Except.ok.injEq] at a
 subst a;exact ⟨this.1,this.2.1⟩
def Goes (ws:List Bs) {α:Type} (f:Nat->Rd α):Prop:=∀i x,f i=.ok x->i < x.2/\x.2<=ws.length
def Stays (ws:List Bs) {α:Type} (f:Nat->Rd α):Prop:=∀i x,i<=ws.length->f i=.ok x->i<=x.2/\x.2<=ws.length
theorem Goes.stays {α:Type} {f:Nat->Rd α} (h:Goes ws f):Stays ws f:=fun i x _ a=>⟨Nat.le_of_lt (h i x a).1,(h i x a).2⟩
theorem xY (p:Bs->Bool):Goes ws (nE ws p):=fun i x h=>by have:=z8f h;omega
theorem pJ (w:Bs):Goes ws (wN ws w):=fun i x h=>by have:=q0i h;omega
theorem Goes.bind {α β:Type} {f:Nat->Rd α} {g:α->Nat->Rd β} (c:Goes ws f) (d:∀x,Stays ws (g x)):Goes ws (fun i=>yR (f i) g):=fun i y h=>by
 obtain ⟨x,j,h1,b⟩:=y4s h
 have a:=c i _ h1
 have e:=d x j y a.2 b
 simp only at a;omega
theorem Stays.bind {α β:Type} {f:Nat->Rd α} {g:α->Nat->Rd β} (c:Stays ws f) (d:∀x,Stays ws (g x)):Stays ws (fun i=>yR (f i) g):=fun i y e h=>by
 obtain ⟨x,j,h1,b⟩:=y4s h
 have a:=c i _ e h1
 have k:=d x j y a.2 b
 simp only at a;omega
theorem Stays.ok {α:Type} (x:α):Stays ws (fun i=>.ok (x,i)):=fun i y a h=>by simp only [Except.ok.injEq] at h;subst h;exact ⟨Nat.le_refl _,a⟩
theorem Stays.from {α:Type} {f:Nat->Rd α} (h:Stays ws f) {j:Nat} {y:α×Nat} (b:i < j) (hl:j<=ws.length) (a:f j=.ok y):i < y.2/\y.2<=ws.length:=by
 have:=h j y hl a;omega
theorem uQ {ex:Nat->Rd Ex} (J:Goes ws ex):∀f least,Stays ws (wI ws ex f least)
 | 0,_=>fun i x _ h=>by cases h
 | f+1,least=>fun i x a h=>by
  simp only [wI] at h
  split at h
  ·exact (J.bind fun e=>(uQ J f (least - 1)).bind fun l=>Stays.ok _).stays i x a h
  ·exact Stays.ok _ i x a h
theorem y5v {ex:Nat->Rd Ex} (J:Goes ws ex):Goes ws (z6k ex):=J.bind fun _=>(J.bind fun _=>Stays.ok _).stays
theorem y5z:∀f,Stays ws (gO ws f)
 | 0=>fun i x _ h=>by cases h
 | f+1=>fun i x a h=>by
  simp only [gO] at h
  split at h
  ·exact ((xY qF).bind fun e=>(y5z f).bind fun l=>Stays.ok _).stays i x a h
  ·exact Stays.ok _ i x a h
theorem x0i {ex:Nat->Rd Ex} (J:Goes ws ex):Goes ws (armP ws ex) :=
 (pJ _).bind fun _=>(xY qC).stays.bind fun _=>(y5z _).bind fun _=>(pJ _).stays.bind fun _=>J.stays.bind fun _=>(pJ _).stays.bind fun _=>Stays.ok _
theorem y0t {ex:Nat->Rd Ex} (J:Goes ws ex):∀f b,Stays ws (oK ws ex f b)
 | 0,_=>fun i x _ h=>by cases h
 | f+1,b=>fun i x a h=>by
  simp only [oK] at h
  split at h
  ·exact ((x0i J).bind fun e=>(y0t J f false).bind fun l=>Stays.ok _).stays i x a h
  ·exact Stays.ok _ i x a h
theorem y9f {ex:Nat->Rd Ex} (J:Goes ws ex):Goes ws (yW ws ex):=fun i x h=>by
 have lt:∀{s:Bs},s≠⟨#[]⟩->zD ws i=s->i+1<=ws.length:=fun O e=>pS (by rw [e];exact O)
 unfold yW at h
 split at h
 ·rename_i a
  have:i+1<=ws.length:=pS fun e=>by rw [e] at a;exact absurd a (by decide)
  exact Stays.from (i:=i) ((y5v J).stays.bind fun _=>Stays.ok _) (Nat.lt_succ_self _) this h
 split at h
 ·rename_i e
  exact Stays.from (i:=i) ((xY qF).stays.bind fun _=>(y5v J).stays.bind fun _=>Stays.ok _) (Nat.lt_succ_self _) (lt (by decide) e) h
 split at h
 ·rename_i e
  exact Stays.from (i:=i) (J.stays.bind fun _=>(y0t J _ _).bind fun _=>Stays.ok _) (Nat.lt_succ_self _) (lt (by decide) e) h
 split at h
 ·rename_i b
  have:i+1<=ws.length:=pS fun e=>by rw [e] at b;exact absurd b (by decide)
  exact Stays.from (i:=i) ((uQ J _ _).bind fun _=>Stays.ok _) (Nat.lt_succ_self _) this h
 ·exact ((xY qF).bind fun _=>(uQ J _ _).bind fun _=>Stays.ok _) i x h
theorem vR:∀d,Goes ws (zT ws d)
 | 0=>fun i x h=>by cases h
 | d+1=>fun i x h=>by
  simp only [zT] at h
  split at h
  ·cases h
  rename_i a
  have hl:i+1<=ws.length:=pS a
  split at h
  ·simp only [Except.ok.injEq] at h;subst h;exact ⟨Nat.lt_succ_self _,hl⟩
  split at h
  ·exact Stays.from (i:=i) ((y9f (vR d)).stays.bind fun _=>(pJ _).stays.bind fun _=>Stays.ok _) (Nat.lt_succ_self _) hl h
  split at h
  ·simp only [Except.ok.injEq] at h;subst h;exact ⟨Nat.lt_succ_self _,hl⟩
  split at h
  ·simp only [Except.ok.injEq] at h;subst h;exact ⟨Nat.lt_succ_self _,hl⟩
  ·exact ((xY qF).bind fun _=>Stays.ok _) i x h
theorem z5e:∀f,Stays ws (kF ws f)
 | 0=>fun i x _ h=>by cases h
 | f+1=>fun i x a h=>by
  simp only [kF] at h
  split at h
  ·exact ((xY qC).bind fun e=>(z5e f).bind fun l=>Stays.ok _).stays i x a h
  ·exact Stays.ok _ i x a h
theorem z5w:∀f,Stays ws (wA ws f)
 | 0=>fun i x _ h=>by cases h
 | f+1=>fun i x a h=>by
  simp only [wA] at h
  split at h
  ·rename_i e
   have hl:i+1<=ws.length:=pS (by rw [e];decide)
   have:=Stays.from (i:=i) (((xY qF).bind fun n=>((pJ j2c).bind fun _=>((xY qC).bind fun t=>Stays.ok (⟨n,t⟩:Param)).stays).stays).stays.bind fun _=>(pJ sCls).stays.bind fun _=>(z5w f).bind fun _=>Stays.ok _) (Nat.lt_succ_self _) hl h
   omega
  ·exact Stays.ok _ i x a h
theorem j1d:Goes ws (wV ws):=(xY qF).bind fun _=>(pJ _).stays.bind fun _=>(xY qC).stays.bind fun _=>Stays.ok _
theorem y8p:∀f,Goes ws (oN ws f)
 | 0=>fun i x h=>by cases h
 | f+1=>by
  refine (xY qC).bind fun n=>(z5e _).bind fun l=>?_
  intro i x b h
  simp only at h
  split at h
  ·exact Stays.ok _ i x b h
  ·rename_i e
   have e':zD ws i=sBar:=Classical.byContradiction fun a=>e a
   have hl:i+1<=ws.length:=pS (by rw [e'];decide)
   have:=Stays.from (i:=i) ((y8p f).stays.bind fun _=>Stays.ok _) (Nat.lt_succ_self _) hl h
   omega
theorem j6l:Goes ws (dO ws):=(xY qC).bind fun _=>(pJ _).stays.bind fun _=>(y8p _).stays.bind fun _=>Stays.ok _
theorem x2t:Goes ws (oS ws):=(xY qF).bind fun _=>(z5w _).bind fun _=>(pJ _).stays.bind fun _=>(xY qC).stays.bind fun _=>(pJ _).stays.bind fun _=>(vR _).stays.bind fun _=>Stays.ok _
end
end Go.Sw

namespace Go.Sw
open Go.Proofs
def nQ (n:Nat):List PanicEntry:=[{ v:=.iface 204 (.agg #[.int .i64 ((n:Nat):Int)]),recovered:=false }]
section
variable {P:Program} {n:Nat} {E:List (Nat×Value)} {D:List Deferred} {a:Act} {V Ψ:Fz} {K:List Res} {w:World}
variable {Kn:Value->World->Prop} {Qp:List PanicEntry->World->Prop} {dst:Option Tmp} {ty:TypeId} {pos:String} {aft:Array Edge} {g:Option (Nat×Bool)}
theorem oD {f:FuncId} {xs:Array Operand} {ts:Array TypeId} {vs:List Value} {c:List PanicEntry} {b:Fz} {KE:List Res}
  (J:EnvR n E D a) (j:evs E xs.toList=some vs) (i:∀args w,(callFunc f args).run P w=.ok (.enter f args) w)
  (d:Calls P f vs.toArray w (fun e w'=>e=.panicked c/\Mem b KE w')) (kp:∀w',Mem b KE w'->Qp c w') :
  Oper.eff P ⟨dst,.call { callee:=.value (.func f),args:=xs,argTypes:=ts },ty,pos,aft,g⟩ a w Kn Qp :=
 aI J j i d (fun v w' h=>by cases h.1) (fun c w' h=>by cases h.1;exact kp _ h.2) (fun w' h=>by cases h.1)
end
theorem j7l {s:Bs} {v:Int} (h:z0m s=.ok v) (a:sN v=s):uN s=some v:=by simp [uN,h,a]
theorem intP_ne {s:Bs} {v:Int} (h:z0m s=.ok v) (a:¬sN v=s):uN s=none:=by simp [uN,h,a]
theorem x3f {s:Bs} {u:Unit} (h:z0m s=.error u):uN s=none:=by simp [uN,h]
theorem x3g {s:Bs} {v:Int} (h:uN s=some v):I64 v:=by
 unfold uN at h
 split at h
 ·rename_i v' a
  split at h
  ·simp only [Option.some.injEq] at h;subst h;exact y0u a
  ·cases h
 ·cases h
theorem jU {ws:List Bs} {i:Nat} {p:Bs->Bool} {x:Bs×Nat} (h:nE ws p i=.ok x):x.2=i+1/\x.2<=ws.length:=by have:=z8f h;omega
theorem pF {ws:List Bs} {i:Nat} {w:Bs} {x:Unit×Nat} (h:wN ws w i=.ok x):x.2=i+1/\x.2<=ws.length:=by have:=q0i h;omega
end Go.Sw

namespace Go.Sw
open Go.Proofs
def uG (ws:List Bs) (d:Nat):Prop:=∀{V:Fz} {K:List Res} {w:World} {r i:Nat} {rs:Value},Glob V->SliceOf RStr V 1 rs ws->i<=ws.length ->
  Mem V (.blk r (ob [rs,.int .i64 ((i:Nat):Int)] 208)::K) w ->
  Calls Tryz.prog 180 #[.pointer (some ⟨r,0,none⟩),.int .i64 ((d:Nat):Int)] w (fun ee w'=>Out (zT ws d i)
   (fun x=>∃y:Fz×List Value,ee=.returned (.agg y.2.toArray)/\(V.Le y.1/\REx y.1 y.2 x.1)/\Mem y.1 (.blk r (ob [rs,.int .i64 ((x.2:Nat):Int)] 208)::K) w')
   (fun c=>ee=.panicked (nQ c)/\Mem V K w'))
theorem y9n:I64 0:=⟨by decide,by decide⟩
theorem REx.leaf {V:Fz} {k n:Int} {s:Bs} (h:I64 n):REx V [.int .i64 k,.int .i64 n,.string s,.slice none 0 0,.slice none 0 0] (.mk k n s [] []) :=
 REx.iff.2 ⟨_,_,rfl,h,SliceOf.nil 5,SliceOf.nil 7⟩
theorem REx.node {V:Fz} {k:Int} {s:Bs} {v:Value} {l:List Ex} (h:SliceOf REx V 5 v l):REx V [.int .i64 k,.int .i64 0,.string s,v,.slice none 0 0] (.mk k 0 s l []) :=
 REx.iff.2 ⟨_,_,rfl,y9n,h,SliceOf.nil 7⟩
theorem REx.full {V:Fz} {k:Int} {s:Bs} {v u:Value} {l:List Ex} {m:List Arm} (h:SliceOf REx V 5 v l) (a:SliceOf RArm V 7 u m):REx V [.int .i64 k,.int .i64 0,.string s,v,u] (.mk k 0 s l m) :=
 REx.iff.2 ⟨_,_,rfl,y9n,h,a⟩
theorem Chunks.one {α:Type} {R:List Value->α->Prop} {k:Nat} {a:List Value} {x:α} (la:a.length=k) (b:R a x):Chunks R k a [x]:=⟨a,[],by simp,la,b,rfl⟩
theorem Chunks.two {α:Type} {R:List Value->α->Prop} {k:Nat} {a b:List Value} {x y:α} (la:a.length=k) (c:R a x) (lb:b.length=k) (hb:R b y):Chunks R k (a++b) [x,y]:=⟨a,b,rfl,la,c,Chunks.one lb hb⟩
section
variable {P:Program} {n:Nat} {E:List (Nat×Value)} {D:List Deferred} {a:Act} {V:Fz} {K:List Res} {w:World} {ty:TypeId}
theorem y6l (i m:Nat) {x:Operand} {t e T:TypeId} {k:Nat} {v:Value} {cs:List Value} (J:EnvR n E D a) (O:Sees V K w) (g:ev E x=some v) (d:qI K i=some (.gs v T k cs)) (hl:cs.length=m * k) (b:0 < k) (f:Under P t (.slice e)) :
  Ok P a (.call { callee:=.builtin .len,args:=#[x],argTypes:=#[t] }) ty w (.int .i64 ((m:Nat):Int)):=by
 obtain ⟨p,m',c,rfl,h1,_⟩:=O.gsForm d
 have:m'=m:=Nat.eq_of_mul_eq_mul_right b (h1.symm.trans hl)
 subst this
 exact z9u J g f
end
section
variable {ws:List Bs} {i d:Nat}
theorem y9d:zT ws 0 i=.error (i+1):=rfl
theorem expr_no (h:zD ws i=⟨#[]⟩):zT ws (d+1) i=.error (i+1):=by rw [zT,if_pos (show zD ws i=sNo from h)]
theorem x1l {n:Int} (h:¬zD ws i=⟨#[]⟩) (a:uN (zD ws i)=some n):zT ws (d+1) i=.ok (.mk 1 n sNo [] [],i+1):=by
 rw [zT,if_neg (show ¬zD ws i=sNo from h),a]
theorem expr_fe {c:Nat} (h:¬zD ws i=⟨#[]⟩) (b:uN (zD ws i)=none) (e:zD ws i=⟨#[40]⟩) (a:yW ws (zT ws d) (i+1)=.error c):zT ws (d+1) i=.error c:=by
 rw [zT,if_neg (show ¬zD ws i=sNo from h),b];show (if zD ws i=hO then _ else _)=_;rw [if_pos (show zD ws i=hO from e),zP a]
theorem expr_fc {c:Nat} {x:Ex×Nat} (h:¬zD ws i=⟨#[]⟩) (e:uN (zD ws i)=none) (f:zD ws i=⟨#[40]⟩) (b:yW ws (zT ws d) (i+1)=.ok x) (a:wN ws ⟨#[41]⟩ x.2=.error c):zT ws (d+1) i=.error c:=by
 rw [zT,if_neg (show ¬zD ws i=sNo from h),e];show (if zD ws i=hO then _ else _)=_;rw [if_pos (show zD ws i=hO from f),zC b];exact zP a
theorem j7b {x:Ex×Nat} {y:Unit×Nat} (h:¬zD ws i=⟨#[]⟩) (c:uN (zD ws i)=none) (e:zD ws i=⟨#[40]⟩) (b:yW ws (zT ws d) (i+1)=.ok x) (a:wN ws ⟨#[41]⟩ x.2=.ok y):zT ws (d+1) i=.ok (x.1,y.2):=by
 rw [zT,if_neg (show ¬zD ws i=sNo from h),c];show (if zD ws i=hO then _ else _)=_;rw [if_pos (show zD ws i=hO from e),zC b];exact zC a
theorem x1k {x:Bs×Nat} (h:¬zD ws i=⟨#[]⟩) (b:uN (zD ws i)=none) (c:¬zD ws i=⟨#[40]⟩) (a:qC (zD ws i)=true) (e:z0a ws i=.ok x):zT ws (d+1) i=.ok (.mk 4 0 x.1 [] [],x.2):=by
 have hx':=(y5o h a).symm.trans e
 simp only [Except.ok.injEq] at hx';subst hx'
 rw [zT,if_neg (show ¬zD ws i=sNo from h),b];show (if zD ws i=hO then _ else _)=_;rw [if_neg (show ¬zD ws i=hO from c),if_pos a]
theorem j7a {c:Nat} {Q:Prop} (h:¬zD ws i=⟨#[]⟩) (a:qC (zD ws i)=true) (b:z0a ws i=.error c):Q:=by cases (y5o h a).symm.trans b
theorem q9z (h:¬zD ws i=⟨#[]⟩) (c:uN (zD ws i)=none) (e:¬zD ws i=⟨#[40]⟩) (a:qC (zD ws i)=false) (hb:zH (zD ws i) 0=33) (b:qF ((zD ws i).extract 1 (zD ws i).size)=true) :
  zT ws (d+1) i=.ok (.mk 3 0 ((zD ws i).extract 1 (zD ws i).size) [] [],i+1):=by
 rw [zT,if_neg (show ¬zD ws i=sNo from h),c];show (if zD ws i=hO then _ else _)=_;rw [if_neg (show ¬zD ws i=hO from e),if_neg (by rw [a];decide),if_pos ⟨hb,b⟩]
theorem z2w (h:¬zD ws i=⟨#[]⟩) (b:uN (zD ws i)=none) (c:¬zD ws i=⟨#[40]⟩) (a:qC (zD ws i)=false) (hb:¬(zH (zD ws i) 0=33/\qF ((zD ws i).extract 1 (zD ws i).size)=true)) :
  zT ws (d+1) i=yR (aR ws i) fun x j=>.ok (.mk 2 0 x [] [],j):=by
 rw [zT,if_neg (show ¬zD ws i=sNo from h),b];show (if zD ws i=hO then _ else _)=_;rw [if_neg (show ¬zD ws i=hO from c),if_neg (by rw [a];decide),if_neg hb]
theorem x5h {s:Bs} (h:¬s=⟨#[]⟩):0 < s.size:=by
 refine Nat.pos_of_ne_zero fun e=>h ?_
 apply ByteArray.ext
 exact Array.eq_empty_of_size_eq_zero e
variable {ex:Nat->Rd Ex} {f least:Nat}
theorem x3o (h:¬0 < least) (b:zD ws i=⟨#[41]⟩):wI ws ex (f+1) least i=.ok ([],i):=by
 rw [wI,if_neg];rintro (a | a);exact h a;exact a b
theorem j4o (h:0 < least∨¬zD ws i=⟨#[41]⟩):wI ws ex (f+1) least i=yR (ex i) fun e i=>yR (wI ws ex f (least - 1) i) fun l i=>.ok (e::l,i):=by
 rw [wI,if_pos];exact h.imp_right fun h=>h
end
def kT {α:Type} (xs:List α) (r:Rd (List α)):Rd (List α):=yR r fun l k=>.ok (xs++l,k)
theorem oZ {α:Type} (r:Rd (List α)):r=kT [] r:=by
 unfold kT;cases r with
 | ok x=>rfl
 | error c=>rfl
theorem pre1_ok {α:Type} (xs:List α) (l:List α) (k:Nat):kT xs (.ok (l,k))=.ok (xs++l,k):=rfl
theorem oG {α:Type} (xs:List α) (x:α) (r:Rd (List α)):kT xs (yR r fun l k=>.ok (x::l,k))=kT (xs++[x]) r:=by
 unfold kT;cases r with
 | ok y=>simp [yR]
 | error c=>rfl
section
variable {ws:List Bs} {ex:Nat->Rd Ex} {f m j:Nat} {r:Rd (List Ex)} {xs:List Ex}
theorem x3p (b:r=kT xs (wI ws ex f (m - xs.length) j)) (c:0 < f) (h:¬xs.length < m) (a:zD ws j=⟨#[41]⟩):r=.ok (xs,j):=by
 obtain ⟨f,rfl⟩:∃k,f=k+1:=⟨f - 1,by omega⟩
 rw [b,x3o (by omega) a,pre1_ok,List.append_nil]
theorem y9z {c:Nat} (a:r=kT xs (wI ws ex f (m - xs.length) j)) (b:0 < f) (h:xs.length < m∨¬zD ws j=⟨#[41]⟩) (J:ex j=.error c):r=.error c:=by
 obtain ⟨f,rfl⟩:∃k,f=k+1:=⟨f - 1,by omega⟩
 rw [a,j4o (h.imp_left fun h=>by omega),zP J];rfl
theorem q0a {x:Ex×Nat} (a:r=kT xs (wI ws ex f (m - xs.length) j)) (b:0 < f) (h:xs.length < m∨¬zD ws j=⟨#[41]⟩) (J:ex j=.ok x) :
  r=kT (xs++[x.1]) (wI ws ex (f - 1) (m - (xs++[x.1]).length) x.2):=by
 obtain ⟨f,rfl⟩:∃k,f=k+1:=⟨f - 1,by omega⟩
 rw [a,j4o (h.imp_left fun h=>by omega),zC J,oG,Nat.add_sub_cancel,laQ,Nat.sub_sub];rfl
end
section
variable {ws:List Bs} {ex:Nat->Rd Ex} {f j:Nat} {r:Rd (List Arm)} {xs:List Arm}
theorem x0j (c:r=kT xs (oK ws ex f (decide (xs.length=0)) j)) (d:0 < f) (h:¬xs.length=0) (b:¬zD ws j=⟨#[40]⟩):r=.ok (xs,j):=by
 obtain ⟨f,rfl⟩:∃k,f=k+1:=⟨f - 1,by omega⟩
 rw [c,oK,if_neg (by rintro (a | a);exact h (of_decide_eq_true a);exact b a)];simp [kT,yR]
theorem kA {c:Nat} (a:r=kT xs (oK ws ex f (decide (xs.length=0)) j)) (b:0 < f) (h:xs.length=0∨zD ws j=⟨#[40]⟩) (J:armP ws ex j=.error c):r=.error c:=by
 obtain ⟨f,rfl⟩:∃k,f=k+1:=⟨f - 1,by omega⟩
 rw [a,oK,if_pos (show decide (xs.length=0)=true∨zD ws j=hO from h.imp_left fun h=>decide_eq_true h),zP J];rfl
theorem y8e {x:Arm×Nat} (a:r=kT xs (oK ws ex f (decide (xs.length=0)) j)) (b:0 < f) (h:xs.length=0∨zD ws j=⟨#[40]⟩) (J:armP ws ex j=.ok x):r=kT (xs++[x.1]) (oK ws ex (f - 1) (decide ((xs++[x.1]).length=0)) x.2):=by
 obtain ⟨f,rfl⟩:∃k,f=k+1:=⟨f - 1,by omega⟩
 rw [a,oK,if_pos (show decide (xs.length=0)=true∨zD ws j=hO from h.imp_left fun h=>decide_eq_true h),zC J,oG,Nat.add_sub_cancel];simp
end
section
variable {ws:List Bs} {f j:Nat} {r:Rd (List Bs)} {xs:List Bs}
theorem q8g (b:r=kT xs (gO ws f j)) (c:0 < f) (h:zD ws j=⟨#[45,62]⟩):r=.ok (xs,j):=by
 obtain ⟨f,rfl⟩:∃k,f=k+1:=⟨f - 1,by omega⟩
 rw [b,gO,if_neg (fun a=>a h)];simp [kT,yR]
theorem q0x {c:Nat} (a:r=kT xs (gO ws f j)) (b:0 < f) (h:¬zD ws j=⟨#[45,62]⟩) (J:aR ws j=.error c):r=.error c:=by
 obtain ⟨f,rfl⟩:∃k,f=k+1:=⟨f - 1,by omega⟩
 rw [a,gO,if_pos (show zD ws j≠y5b from h),zP J];rfl
theorem q0y {x:Bs×Nat} (a:r=kT xs (gO ws f j)) (b:0 < f) (h:¬zD ws j=⟨#[45,62]⟩) (J:aR ws j=.ok x):r=kT (xs++[x.1]) (gO ws (f - 1) x.2):=by
 obtain ⟨f,rfl⟩:∃k,f=k+1:=⟨f - 1,by omega⟩
 rw [a,gO,if_pos (show zD ws j≠y5b from h),zC J,oG,Nat.add_sub_cancel]
end
section
variable {ws:List Bs} {f j:Nat} {r:Rd (List Bs)} {xs:List Bs}
theorem j0a (a:r=kT xs (kF ws f j)) (b:0 < f) (h:qC (zD ws j)=false):r=.ok (xs,j):=by
 obtain ⟨f,rfl⟩:∃k,f=k+1:=⟨f - 1,by omega⟩
 rw [a,kF,if_neg (by rw [h];decide)];simp [kT,yR]
theorem q5i {c:Nat} (a:r=kT xs (kF ws f j)) (b:0 < f) (h:qC (zD ws j)=true) (J:z0a ws j=.error c):r=.error c:=by
 obtain ⟨f,rfl⟩:∃k,f=k+1:=⟨f - 1,by omega⟩
 rw [a,kF,if_pos h,zP J];rfl
theorem q5j {x:Bs×Nat} (a:r=kT xs (kF ws f j)) (b:0 < f) (h:qC (zD ws j)=true) (J:z0a ws j=.ok x):r=kT (xs++[x.1]) (kF ws (f - 1) x.2):=by
 obtain ⟨f,rfl⟩:∃k,f=k+1:=⟨f - 1,by omega⟩
 rw [a,kF,if_pos h,zC J,oG,Nat.add_sub_cancel]
end
section
variable {ws:List Bs} {ex:Nat->Rd Ex} {i:Nat}
theorem j3v (h:z0r (zD ws i)=true):yW ws ex i=yR (z6k ex (i+1)) fun l j=>.ok (.mk 8 0 (zD ws i) l [],j):=by rw [yW,if_pos h]
theorem y3a (h:z0r (zD ws i)=false) (a:zD ws i=⟨#[108,101,116]⟩):yW ws ex i=yR (aR ws (i+1)) fun x j=>yR (z6k ex j) fun l j=>.ok (.mk 6 0 x l [],j):=by
 rw [yW,if_neg (by rw [h];decide)];exact if_pos a
theorem xW (h:z0r (zD ws i)=false) (b:¬zD ws i=⟨#[108,101,116]⟩) (c:zD ws i=⟨#[99,97,115,101]⟩) :
  yW ws ex i=yR (ex (i+1)) fun a j=>yR (oK ws ex (ws.length+1) true j) fun l j=>.ok (.mk 7 0 sNo [a] l,j):=by
 rw [yW,if_neg (by rw [h];decide)];exact (if_neg b).trans (if_pos c)
theorem q5l (h:z0r (zD ws i)=false) (a:¬zD ws i=⟨#[108,101,116]⟩) (b:¬zD ws i=⟨#[99,97,115,101]⟩) (c:qC (zD ws i)=true) :
  yW ws ex i=yR (wI ws ex (ws.length+1) 1 (i+1)) fun l j=>.ok (.mk 4 0 (zD ws i) l [],j):=by
 rw [yW,if_neg (by rw [h];decide)];exact (if_neg a).trans ((if_neg b).trans (if_pos c))
theorem z7q (h:z0r (zD ws i)=false) (a:¬zD ws i=⟨#[108,101,116]⟩) (b:¬zD ws i=⟨#[99,97,115,101]⟩) (c:qC (zD ws i)=false) :
  yW ws ex i=yR (aR ws i) fun x j=>yR (wI ws ex (ws.length+1) 0 j) fun l j=>.ok (.mk 5 0 x l [],j):=by
 rw [yW,if_neg (by rw [h];decide)];exact (if_neg a).trans ((if_neg b).trans (if_neg (by rw [c];decide)))
theorem isOp_no {s:Bs} (h1:¬s=⟨#[43]⟩) (a:¬s=⟨#[45]⟩) (b:¬s=⟨#[42]⟩) (c:¬s=⟨#[47]⟩) (d:¬s=⟨#[37]⟩) (e:¬s=⟨#[60]⟩) (f:¬s=⟨#[61]⟩):z0r s=false:=by
 simp [z0r,h1,a,b,c,d,e,f]
theorem oV {s:Bs} (h:s=⟨#[43]⟩∨s=⟨#[45]⟩∨s=⟨#[42]⟩∨s=⟨#[47]⟩∨s=⟨#[37]⟩∨s=⟨#[60]⟩∨s=⟨#[61]⟩):z0r s=true:=by
 rcases h with h | h | h | h | h | h | h <;> subst h <;> rfl
end
theorem RArm.of {V:Fz} {c:Bs} {v:Value} {b:List Value} {vs:List Bs} {e:Ex} (h:SliceOf RStr V 1 v vs) (hb:REx V b e):RArm V (.string c::v::b) (.mk c vs e):=RArm.iff.2 ⟨_,_,rfl,h,hb⟩
theorem uX {ws:List Bs} {i:Nat} {s:Bs} (h:zD ws i=s) (O:s≠⟨#[]⟩):i < ws.length:=pS fun e=>O (h.symm.trans e)
theorem isOp_lt {ws:List Bs} {i:Nat} (h:z0r (zD ws i)=true):i < ws.length:=pS fun e=>by rw [e] at h;revert h;decide
theorem x3i {ws:List Bs} {i:Nat} (h:qC (zD ws i)=true):i < ws.length:=pS fun e=>by rw [e] at h;revert h;decide
theorem two_le {ws:List Bs} {d i:Nat} {x:List Ex×Nat} (h:z6k (zT ws d) i=.ok x):i < x.2/\x.2<=ws.length:=y5v (vR d) i x h
theorem j4n {ws:List Bs} {d i f m:Nat} {x:List Ex×Nat} (a:i<=ws.length) (h:wI ws (zT ws d) f m i=.ok x):i<=x.2/\x.2<=ws.length:=uQ (vR d) f m i x a h
theorem form_le {ws:List Bs} {d i:Nat} {x:Ex×Nat} (h:yW ws (zT ws d) i=.ok x):i < x.2/\x.2<=ws.length:=y9f (vR d) i x h
section
variable {ws:List Bs} {f j:Nat} {xs:List Con} {r:Rd (List Con)} {n:Bs×Nat} {l:List Bs} {k c:Nat}
theorem q9m (a:r=kT xs (oN ws f j)) (b:0 < f) (J:z0a ws j=.error c):r=.error c:=by
 obtain ⟨f,rfl⟩:∃k,f=k+1:=⟨f - 1,by omega⟩
 rw [a,oN,zP J];rfl
theorem q9n (a:r=kT xs (oN ws f j)) (b:0 < f) (h1:z0a ws j=.ok n) (J:kF ws (ws.length+1) n.2=.error c):r=.error c:=by
 obtain ⟨f,rfl⟩:∃k,f=k+1:=⟨f - 1,by omega⟩
 rw [a,oN,zC h1,zP J];rfl
theorem x0y (b:r=kT xs (oN ws f j)) (c:0 < f) (h1:z0a ws j=.ok n) (a:kF ws (ws.length+1) n.2=.ok (l,k)) (hb:¬zD ws k=⟨#[124]⟩):r=.ok (xs++[⟨n.1,l⟩],k):=by
 obtain ⟨f,rfl⟩:∃k,f=k+1:=⟨f - 1,by omega⟩
 rw [b,oN,zC h1,zC a,if_pos (show zD ws k≠sBar from hb)];rfl
theorem j6g (b:r=kT xs (oN ws f j)) (c:0 < f) (h1:z0a ws j=.ok n) (a:kF ws (ws.length+1) n.2=.ok (l,k)) (hb:zD ws k=⟨#[124]⟩):r=kT (xs++[⟨n.1,l⟩]) (oN ws (f - 1) (k+1)):=by
 obtain ⟨f,rfl⟩:∃k,f=k+1:=⟨f - 1,by omega⟩
 rw [b,oN,zC h1,zC a,if_neg (show ¬zD ws k≠sBar from fun h=>h hb),oG,Nat.add_sub_cancel]
end
section
variable {ws:List Bs} {f j:Nat} {xs:List Param} {r:Rd (List Param)} {p:Param×Nat} {y:Unit×Nat} {c:Nat}
theorem j1f (a:r=kT xs (wA ws f j)) (b:0 < f) (h:¬zD ws j=⟨#[40]⟩):r=.ok (xs,j):=by
 obtain ⟨f,rfl⟩:∃k,f=k+1:=⟨f - 1,by omega⟩
 rw [a,wA,if_neg (show ¬zD ws j=hO from h)];simp [kT,yR]
theorem q3e (a:r=kT xs (wA ws f j)) (b:0 < f) (h:zD ws j=⟨#[40]⟩) (J:wV ws (j+1)=.error c):r=.error c:=by
 obtain ⟨f,rfl⟩:∃k,f=k+1:=⟨f - 1,by omega⟩
 rw [a,wA,if_pos (show zD ws j=hO from h),zP J];rfl
theorem q3f (a:r=kT xs (wA ws f j)) (b:0 < f) (h:zD ws j=⟨#[40]⟩) (h1:wV ws (j+1)=.ok p) (J:wN ws ⟨#[41]⟩ p.2=.error c):r=.error c:=by
 obtain ⟨f,rfl⟩:∃k,f=k+1:=⟨f - 1,by omega⟩
 rw [a,wA,if_pos (show zD ws j=hO from h),zC h1,zP (show wN ws sCls p.2=_ from J)];rfl
theorem q6t (b:r=kT xs (wA ws f j)) (c:0 < f) (h:zD ws j=⟨#[40]⟩) (h1:wV ws (j+1)=.ok p) (a:wN ws ⟨#[41]⟩ p.2=.ok y):r=kT (xs++[p.1]) (wA ws (f - 1) y.2):=by
 obtain ⟨f,rfl⟩:∃k,f=k+1:=⟨f - 1,by omega⟩
 rw [b,wA,if_pos (show zD ws j=hO from h),zC h1,zC (show wN ws sCls p.2=_ from a),oG,Nat.add_sub_cancel]
end
theorem q6s {ws:List Bs} {i:Nat} {x:Param×Nat} (h:wV ws i=.ok x):i < x.2/\x.2<=ws.length:=j1d i x h
theorem data_le {ws:List Bs} {i:Nat} {x:Data×Nat} (h:dO ws i=.ok x):i < x.2/\x.2<=ws.length:=j6l i x h
theorem fun_le {ws:List Bs} {i:Nat} {x:Fun×Nat} (h:oS ws i=.ok x):i < x.2/\x.2<=ws.length:=x2t i x h
end Go.Sw

namespace Go.Sw
open Go.Proofs
def seqR:Code->Code
 | .seq _ y=>y
 | c=>c
section
variable {ws:List Bs} {f j n:Nat} {c:Core}
theorem j6o (h:¬j < ws.length) (a:0 < f):jF ws f c j=.ok c:=by
 obtain ⟨f,rfl⟩:∃k,f=k+1:=⟨f - 1,by omega⟩
 rw [jF,if_neg h]
theorem q9q {x:Data×Nat} (h:j < ws.length) (d:0 < f) (a:zD ws j=⟨#[100,97,116,97]⟩) (b:dO ws (j+1)=.ok x):jF ws f c j=jF ws (f - 1) { c with datas:=c.datas++[x.1] } x.2:=by
 obtain ⟨f,rfl⟩:∃k,f=k+1:=⟨f - 1,by omega⟩
 rw [jF,if_pos h,if_pos (show zD ws j=z3l from a),b];rfl
theorem q4z (h:j < ws.length) (d:0 < f) (a:zD ws j=⟨#[100,97,116,97]⟩) (b:dO ws (j+1)=.error n):jF ws f c j=.error n:=by
 obtain ⟨f,rfl⟩:∃k,f=k+1:=⟨f - 1,by omega⟩
 rw [jF,if_pos h,if_pos (show zD ws j=z3l from a),b]
theorem q5a {x:Param×Nat} (h:j < ws.length) (d:0 < f) (h1:¬zD ws j=⟨#[100,97,116,97]⟩) (a:zD ws j=⟨#[105,110,112,117,116]⟩) (b:wV ws (j+1)=.ok x):jF ws f c j=jF ws (f - 1) { c with inputs:=c.inputs++[x.1] } x.2:=by
 obtain ⟨f,rfl⟩:∃k,f=k+1:=⟨f - 1,by omega⟩
 rw [jF,if_pos h,if_neg (show ¬zD ws j=z3l from h1),if_pos (show zD ws j=z1l from a),b];rfl
theorem q1w (h:j < ws.length) (d:0 < f) (h1:¬zD ws j=⟨#[100,97,116,97]⟩) (a:zD ws j=⟨#[105,110,112,117,116]⟩) (b:wV ws (j+1)=.error n):jF ws f c j=.error n:=by
 obtain ⟨f,rfl⟩:∃k,f=k+1:=⟨f - 1,by omega⟩
 rw [jF,if_pos h,if_neg (show ¬zD ws j=z3l from h1),if_pos (show zD ws j=z1l from a),b]
theorem j6p {x:Fun×Nat} (h:j < ws.length) (e:0 < f) (h1:¬zD ws j=⟨#[100,97,116,97]⟩) (a:¬zD ws j=⟨#[105,110,112,117,116]⟩) (b:zD ws j=⟨#[102,117,110]⟩) (d:oS ws (j+1)=.ok x):jF ws f c j=jF ws (f - 1) { c with funs:=c.funs++[x.1] } x.2:=by
 obtain ⟨f,rfl⟩:∃k,f=k+1:=⟨f - 1,by omega⟩
 rw [jF,if_pos h,if_neg (show ¬zD ws j=z3l from h1),if_neg (show ¬zD ws j=z1l from a),if_pos (show zD ws j=kFun from b),d];rfl
theorem q9r (h:j < ws.length) (e:0 < f) (h1:¬zD ws j=⟨#[100,97,116,97]⟩) (a:¬zD ws j=⟨#[105,110,112,117,116]⟩) (b:zD ws j=⟨#[102,117,110]⟩) (d:oS ws (j+1)=.error n):jF ws f c j=.error n:=by
 obtain ⟨f,rfl⟩:∃k,f=k+1:=⟨f - 1,by omega⟩
 rw [jF,if_pos h,if_neg (show ¬zD ws j=z3l from h1),if_neg (show ¬zD ws j=z1l from a),if_pos (show zD ws j=kFun from b),d]
theorem j6q {x:Bs×Nat} (h:j < ws.length) (g:0 < f) (h1:¬zD ws j=⟨#[100,97,116,97]⟩) (a:¬zD ws j=⟨#[105,110,112,117,116]⟩) (b:¬zD ws j=⟨#[102,117,110]⟩) (d:zD ws j=⟨#[111,117,116,112,117,116]⟩) (e:aR ws (j+1)=.ok x):jF ws f c j=jF ws (f - 1) { c with outputs:=c.outputs++[x.1] } x.2:=by
 obtain ⟨f,rfl⟩:∃k,f=k+1:=⟨f - 1,by omega⟩
 rw [jF,if_pos h,if_neg (show ¬zD ws j=z3l from h1),if_neg (show ¬zD ws j=z1l from a),if_neg (show ¬zD ws j=kFun from b),if_pos (show zD ws j=y0g from d),e];rfl
theorem q9s (h:j < ws.length) (g:0 < f) (h1:¬zD ws j=⟨#[100,97,116,97]⟩) (a:¬zD ws j=⟨#[105,110,112,117,116]⟩) (b:¬zD ws j=⟨#[102,117,110]⟩) (d:zD ws j=⟨#[111,117,116,112,117,116]⟩) (e:aR ws (j+1)=.error n):jF ws f c j=.error n:=by
 obtain ⟨f,rfl⟩:∃k,f=k+1:=⟨f - 1,by omega⟩
 rw [jF,if_pos h,if_neg (show ¬zD ws j=z3l from h1),if_neg (show ¬zD ws j=z1l from a),if_neg (show ¬zD ws j=kFun from b),if_pos (show zD ws j=y0g from d),e]
theorem j6n (h:j < ws.length) (e:0 < f) (h1:¬zD ws j=⟨#[100,97,116,97]⟩) (a:¬zD ws j=⟨#[105,110,112,117,116]⟩) (b:¬zD ws j=⟨#[102,117,110]⟩) (d:¬zD ws j=⟨#[111,117,116,112,117,116]⟩):jF ws f c j=.error (j+1):=by
 obtain ⟨f,rfl⟩:∃k,f=k+1:=⟨f - 1,by omega⟩
 rw [jF,if_pos h,if_neg (show ¬zD ws j=z3l from h1),if_neg (show ¬zD ws j=z1l from a),if_neg (show ¬zD ws j=kFun from b),if_neg (show ¬zD ws j=y0g from d)]
end
end Go.Sw
