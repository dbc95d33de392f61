import Derived.Test.YtgkhcfjooiekkaaGreatDoorX10
set_option linter.unusedVariables false
set_option linter.unusedSimpArgs false
namespace Go.Sw
open Go.Proofs Go.Proofs.Tryz
set_option maxRecDepth 20000
set_option maxHeartbeats 4000000
section
variable {V:Fz} {K:List Res} {w:World}
theorem x7k {b off cap:Nat} {arr:Array Value} {l:List Bs} {sep:Bs} (hq:QAt off cap arr l) (hb:mS l+sep.size * l.length<=70368744177664) (N:Mem V (qblk b arr::K) w) :
  Calls prog 67 #[qval b off cap l,.string sep] w (fun ee w'=>ee=.returned (.string (nE sep l))/\Mem V (qblk b arr::K) w'):=by
 have z0:l.length<=9223372036854775807:=Nat.le_trans hq.fits (by have h_:=hq.max;simpa [maxLen] using h_)
 have y0:(l.drop 1).length<=l.length:=by rw [List.length_drop];omega
 refine zK func67 ntmps67 fun Q hQ a J=>?_
 by_cases h5:l.length=0
 refine zF ?_
 have e_:l=[]:=List.eq_nil_of_length_eq_zero h5
 subst e_
 exact ⟨rfl,N⟩
 by_cases h8:l.length=1
 have H:=h8
 have Y:0 < l.length:=by omega
 obtain ⟨J0,G⟩:=qR Y
 refine Qq (fun a J=>?_) (o:=by exact fun J O=>gD 0 0 J O hq rfl rfl G isAgg9)
 refine zF ?_
 obtain ⟨y_,e_⟩:∃y_,l=[y_]:=by
  cases l with
  | nil=>simp at H
  | cons a r=>cases r with
   | nil=>exact ⟨a,rfl⟩
   | cons b r=>simp at H
 subst e_
 have P:=G
 simp at P
 subst P
 exact ⟨rfl,N⟩
 by_cases G0:0 < sep.size
 refine Qq (fun a J=>?_) (o:=by exact fun J O=>xX (((l.length - 1):Nat):Int) J rfl rfl (by rw [yD (by omega)];omega))
 refine Qq (fun a J=>?_) (o:=by exact fun J O=>y_quo _ J rfl rfl (by omega) rfl)
 have n0:¬IntKind.i64.wrap ((9223372036854775807:Int).tdiv (((l.length - 1):Nat):Int))<=((sep.size:Nat):Int):=quo_big (by omega) (by omega) (by have h_:=Nat.mul_le_mul_left sep.size (show l.length - 1<=l.length by omega);omega)
 refine Qq (fun a J=>?_) (o:=by exact fun J O=>xX (((l.length - 1):Nat):Int) J rfl rfl (by rw [yD (by omega)];omega))
 refine Qq (fun a J=>?_) (o:=by exact fun J O=>j9u (((sep.size * (l.length - 1)):Nat):Int) J rfl rfl (by rw [<- Int.natCast_mul];exact yD (by have h_:=Nat.mul_le_mul_left sep.size (show l.length - 1<=l.length by omega);omega)))
 refine Qq (fun a J=>?_) (o:=by exact fun J O=>pZ (i:=0) (j:=(sep.size * (l.length - 1))) J rfl rfl (by have h_:=Nat.mul_le_mul_left sep.size (show l.length - 1<=l.length by omega);omega))
 have p:(0+(sep.size * (l.length - 1)))<=sep.size * l.length+mS (l.take 0):=by have h_:=Nat.mul_le_mul_left sep.size (show l.length - 1<=l.length by omega);omega
 refine go fun a J=>?_
 refine mO (fun mm a w=>∃(i:Nat) (n:Nat),mm=l.length - i/\EnvR 75 [(0,qval b off cap l),(1,.string sep),(5,.int .i64 ((n:Nat):Int)),(39,qval b off cap l),(40,.int .i64 ((l.length:Nat):Int)),(41,.int .i64 ((i:Nat):Int))] [] a/\Mem V (qblk b arr::K) w/\(n<=sep.size * l.length+mS (l.take i))) (l.length - 0) ⟨0,(0+(sep.size * (l.length - 1))),rfl,J.pk,N,p⟩ ?_
 clear N J
 rintro mm a w ⟨i,n,f,J,N,E⟩ C0 T
 by_cases j0:i < l.length
 obtain ⟨C,u⟩:=qR j0
 refine Qq (fun a J=>?_) (o:=by exact fun J O=>gD 0 i J O hq rfl rfl u isAgg9)
 have Z:n+C.size<=140737488355328:=by have M:=E;have d:=dT l i;have e:=dS u;omega
 refine Qq (fun a J=>?_) (o:=by exact fun J O=>xX (((9223372036854775807 - n):Nat):Int) J rfl rfl (by rw [yD (by omega)];omega))
 have a0:¬(9223372036854775807 - n) < C.size:=by omega
 refine Qq (fun a J=>?_) (o:=by exact fun J O=>pZ (i:=n) (j:=C.size) J rfl rfl (by omega))
 refine go fun a J=>?_
 refine T _ _ _ (by subst f;omega) ⟨(i+1),((n+C.size)),rfl,J.pk,N,?_⟩
 rw [q1w u];omega
 refine Alc fun I w N a J=>?_
 refine yP call119 (fun K0 w r0 N a J=>?_) (c:=q9m (n:=n) (by have d:=E;have e:=dT l i;omega) N)
 replace N:=N.nf
 have k:0 < l.length:=by omega
 obtain ⟨d0,v⟩:=qR k
 refine Qq (fun a J=>?_) (o:=by exact fun J O=>gD 2 0 J O hq rfl rfl v isAgg9)
 replace N:=N.ar [] [1,1]
 refine yP call68 (fun o0 w s0 N a J=>?_) (c:=yS (t:=⟨#[]⟩) (s:=d0) (.inr rfl) (by have M:(⟨#[]⟩:Bs).size=0:=rfl;have d:=dT l 0;have e:=dS v;omega) N)
 replace N:=N.nf
 have b0:=hq.tail k
 refine Qq (fun a J=>?_) (o:=by exact fun J O=>y0a J hq rfl rfl runUnderlying25 sizeOf9 k)
 refine go fun a J=>?_
 refine mO (fun mm a w=>∃(i:Nat) (bv:Value) (acc:Bs),mm=(l.drop 1).length - i/\EnvR 75 [(1,.string sep),(8,.pointer (some ⟨I,0,none⟩)),(63,qval b (y6a off cap) (cap - 1) (l.drop 1)),(64,.int .i64 (((l.drop 1).length:Nat):Int)),(65,.int .i64 ((i:Nat):Int))] [] a/\Mem V (.blk I (ob [.pointer (some ⟨I,0,none⟩),bv] 130)::.gs (bv) 5 1 (Lib.strCells acc)::qblk b arr::K) w/\(nE sep l=((l.drop 1).drop i).foldl (fun a s=>a++sep++s) acc/\acc.size+mS ((l.drop 1).drop i)+sep.size * ((l.drop 1).length - i)<=70368744177664)) ((l.drop 1).length - 0) ⟨0,o0,(⟨#[]⟩++d0),rfl,J.pk,N,(q1q v hb)⟩ ?_
 clear N J
 rintro mm a w ⟨i,bv,acc,f,J,N,g⟩ D0 U
 obtain ⟨g,q⟩:=g
 refine go fun a J=>?_
 by_cases R:i < (l.drop 1).length
 obtain ⟨e0,y⟩:=qR R
 refine Qq (fun a J=>?_) (o:=by exact fun J O=>gD 2 i J O b0 rfl rfl y isAgg9)
 replace N:=N.ar [] [1,1]
 refine yP call68 (fun L0 w t0 N a J=>?_) (c:=yS (t:=acc) (s:=sep) (.inr rfl) (by have d:sep.size<=sep.size * ((l.drop 1).length - i):=Nat.le_mul_of_pos_right _ (by omega);omega) N)
 replace N:=N.nf
 replace N:=N.ar [] [1,1]
 refine yP call68 (fun p0 w u0 N a J=>?_) (c:=yS (t:=(acc++sep)) (s:=e0) (.inr rfl) (by have d:sep.size<=sep.size * ((l.drop 1).length - i):=Nat.le_mul_of_pos_right _ (by omega);have e:=dS y;rw [zL];omega) N)
 replace N:=N.nf
 refine go fun a J=>?_
 refine U _ _ _ (by subst f;omega) ⟨(i+1),(p0),(((acc++sep)++e0)),rfl,J.pk,N,?_⟩
 exact q1r y g q
 replace N:=N.ar [] [1,1]
 refine zO call72 (fun w N a J=>?_) (c:=dJ (t:=acc) N)
 replace N:=N.nf
 refine zF ?_
 rw [g,zB R]
 exact ⟨rfl,N⟩
 have p:0<=sep.size * l.length+mS (l.take 0):=by have h_:=Nat.mul_le_mul_left sep.size (show l.length - 1<=l.length by omega);omega
 refine go fun a J=>?_
 refine mO (fun mm a w=>∃(i:Nat) (n:Nat),mm=l.length - i/\EnvR 75 [(0,qval b off cap l),(1,.string sep),(5,.int .i64 ((n:Nat):Int)),(39,qval b off cap l),(40,.int .i64 ((l.length:Nat):Int)),(41,.int .i64 ((i:Nat):Int))] [] a/\Mem V (qblk b arr::K) w/\(n<=sep.size * l.length+mS (l.take i))) (l.length - 0) ⟨0,0,rfl,J.pk,N,p⟩ ?_
 clear N J
 rintro mm a w ⟨i,n,f,J,N,F⟩ E0 W
 by_cases k0:i < l.length
 obtain ⟨D,z⟩:=qR k0
 refine Qq (fun a J=>?_) (o:=by exact fun J O=>gD 0 i J O hq rfl rfl z isAgg9)
 have Z:n+D.size<=140737488355328:=by have M:=F;have d:=dT l i;have e:=dS z;omega
 refine Qq (fun a J=>?_) (o:=by exact fun J O=>xX (((9223372036854775807 - n):Nat):Int) J rfl rfl (by rw [yD (by omega)];omega))
 have a0:¬(9223372036854775807 - n) < D.size:=by omega
 refine Qq (fun a J=>?_) (o:=by exact fun J O=>pZ (i:=n) (j:=D.size) J rfl rfl (by omega))
 refine go fun a J=>?_
 refine W _ _ _ (by subst f;omega) ⟨(i+1),((n+D.size)),rfl,J.pk,N,?_⟩
 rw [q1w z];omega
 refine Alc fun L w N a J=>?_
 refine yP call119 (fun M0 w w0 N a J=>?_) (c:=q9m (n:=n) (by have d:=F;have e:=dT l i;omega) N)
 replace N:=N.nf
 have m:0 < l.length:=by omega
 obtain ⟨f0,A⟩:=qR m
 refine Qq (fun a J=>?_) (o:=by exact fun J O=>gD 2 0 J O hq rfl rfl A isAgg9)
 replace N:=N.ar [] [1,1]
 refine yP call68 (fun q0 w x0 N a J=>?_) (c:=yS (t:=⟨#[]⟩) (s:=f0) (.inr rfl) (by have M:(⟨#[]⟩:Bs).size=0:=rfl;have d:=dT l 0;have e:=dS A;omega) N)
 replace N:=N.nf
 have c0:=hq.tail m
 refine Qq (fun a J=>?_) (o:=by exact fun J O=>y0a J hq rfl rfl runUnderlying25 sizeOf9 m)
 refine go fun a J=>?_
 refine mO (fun mm a w=>∃(i:Nat) (bv:Value) (acc:Bs),mm=(l.drop 1).length - i/\EnvR 75 [(1,.string sep),(8,.pointer (some ⟨L,0,none⟩)),(63,qval b (y6a off cap) (cap - 1) (l.drop 1)),(64,.int .i64 (((l.drop 1).length:Nat):Int)),(65,.int .i64 ((i:Nat):Int))] [] a/\Mem V (.blk L (ob [.pointer (some ⟨L,0,none⟩),bv] 130)::.gs (bv) 5 1 (Lib.strCells acc)::qblk b arr::K) w/\(nE sep l=((l.drop 1).drop i).foldl (fun a s=>a++sep++s) acc/\acc.size+mS ((l.drop 1).drop i)+sep.size * ((l.drop 1).length - i)<=70368744177664)) ((l.drop 1).length - 0) ⟨0,q0,(⟨#[]⟩++f0),rfl,J.pk,N,(q1q A hb)⟩ ?_
 clear N J
 rintro mm a w ⟨i,bv,acc,f,J,N,h⟩ F0 X
 obtain ⟨h,q⟩:=h
 refine go fun a J=>?_
 by_cases S:i < (l.drop 1).length
 obtain ⟨g0,B⟩:=qR S
 refine Qq (fun a J=>?_) (o:=by exact fun J O=>gD 2 i J O c0 rfl rfl B isAgg9)
 replace N:=N.ar [] [1,1]
 refine yP call68 (fun A0 w l0 N a J=>?_) (c:=yS (t:=acc) (s:=sep) (.inr rfl) (by have d:sep.size<=sep.size * ((l.drop 1).length - i):=Nat.le_mul_of_pos_right _ (by omega);omega) N)
 replace N:=N.nf
 replace N:=N.ar [] [1,1]
 refine yP call68 (fun h0 w m0 N a J=>?_) (c:=yS (t:=(acc++sep)) (s:=g0) (.inr rfl) (by have d:sep.size<=sep.size * ((l.drop 1).length - i):=Nat.le_mul_of_pos_right _ (by omega);have e:=dS B;rw [zL];omega) N)
 replace N:=N.nf
 refine go fun a J=>?_
 refine X _ _ _ (by subst f;omega) ⟨(i+1),(h0),(((acc++sep)++g0)),rfl,J.pk,N,?_⟩
 exact q1r B h q
 replace N:=N.ar [] [1,1]
 refine zO call72 (fun w N a J=>?_) (c:=dJ (t:=acc) N)
 replace N:=N.nf
 refine zF ?_
 rw [h,zB S]
 exact ⟨rfl,N⟩
theorem j4i {p:Option Addr} {c:Nat} {sep:Bs} (N:Mem V K w) :
  Calls prog 67 #[.slice p 0 c,.string sep] w (fun ee w'=>ee=.returned (.string ⟨#[]⟩)/\Mem V K w'):=by
 refine zK func67 ntmps67 fun Q hQ a J=>?_
 refine Qq (fun a J=>?_) (o:=by exact fun J O=>jU true J rfl rfl rfl)
 refine zF ?_
 exact ⟨rfl,N⟩
theorem y5a {v:Value} {l:List Bs} {sep:Bs} (hb:mS l+sep.size * l.length<=70368744177664) (N:Mem V (.gs v 9 1 (strs l)::K) w) :
  Calls prog 67 #[v,.string sep] w (fun ee w'=>ee=.returned (.string (nE sep l))/\Mem V K w'):=by
 by_cases hl:l=[]
 subst hl
 obtain ⟨f,d,c0,rfl,c,_⟩:=N.toSees.gsForm (i:=0) rfl
 have a:d=0:=by simpa [strs] using c.symm
 subst a
 exact j4i N.tail
 obtain ⟨b,cap,arr,rfl,hq,N⟩:=y4n (i:=0) N rfl hl
 exact (x7k hq hb N).mono fun e w' h=>⟨h.1,h.2.tail⟩
end
def mI (l:Tx):Bs:=⟨l.toArray⟩
theorem tD (a b:Tx):mI (a++b)=mI a++mI b:=by
 apply ByteArray.ext
 simp only [mI,ByteArray.data_append]
 apply Array.ext';simp
theorem q6e (s:Bs):mI (tx s)=s:=by
 apply ByteArray.ext;simp [mI,tx]
theorem uO (l:Tx):(mI l).size=l.length:=by
 show l.toArray.size=_;simp
theorem oT (s:Bs):(tx s).length=s.size:=by
 simp only [tx,Array.length_toList];rfl
def wB (e:Ex):Bs:=mI (vV e)
def wsB (l:List Ex):Bs:=mI (writePs l)
theorem z7y {l:List Ex} {i:Nat} {x:Ex} (h:l[i]? = some x):writePs (l.drop i)=32::vV x++writePs (l.drop (i+1)):=by rw [zA h];rfl
theorem j2n {l:List Ex} {i:Nat} (h:¬i < l.length):writePs (l.drop i)=[]:=by rw [zB h];rfl
theorem q6z (a:Arm) (l:List Arm):writePa (a::l)=[32,40]++(tx a.con++(a.vars.map fun v=>32::tx v).flatten)++[32,45,62,32]++vV a.body++[41]++writePa l:=by
 cases a;rfl
section
variable {e:Ex}
theorem x3t (h:e.kind=1):vV e=y0v e.num:=by cases e;simp only [Ex.kind] at h;subst h;rfl
theorem x3u (h:e.kind=2):vV e=tx e.name:=by cases e;simp only [Ex.kind] at h;subst h;rfl
theorem x3r (h:e.kind=3):vV e=33::tx e.name:=by cases e;simp only [Ex.kind] at h;subst h;rfl
theorem j6v (h:e.kind=4) (a:e.args.length=0):vV e=tx e.name:=by
 cases e with
 | mk k n s args arms=>
  simp only [Ex.kind] at h;subst h
  have:args=[]:=List.eq_nil_of_length_eq_zero a
  subst this;rfl
theorem x3q (h:e.kind=4) (b:¬e.args.length=0):vV e=40::tx e.name++writePs e.args++[41]:=by
 cases e with
 | mk k n s args arms=>
  simp only [Ex.kind] at h;subst h
  cases args with
  | nil=>exact absurd rfl b
  | cons a l=>rfl
theorem x3s (h:e.kind=6):vV e=40::([108,101,116,32]++tx e.name)++writePs e.args++[41]:=by cases e;simp only [Ex.kind] at h;subst h;rfl
theorem j6u (h:e.kind=7):vV e=[40,99,97,115,101,32]++writeH e.args++writePa e.arms++[41]:=by cases e;simp only [Ex.kind] at h;subst h;rfl
theorem j2o (h1:¬e.kind=1) (a:¬e.kind=2) (b:¬e.kind=3) (c:¬e.kind=4) (d:¬e.kind=6) (f:¬e.kind=7):vV e=40::tx e.name++writePs e.args++[41]:=by
 cases e with
 | mk k n s args arms=>
  simp only [Ex.kind] at *
  simp only [vV,if_neg h1,if_neg a,if_neg b,if_neg c,if_neg d,if_neg f];rfl
end
theorem j8k:∀(x:Bs) (l:List Bs),tx (nE ⟨#[32]⟩ (x::l))=tx x++(l.map fun v=>32::tx v).flatten
 | x,l=>by
  have:∀(l:List Bs) (a:Bs),tx (l.foldl (fun a s=>a++⟨#[32]⟩++s) a)=tx a++(l.map fun v=>32::tx v).flatten:=by
   intro l
   induction l with
   | nil=>intro a;simp
   | cons y l b=>
    intro a
    rw [List.foldl_cons,b]
    simp [tx,ByteArray.data_append,List.append_assoc]
  exact this l x
theorem q0v:∀(f n:Nat),n < f->(z6h f n).reverse=Lib.decDigits n
 | 0,_,h=>by omega
 | f+1,n,h=>by
  rw [Lib.decDigits]
  simp only [z6h]
  by_cases a:n < 10
  ·rw [if_pos a,dif_pos a];rfl
  ·rw [if_neg a,dif_neg a,List.reverse_cons,q0v f (n / 10) (by omega)];try rfl
theorem itoa_eq (n:Int):Lib.itoa n=y0v n:=by
 have h:∀u,q8x u=Lib.decDigits u:=fun u=>q0v (u+1) u (Nat.lt_succ_self _)
 unfold Lib.itoa y0v
 split
 ·rw [h,show n.natAbs=(-n).toNat by omega]
 ·rw [h]
theorem x7j (n:Int):z2f n=mI (y0v n):=by unfold z2f mI;rw [itoa_eq]
theorem xJ (e:Ex):(wB e).size=(vV e).length:=uO _
def kZ (op:Bs) (l:List Ex):Bs:=mI (40::tx op++writePs l++[41])
theorem y7l (t op:Bs) (l:List Ex):(t++(⟨#[40]⟩++op))++mI (writePs l++[41])=t++kZ op l:=by (apply ByteArray.ext;apply Array.ext';simp [kZ,wB,wsB,mI,tx,ByteArray.data_append,List.append_assoc])
theorem w1_step {acc F:Bs} {l:List Ex} {i:Nat} {x:Ex} (a:l[i]? = some x) (h:acc++mI (writePs (l.drop i)++[41])=F):((acc++⟨#[32]⟩)++wB x)++mI (writePs (l.drop (i+1))++[41])=F:=by
 rw [<- h,z7y a];(apply ByteArray.ext;apply Array.ext';simp [kZ,wB,wsB,mI,tx,ByteArray.data_append,List.append_assoc])
theorem w1_end {acc F:Bs} {l:List Ex} {i:Nat} (a:¬i < l.length) (h:acc++mI (writePs (l.drop i)++[41])=F):acc++⟨#[41]⟩=F:=by
 rw [<- h,j2n a];(apply ByteArray.ext;apply Array.ext';simp [kZ,wB,wsB,mI,tx,ByteArray.data_append,List.append_assoc])
theorem pR {acc F:Bs} {l:Tx} (h:acc++mI l=F):acc.size+l.length=F.size:=by rw [<- h,zL,uO]
mutual
def wfE:Ex->Bool
 | .mk k n s args arms=>(decide (k≠7) || decide (0 < args.length))&&wfEs args&&wfEa arms&&decide (s.size<=24)&&decide ((y0v n).length<=24)
def wfEs:List Ex->Bool
 | []=>true
 | e::es=>wfE e&&wfEs es
def wfEa:List Arm->Bool
 | []=>true
 | .mk c vs b::es=>wfE b&&wfEa es&&decide (c.size<=24)&&vs.all (fun v=>decide (v.size<=24))
end
theorem j2h:∀{l:List Ex},wfEs l=true->∀x∈l,wfE x=true
 | [],_,x,h=>by cases h
 | y::l,h,x,a=>by
  simp only [wfEs,baQ] at h
  rcases List.mem_cons.1 a with rfl | a
  ·exact h.1
  ·exact j2h h.2 x a
theorem j2g:∀{l:List Arm},wfEa l=true->∀a∈l,wfE a.body=true
 | [],_,x,h=>by cases h
 | .mk c v b::l,h,x,d=>by
  simp only [wfEa,baQ] at h
  rcases List.mem_cons.1 d with rfl | d
  ·exact h.1.1.1
  ·exact j2g h.1.1.2 x d
theorem z4h {e:Ex} (h:wfE e=true):(e.kind=7->0 < e.args.length)/\(∀x∈e.args,wfE x=true)/\∀a∈e.arms,wfE a.body=true:=by
 cases e with
 | mk k n s args arms=>
  simp only [wfE,baQ,Bool.or_eq_true,decide_eq_true_eq] at h
  exact ⟨fun b=>h.1.1.1.1.resolve_left (fun c=>c b),j2h h.1.1.1.2,j2g h.1.1.2⟩
theorem x7l (x:Bs) (l:List Bs):mS (x::l)+(⟨#[32]⟩:Bs).size * (x::l).length=(tx x++(l.map fun v=>32::tx v).flatten).length+1:=by
 have h1:(⟨#[32]⟩:Bs).size=1:=rfl
 rw [h1,aT,laQ,oT,lcQ]
 have:∀l:List Bs,(l.map fun v=>32::tx v).flatten.length=mS l+l.length:=by
  intro l
  induction l with
  | nil=>rfl
  | cons y l a=>rw [List.map_cons,List.flatten_cons,laQ,a,aT,lcQ,lcQ,oT];omega
 rw [this];omega
def armB (a:Arm):Bs:=((((⟨#[32,40]⟩:Bs)++nE ⟨#[32]⟩ (a.con::a.vars))++⟨#[32,45,62,32]⟩)++wB a.body)++⟨#[41]⟩
theorem j7e (a:Arm) (l:List Arm):armB a++mI (writePa l)=mI (writePa (a::l)):=by
 rw [q6z]
 have h:=j8k a.con a.vars
 have b:mI (tx a.con++(a.vars.map fun v=>32::tx v).flatten)=nE ⟨#[32]⟩ (a.con::a.vars):=by rw [<- h,q6e]
 simp only [tD,armB,wB]
 rw [<- tD (tx a.con),b]
 rfl
section
variable {e:Ex}
theorem wB_num (h:e.kind=1):z2f e.num=wB e:=by unfold wB;rw [x3t h,x7j]
theorem wB_var (h:e.kind=2):e.name=wB e:=by unfold wB;rw [x3u h,q6e]
theorem wB_inp (h:e.kind=3):(⟨#[33]⟩:Bs)++e.name=wB e:=by unfold wB;rw [x3r h];(apply ByteArray.ext;apply Array.ext';simp [kZ,wB,wsB,mI,tx,ByteArray.data_append,List.append_assoc])
theorem j9o (h:e.kind=4) (a:e.args.length=0):e.name=wB e:=by unfold wB;rw [j6v h a,q6e]
theorem wB_con (h:e.kind=4) (a:¬e.args.length=0):kZ e.name e.args=wB e:=by unfold wB kZ;rw [x3q h a]
theorem wB_let (h:e.kind=6):kZ ((⟨#[108,101,116,32]⟩:Bs)++e.name) e.args=wB e:=by unfold wB kZ;rw [x3s h];(apply ByteArray.ext;apply Array.ext';simp [kZ,wB,wsB,mI,tx,ByteArray.data_append,List.append_assoc])
theorem j2f (h1:¬e.kind=1) (a:¬e.kind=2) (b:¬e.kind=3) (c:¬e.kind=4) (d:¬e.kind=6) (f:¬e.kind=7):kZ e.name e.args=wB e:=by
 unfold wB kZ;rw [j2o h1 a b c d f]
theorem x9z {t:Bs} {a:Ex} (h:e.kind=7) (b:e.args[0]? = some a):((t++(⟨#[40,99,97,115,101,32]⟩:Bs))++wB a)++mI (writePa e.arms++[41])=t++wB e:=by
 have h1:writeH e.args=vV a:=by
  cases hl:e.args with
  | nil=>rw [hl] at b;simp at b
  | cons x l=>rw [hl] at b;simp only [List.getElem?_cons_zero,Option.some.injEq] at b;subst b;rfl
 have c:wB e=mI ([40,99,97,115,101,32]++vV a++writePa e.arms++[41]):=by unfold wB;rw [j6u h,h1]
 rw [c];(apply ByteArray.ext;apply Array.ext';simp [kZ,wB,wsB,mI,tx,ByteArray.data_append,List.append_assoc])
end
theorem wc_step {acc F:Bs} {l:List Arm} {i:Nat} {x:Arm} (a:l[i]? = some x) (h:acc++mI (writePa (l.drop i)++[41])=F) :
  (((acc++(((⟨#[32,40]⟩:Bs)++nE (⟨#[32]⟩:Bs) (x.con::x.vars))++(⟨#[32,45,62,32]⟩:Bs)))++wB x.body)++⟨#[41]⟩)++mI (writePa (l.drop (i+1))++[41])=F:=by
 rw [<- h,zA a,tD (writePa (x::_)),<- j7e,tD]
 unfold armB;simp only [ByteArray.append_assoc]
theorem wc_end {acc F:Bs} {l:List Arm} {i:Nat} (a:¬i < l.length) (h:acc++mI (writePa (l.drop i)++[41])=F):acc++⟨#[41]⟩=F:=by
 rw [<- h,zB a];(apply ByteArray.ext;apply Array.ext';simp [kZ,wB,wsB,mI,tx,ByteArray.data_append,List.append_assoc]);rfl
theorem uY {l:List Arm} {i:Nat} {x:Arm} (a:l[i]? = some x):(writePa (l.drop i)).length=(armB x).size+(writePa (l.drop (i+1))).length:=by
 have:=congrArg ByteArray.size (j7e x (l.drop (i+1)))
 rw [zA a]
 rw [zL,uO,uO] at this
 exact this.symm
theorem dI (a:Arm):(armB a).size=2+(nE ⟨#[32]⟩ (a.con::a.vars)).size+4+(wB a.body).size+1:=by
 simp only [armB,zL];rfl
theorem z0f (x:Bs) (l:List Bs):mS (x::l)+(⟨#[32]⟩:Bs).size * (x::l).length=(nE ⟨#[32]⟩ (x::l)).size+1:=by
 rw [x7l,<- j8k,oT]
theorem j3v (op:Bs) (l:List Ex):(kZ op l).size=2+op.size+(writePs l).length:=by
 unfold kZ;rw [uO];simp only [laQ,lcQ,lnQ,oT];omega
theorem j2c:∀{vs:List Bs},(vs.all fun v=>decide (v.size<=24))=true->(vs.map fun v=>32::tx v).flatten.length<=25 * vs.length
 | [],_=>by simp
 | v::vs,h=>by
  simp only [List.all_cons,baQ,decide_eq_true_eq] at h
  have:=j2c h.2
  simp only [List.map_cons,List.flatten_cons,laQ,lcQ,oT];omega
mutual
theorem z3k:∀(e:Ex) (l:Int),wfE e=true->(jB e l).1=false->((vV e).length:Int)<=500 * (l - (jB e l).2) - 440
 | .mk k n s args arms,l=>by
  intro a h
  simp only [wfE,baQ,decide_eq_true_eq] at a
  obtain ⟨⟨⟨⟨_,i⟩,hb⟩,O⟩,p⟩:=a
  simp only [jB] at h ⊢
  split at h
  ·cases h
  ·rename_i hl
   rw [if_neg hl]
   cases N:meass args (l - 1) with
   | mk b q=>
    rw [N] at h
    cases b with
    | true=>cases h
    | false=>
     have d:=writes_short args (l - 1) i (by rw [N])
     have g:=writea_short arms q hb h
     rw [N] at d
     simp only at d ⊢
     have m:(writeH args).length<=(writePs args).length:=by
      cases args with
      | nil=>simp [writeH,writePs]
      | cons x xs=>simp only [writeH,writePs,laQ,lcQ];omega
     have r:=oT s
     have f:=meass_le args (l - 1) (by rw [N]) (by omega)
     rw [N] at f
     have t:=measa_le arms q h (by simp only at f;omega)
     simp only at f
     simp only [vV]
     split
     ·omega
     split
     ·omega
     split
     ·simp only [lcQ];omega
     split
     ·cases args with
      | nil=>simp only;omega
      | cons x xs=>simp only [laQ,lcQ,lnQ];omega
     split
     ·simp only [laQ,lcQ,lnQ];omega
     split
     ·simp only [laQ,lcQ,lnQ];omega
     ·simp only [laQ,lcQ,lnQ];omega
theorem writes_short:∀(es:List Ex) (l:Int),wfEs es=true->(meass es l).1=false->((writePs es).length:Int)<=500 * (l - (meass es l).2)
 | [],l=>by intro _ _;simp [writePs,meass]
 | e::es,l=>by
  intro a h
  simp only [wfEs,baQ] at a
  simp only [meass] at h ⊢
  cases N:jB e l with
  | mk b q=>
   rw [N] at h
   cases b with
   | true=>cases h
   | false=>
    have d:=z3k e l a.1 (by rw [N])
    have g:=writes_short es q a.2 h
    rw [N] at d
    simp only [writePs,laQ,lcQ] at d ⊢
    omega
theorem writea_short:∀(es:List Arm) (l:Int),wfEa es=true->(measa es l).1=false->((writePa es).length:Int)<=500 * (l - (measa es l).2)
 | [],l=>by intro _ _;simp [writePa,measa]
 | .mk c vs b::es,l=>by
  intro a h
  simp only [wfEa,baQ,decide_eq_true_eq] at a
  simp only [measa] at h ⊢
  split at h
  ·cases h
  ·rename_i j
   rw [if_neg j]
   cases N:jB b l with
   | mk o q=>
    rw [N] at h
    cases o with
    | true=>cases h
    | false=>
     have d:=z3k b l a.1.1.1 (by rw [N])
     have g:=writea_short es q a.1.1.2 h
     have m:=j2c a.2
     rw [N] at d
     simp only [writePa,laQ,lcQ,lnQ,oT] at d ⊢
     omega
end
theorem z9z {V:Fz} {K:List Res} {w:World} {b bb:Nat} {v va:Value} {bp:Option Addr} {t op:Bs} {l:List Ex} (Z:∀x:Ex,x∈l->∀{V:Fz} {K:List Res} {w:World} {d:List Value} {b:Nat} {v:Value} {bp:Option Addr} {t:Bs},REx V d x->(bp=none∨bp=some ⟨b,0,none⟩)->Tabs V->t.size+(vV x).length<=8796093022208->Mem V (.blk b (ob [.pointer bp,v] 130)::.gs v 5 1 (Lib.strCells t)::K) w->Calls prog 69 #[.pointer (some ⟨b,0,none⟩),.agg d.toArray] w (fun ee w'=>∃v2,ee=.returned (.tuple #[])/\True/\Mem V (.blk b (ob [.pointer (some ⟨b,0,none⟩),v2] 130)::.gs v2 5 1 (Lib.strCells (t++wB x))::K) w')) (rl:SliceOf REx V 5 va l) (Y:bp=none∨bp=some ⟨b,0,none⟩) (G:Tabs V) (hb:t.size+(kZ op l).size<=8796093022208) (N:Mem V (.blk bb (ob [.pointer (some ⟨b,0,none⟩)] 127)::.blk b (ob [.pointer bp,v] 130)::.gs v 5 1 (Lib.strCells t)::K) w) :
  Calls prog 121 #[.string op,va,.pointer (some ⟨bb,0,none⟩)] w (fun ee w'=>∃v2,ee=.returned (.tuple #[])/\True/\Mem V (.blk bb (ob [.pointer (some ⟨b,0,none⟩)] 127)::.blk b (ob [.pointer (some ⟨b,0,none⟩),v2] 130)::.gs v2 5 1 (Lib.strCells (t++kZ op l))::K) w'):=by
 obtain ⟨p1,c1,rfl,X,p⟩:=rl.fm
 refine zK func121 ntmps121 fun Q hQ a J=>?_
 refine Qq (fun a J=>?_) (o:=by exact fun J O=>kT J rfl rfl (by have e:=pR (y7l t op l);rw [zL,zL] at e;have k:(⟨#[40]⟩:Bs).size=1:=rfl;have h:(t++kZ op l).size=t.size+(kZ op l).size:=zL _ _;omega))
 replace N:=N.ar [] [2,2]
 refine yP call68 (fun y2 w W N a J=>?_) (c:=yS (t:=t) (s:=((⟨#[40]⟩:Bs)++op)) Y (by have h:(t++kZ op l).size=t.size+(kZ op l).size:=zL _ _;have e:=pR (y7l t op l);rw [zL,zL] at e;have k:(⟨#[40]⟩:Bs).size=1:=rfl;rw [zL];omega) N)
 replace N:=N.nf
 refine go fun a J=>?_
 refine zU (J.ks [2,11,12]) N (fun R mm a w=>∃(i:Nat) (bv:Value) (acc:Bs),mm=l.length - i/\R V [(13,.int .i64 ((i:Nat):Int))] [(0,.blk b (ob [.pointer (some ⟨b,0,none⟩),bv] 130)),(1,.gs (bv) 5 1 (Lib.strCells acc))] a w/\(acc++mI (writePs (l.drop i)++[41])=t++kZ op l)) (l.length - 0) ⟨0,y2,(t++((⟨#[40]⟩:Bs)++op)),rfl,⟨J.pk,N⟩,y7l t op l⟩ ?_
 clear N J
 rintro mm a w ⟨i,bv,acc,n,⟨J,N⟩,f⟩ L6 m
 replace N:=N.nf
 refine go fun a J=>?_
 by_cases z:i < l.length
 refine go fun a J=>?_
 obtain ⟨c0,rfl,q,g,y,F,D,j⟩:=rl.el p z
 obtain ⟨a0,c23,b0,S,rfl,E,T,U,H,L,I,M⟩:=REx.fm j
 refine Alc fun P w N a J=>?_
 refine Sto 0 fun w N a J=>?_
 replace N:=N.ar [] [2,2]
 refine yP call70 (fun e0 w A N a J=>?_) (c:=cY (t:=acc) (c:=32) (.inr rfl) (by have h:(t++kZ op l).size=t.size+(kZ op l).size:=zL _ _;have e:=pR f;simp only [laQ,lcQ,lnQ] at e;omega) N)
 replace N:=N.nf
 replace N:=N.ar [] [1,1]
 refine yP call69 (fun r w B N a J=>?_) (c:=Z _ (mgQ g) (t:=(acc++⟨#[32]⟩)) j (.inr rfl) G (by have h:(t++kZ op l).size=t.size+(kZ op l).size:=zL _ _;have e:=pR f;rw [z7y g] at e;simp only [laQ,lcQ,lnQ] at e;have k:(⟨#[32]⟩:Bs).size=1:=rfl;rw [zL];omega) N)
 replace N:=N.nf
 refine go fun a J=>?_
 replace N:=N.dl [2]
 refine m _ _ _ (by subst n;omega) ⟨(i+1),(r),(((acc++⟨#[32]⟩)++wB q)),rfl,⟨J.pk,by exact N⟩,?_⟩
 exact w1_step g f
 replace N:=N.ar [] [1,1]
 refine yP call70 (fun u w C N a J=>?_) (c:=cY (t:=acc) (c:=41) (.inr rfl) (by have h:(t++kZ op l).size=t.size+(kZ op l).size:=zL _ _;have e:=pR f;simp only [laQ,lcQ,lnQ] at e;omega) N)
 replace N:=N.nf
 refine go fun a J=>?_
 replace N:=N.ar [] [1,1,2]
 refine hQ _ _ _ (dE J results121 ?_)
 refine ⟨u,rfl,trivial,?_⟩
 rw [<- w1_end z f];exact N
theorem j6w {V:Fz} {K:List Res} {w:World} {d:List Value} {e:Ex} {b:Nat} {v:Value} {bp:Option Addr} {t:Bs} (ih:∀x:Ex,x.sz < e.sz->wfE x=true->∀{V:Fz} {K:List Res} {w:World} {d:List Value} {b:Nat} {v:Value} {bp:Option Addr} {t:Bs},REx V d x->(bp=none∨bp=some ⟨b,0,none⟩)->Tabs V->t.size+(vV x).length<=8796093022208->Mem V (.blk b (ob [.pointer bp,v] 130)::.gs v 5 1 (Lib.strCells t)::K) w->Calls prog 69 #[.pointer (some ⟨b,0,none⟩),.agg d.toArray] w (fun ee w'=>∃v2,ee=.returned (.tuple #[])/\True/\Mem V (.blk b (ob [.pointer (some ⟨b,0,none⟩),v2] 130)::.gs v2 5 1 (Lib.strCells (t++wB x))::K) w')) (u:wfE e=true) (re:REx V d e) (L:bp=none∨bp=some ⟨b,0,none⟩) (G:Tabs V) (hb:t.size+(vV e).length<=8796093022208) (N:Mem V (.blk b (ob [.pointer bp,v] 130)::.gs v 5 1 (Lib.strCells t)::K) w) :
  Calls prog 69 #[.pointer (some ⟨b,0,none⟩),.agg d.toArray] w (fun ee w'=>∃v2,ee=.returned (.tuple #[])/\True/\Mem V (.blk b (ob [.pointer (some ⟨b,0,none⟩),v2] 130)::.gs v2 5 1 (Lib.strCells (t++wB e))::K) w'):=by
 obtain ⟨p3,c4,p9,u1,rfl,Y0,h2,h8,C1,A0,c1,a0⟩:=REx.fm re
 refine zK func69 ntmps69 fun Q hQ a J=>?_
 refine Bx fun q1 w N a J=>?_
 refine Bx fun s1 w N a J=>?_
 by_cases B:e.kind=1
 refine Reg [2,1,2,0,0] [0,1] fun w N a J=>?_
 have n:=congrArg ByteArray.size (wB_num B)
 have y:=xJ e
 refine zO call122 (fun w N a J=>?_) (c:=q5v (by obtain ⟨_,_,_,h_,_⟩:=REx.iff.1 re;exact h_) G N)
 replace N:=N.ar [] [3,3]
 refine yP call68 (fun B0 w O0 N a J=>?_) (c:=yS (t:=t) (s:=(z2f e.num)) L (by omega) N)
 replace N:=N.nf
 refine go fun a J=>?_
 replace N:=N.dl [3,2]
 refine hQ _ _ _ (dE J results69 ?_)
 refine ⟨B0,rfl,trivial,?_⟩
 rw [<- wB_num B];exact N
 by_cases C:e.kind=2
 refine go fun a J=>?_
 have n:=congrArg ByteArray.size (wB_var C)
 have y:=xJ e
 replace N:=N.ar [] [3,3]
 refine yP call68 (fun C0 w P0 N a J=>?_) (c:=yS (t:=t) (s:=e.name) L (by omega) N)
 replace N:=N.nf
 refine go fun a J=>?_
 replace N:=N.dl [3,2]
 refine hQ _ _ _ (dE J results69 ?_)
 refine ⟨C0,rfl,trivial,?_⟩
 rw [<- wB_var C];exact N
 by_cases D:e.kind=3
 have n:=congrArg ByteArray.size (wB_inp D)
 have y:=xJ e
 refine Qq (fun a J=>?_) (o:=by exact fun J O=>kT J rfl rfl (by rw [zL] at n;omega))
 replace N:=N.ar [] [3,3]
 refine yP call68 (fun D0 w Q0 N a J=>?_) (c:=yS (t:=t) (s:=((⟨#[33]⟩:Bs)++e.name)) L (by omega) N)
 replace N:=N.nf
 refine go fun a J=>?_
 replace N:=N.dl [3,2]
 refine hQ _ _ _ (dE J results69 ?_)
 refine ⟨D0,rfl,trivial,?_⟩
 rw [<- wB_inp D];exact N
 refine go fun a J=>?_
 by_cases p:e.kind=4
 by_cases E:e.args.length=0
 refine go fun a J=>?_
 have n:=congrArg ByteArray.size (j9o p E)
 have y:=xJ e
 replace N:=N.ar [] [3,3]
 refine yP call68 (fun E0 w R0 N a J=>?_) (c:=yS (t:=t) (s:=e.name) L (by omega) N)
 replace N:=N.nf
 refine go fun a J=>?_
 replace N:=N.dl [3,2]
 refine hQ _ _ _ (ret0 J results69 ?_)
 refine ⟨E0,rfl,trivial,?_⟩
 rw [<- j9o p E];exact N
 have n:=congrArg ByteArray.size (wB_con p E)
 have y:=xJ e
 refine go fun a J=>?_
 replace N:=N.ar [] [3,3,3]
 refine st J rfl rfl rfl (sF J rfl rfl call121 (z9z (t:=t) (op:=e.name) (fun x S _ _ _ _ _ _ _ _ r1 r2 r3 r4 r5=>ih x (Ex.lt_args S) ((z4h u).2.1 x S) r1 r2 r3 r4 r5) h2 L G (by omega) N) (fun F0 w S0 N a J=>?_))
 replace N:=N.nf
 refine go fun a J=>?_
 replace N:=N.dl [3,0]
 refine hQ _ _ _ (dE J results69 ?_)
 refine ⟨F0,rfl,trivial,?_⟩
 rw [<- wB_con p E];exact N
 by_cases F:e.kind=6
 have n:=congrArg ByteArray.size (wB_let F)
 have y:=xJ e
 refine Qq (fun a J=>?_) (o:=by exact fun J O=>kT J rfl rfl (by rw [j3v,zL] at n;omega))
 refine go fun a J=>?_
 replace N:=N.ar [] [3,3,3]
 refine st J rfl rfl rfl (sF J rfl rfl call121 (z9z (t:=t) (op:=((⟨#[108,101,116,32]⟩:Bs)++e.name)) (fun x S _ _ _ _ _ _ _ _ r1 r2 r3 r4 r5=>ih x (Ex.lt_args S) ((z4h u).2.1 x S) r1 r2 r3 r4 r5) h2 L G (by omega) N) (fun G0 w T0 N a J=>?_))
 replace N:=N.nf
 refine go fun a J=>?_
 replace N:=N.dl [3,0]
 refine hQ _ _ _ (dE J results69 ?_)
 refine ⟨G0,rfl,trivial,?_⟩
 rw [<- wB_let F];exact N
 by_cases H:e.kind=7
 refine go fun a J=>?_
 have M:0 < e.args.length:=(z4h u).1 H
 obtain ⟨n0,I⟩:=qR M
 have z:=x9z (t:=t) H I
 replace N:=N.ar [] [3,3]
 refine yP call68 (fun K1 w U0 N a J=>?_) (c:=yS (t:=t) (s:=(⟨#[40,99,97,115,101,32]⟩:Bs)) L (by have g:=pR z;rw [zL,zL,zL t (wB e),xJ e] at g;omega) N)
 replace N:=N.nf
 refine Reg [2,1,2,1,2,0] [2,3] fun w N a J=>?_
 refine go fun a J=>?_
 obtain ⟨H1,rfl,i0,A,L0,a1,W0,P⟩:=h2.el A0 M
 obtain ⟨D1,v1,E1,w1,rfl,Z0,y1,z1,d1,g1,e1,i1⟩:=REx.fm P
 refine go fun a J=>?_
 obtain rfl:i0=n0:=Option.some.inj (A.symm.trans I)
 replace N:=N.ar [] [1,1]
 refine yP call69 (fun H0 w V0 N a J=>?_) (c:=ih _ (Ex.lt_args (mgQ A)) ((z4h u).2.1 _ (mgQ A)) (t:=(t++(⟨#[40,99,97,115,101,32]⟩:Bs))) P (.inr rfl) G (by have g:=pR z;rw [zL,zL,zL t (wB e),xJ e,xJ] at g;rw [zL];omega) N)
 replace N:=N.nf
 refine go fun a J=>?_
 refine zU (J.ks [2,72,73]) N (fun R mm a w=>∃(i:Nat) (bv:Value) (acc:Bs),mm=e.arms.length - i/\R V [(74,.int .i64 ((i:Nat):Int))] [(0,.blk b (ob [.pointer (some ⟨b,0,none⟩),bv] 130)),(1,.gs (bv) 5 1 (Lib.strCells acc))] a w/\(acc++mI (writePa (e.arms.drop i)++[41])=t++wB e)) (e.arms.length - 0) ⟨0,H0,((t++(⟨#[40,99,97,115,101,32]⟩:Bs))++wB i0),rfl,⟨J.pk,N⟩,z⟩ ?_
 clear N J
 rintro mm a w ⟨i,bv,acc,x0,⟨J,N⟩,h⟩ p1 Z
 replace N:=N.nf
 refine go fun a J=>?_
 by_cases W:i < e.arms.length
 refine go fun a J=>?_
 obtain ⟨I1,rfl,f,j,M0,b1,X0,b0⟩:=h8.el a0 W
 obtain ⟨J1,t1,rfl,X,Y⟩:=RArm.iff.1 b0
 obtain ⟨F1,x1,rfl,f1,j1⟩:=X.fm
 obtain ⟨G1,J0,k1,K0,rfl,t0,B1,N0,u0,y0,w0,z0⟩:=REx.fm Y
 refine Alc fun I0 w N a J=>?_
 refine Sto 0 fun w N a J=>?_
 refine go fun a J=>?_
 refine yE [2,1,2,0,1,2,0,0,1,1,0] (.q 0 (.q 1 (.q 2 (.q 4 (.q 5 (.e 3 (.e 6 (.e 7 (.q 8 (.q 9 (.e 10 (.done)))))))))))) [0,3,4] J N fun w N=>?_
 refine qF fun l1 w N a J=>?_
 refine qQ 0 wT (fun m1 w N a J=>?_) (hr:=(SliceOf.strs.1 X).rowIn N.toSees) (h1:=aN _) (hb:=by have g:=pR h;rw [laQ,zL t (wB e),xJ e] at g;have k:=uY j;rw [dI] at k;have m:=z0f f.con f.vars;have r:(⟨#[32]⟩:Bs).size=1:=rfl;rw [r] at m;simp only [lcQ,lnQ,yG] at m ⊢;omega)
 refine zO call67 (fun w N a J=>?_) (c:=y5a (l:=f.con::f.vars) (sep:=⟨#[32]⟩) (by have g:=pR h;rw [laQ,zL t (wB e),xJ e] at g;have k:=uY j;rw [dI] at k;have m:=z0f f.con f.vars;omega) N)
 replace N:=N.nf
 refine Qq (fun a J=>?_) (o:=by exact fun J O=>kT J rfl rfl (by have g:=pR h;rw [laQ,zL t (wB e),xJ e] at g;have k:=uY j;rw [dI] at k;have m:=z0f f.con f.vars;have r:(⟨#[32,40]⟩:Bs).size=2:=rfl;omega))
 refine Qq (fun a J=>?_) (o:=by exact fun J O=>kT J rfl rfl (by have g:=pR h;rw [laQ,zL t (wB e),xJ e] at g;have k:=uY j;rw [dI] at k;have m:=z0f f.con f.vars;have r:(⟨#[32,40]⟩:Bs).size=2:=rfl;have T:(⟨#[32,45,62,32]⟩:Bs).size=4:=rfl;rw [zL];omega))
 replace N:=N.ar [] [2,2]
 refine yP call68 (fun n1 w o0 N a J=>?_) (c:=yS (t:=acc) (s:=(((⟨#[32,40]⟩:Bs)++(nE (⟨#[32]⟩:Bs) (f.con::f.vars)))++(⟨#[32,45,62,32]⟩:Bs))) (.inr rfl) (by have g:=pR h;rw [laQ,zL t (wB e),xJ e] at g;have k:=uY j;rw [dI,xJ] at k;have m:([41]:List UInt8).length=1:=rfl;have r:(⟨#[32,40]⟩:Bs).size=2:=rfl;have T:(⟨#[32,45,62,32]⟩:Bs).size=4:=rfl;have U:(⟨#[41]⟩:Bs).size=1:=rfl;rw [zL,zL];omega) N)
 replace N:=N.nf
 replace N:=N.ar [] [1,1]
 refine yP call69 (fun o1 w p0 N a J=>?_) (c:=ih _ (Ex.lt_arms (mgQ j)) ((z4h u).2.2 _ (mgQ j)) (t:=(acc++(((⟨#[32,40]⟩:Bs)++(nE (⟨#[32]⟩:Bs) (f.con::f.vars)))++(⟨#[32,45,62,32]⟩:Bs)))) Y (.inr rfl) G (by have g:=pR h;rw [laQ,zL t (wB e),xJ e] at g;have k:=uY j;rw [dI,xJ] at k;have m:([41]:List UInt8).length=1:=rfl;have r:(⟨#[32,40]⟩:Bs).size=2:=rfl;have T:(⟨#[32,45,62,32]⟩:Bs).size=4:=rfl;have U:(⟨#[41]⟩:Bs).size=1:=rfl;rw [zL,zL,zL];omega) N)
 replace N:=N.nf
 replace N:=N.ar [] [1,1]
 refine yP call70 (fun j0 w q0 N a J=>?_) (c:=cY (t:=((acc++(((⟨#[32,40]⟩:Bs)++(nE (⟨#[32]⟩:Bs) (f.con::f.vars)))++(⟨#[32,45,62,32]⟩:Bs)))++wB f.body)) (c:=41) (.inr rfl) (by have g:=pR h;rw [laQ,zL t (wB e),xJ e] at g;have k:=uY j;rw [dI,xJ] at k;have m:([41]:List UInt8).length=1:=rfl;have r:(⟨#[32,40]⟩:Bs).size=2:=rfl;have T:(⟨#[32,45,62,32]⟩:Bs).size=4:=rfl;have U:(⟨#[41]⟩:Bs).size=1:=rfl;rw [zL,zL,zL,zL,xJ];omega) N)
 replace N:=N.nf
 refine go fun a J=>?_
 replace N:=N.dl [2]
 refine Z _ _ _ (by subst x0;omega) ⟨(i+1),(j0),((((acc++(((⟨#[32,40]⟩:Bs)++(nE (⟨#[32]⟩:Bs) (f.con::f.vars)))++(⟨#[32,45,62,32]⟩:Bs)))++wB f.body)++⟨#[41]⟩)),rfl,⟨J.pk,by exact N⟩,?_⟩
 exact wc_step j h
 replace N:=N.ar [] [1,1]
 refine yP call70 (fun k0 w r0 N a J=>?_) (c:=cY (t:=acc) (c:=41) (.inr rfl) (by have g:=pR h;rw [laQ,zL t (wB e),xJ e] at g;have m:([41]:List UInt8).length=1:=rfl;omega) N)
 replace N:=N.nf
 refine go fun a J=>?_
 replace N:=N.dl [3,2]
 refine hQ _ _ _ (dE J results69 ?_)
 refine ⟨k0,rfl,trivial,?_⟩
 rw [<- wc_end W h];exact N
 have n:=congrArg ByteArray.size (j2f B C D p F H)
 have y:=xJ e
 refine go fun a J=>?_
 replace N:=N.ar [] [3,3,3]
 refine st J rfl rfl rfl (sF J rfl rfl call121 (z9z (t:=t) (op:=e.name) (fun x S _ _ _ _ _ _ _ _ r1 r2 r3 r4 r5=>ih x (Ex.lt_args S) ((z4h u).2.1 x S) r1 r2 r3 r4 r5) h2 L G (by omega) N) (fun l0 w s0 N a J=>?_))
 replace N:=N.nf
 refine go fun a J=>?_
 replace N:=N.dl [3,0]
 refine hQ _ _ _ (dE J results69 ?_)
 refine ⟨l0,rfl,trivial,?_⟩
 rw [<- j2f B C D p F H];exact N
theorem v0d {V:Fz} {K:List Res} {w:World} {d:List Value} {e:Ex} {b:Nat} {v:Value} {bp:Option Addr} {t:Bs} (a:wfE e=true) (re:REx V d e) (c:bp=none∨bp=some ⟨b,0,none⟩) (G:Tabs V) (hb:t.size+(vV e).length<=8796093022208) (N:Mem V (.blk b (ob [.pointer bp,v] 130)::.gs v 5 1 (Lib.strCells t)::K) w) :
  Calls prog 69 #[.pointer (some ⟨b,0,none⟩),.agg d.toArray] w (fun ee w'=>∃v2,ee=.returned (.tuple #[])/\True/\Mem V (.blk b (ob [.pointer (some ⟨b,0,none⟩),v2] 130)::.gs v2 5 1 (Lib.strCells (t++wB e))::K) w'):=by
 suffices H:∀n (e:Ex),e.sz < n->wfE e=true->∀{V:Fz} {K:List Res} {w:World} {d:List Value} {b:Nat} {v:Value} {bp:Option Addr} {t:Bs},REx V d e->(bp=none∨bp=some ⟨b,0,none⟩)->Tabs V->t.size+(vV e).length<=8796093022208->Mem V (.blk b (ob [.pointer bp,v] 130)::.gs v 5 1 (Lib.strCells t)::K) w ->
   Calls prog 69 #[.pointer (some ⟨b,0,none⟩),.agg d.toArray] w (fun ee w'=>∃v2,ee=.returned (.tuple #[])/\True/\Mem V (.blk b (ob [.pointer (some ⟨b,0,none⟩),v2] 130)::.gs v2 5 1 (Lib.strCells (t++wB e))::K) w') from H _ e (Nat.lt_succ_self _) a re c G hb N
 intro n
 induction n with
 | zero=>intro e h;omega
 | succ n g=>intro e h a V K w d b v bp t re c G hb N;exact j6w (fun x o f _ _ _ _ _ _ _ _ i j k l m=>g x (by omega) f i j k l m) a re c G hb N
def mE:List Bs->Bs
 | []=>⟨#[]⟩
 | x::l=>x++mE l
def y0o (c:Con):Bs:=nE ⟨#[32]⟩ (c.name::c.fields)
def q0q (d:Data):Bs:=((((⟨#[100,97,116,97,32]⟩:Bs)++d.name)++⟨#[32,61,32]⟩)++nE ⟨#[32,124,32]⟩ (d.cons.map y0o))++⟨#[10]⟩
def z5h (p:Param):Bs:=((((⟨#[105,110,112,117,116,32]⟩:Bs)++p.name)++⟨#[32,58,32]⟩)++p.type)++⟨#[10]⟩
def z5o (p:Param):Bs:=((((⟨#[32,40]⟩:Bs)++p.name)++⟨#[32,58,32]⟩)++p.type)++⟨#[41]⟩
def y4k (f:Fun):Bs:=((((⟨#[102,117,110,32]⟩:Bs)++f.name)++mE (f.params.map z5o))++(((⟨#[32,58,32]⟩:Bs)++f.result)++⟨#[32,61,32]⟩))++(wB f.body++⟨#[10]⟩)
def y9m (o:Bs):Bs:=((⟨#[111,117,116,112,117,116,32]⟩:Bs)++o)++⟨#[10]⟩
def gW (c:Core):Bs:=mE (c.datas.map q0q)++(mE (c.inputs.map z5h)++(mE (c.funs.map y4k)++mE (c.outputs.map y9m)))
def z0s (c:Core):Bs×Int:=if yR c≠0 then (sNo,yR c) else if 60000 < (gW c).size then (sNo,2) else (gW c,0)
theorem y9z (x:Bs):x++(⟨#[]⟩:Bs)=x:=by apply ByteArray.ext;simp [ByteArray.data_append]
theorem z8c (a b c:Bs):(a++b)++c=a++(b++c):=ByteArray.append_assoc
theorem y3g {α:Type} {f:α->Bs} {l:List α} {i:Nat} {x:α} (h:l[i]? = some x):mE ((l.drop i).map f)=f x++mE ((l.drop (i+1)).map f):=by
 rw [zA h];rfl
theorem cat_end {α:Type} {f:α->Bs} {l:List α} {i:Nat} (h:¬i < l.length):mE ((l.drop i).map f)=⟨#[]⟩:=by
 rw [zB h];rfl
theorem z6e {α:Type} {f:α->Bs} {l:List α} {i:Nat} {x:α} {acc rest F:Bs} (a:l[i]? = some x) (h:acc++(mE ((l.drop i).map f)++rest)=F):(acc++f x)++(mE ((l.drop (i+1)).map f)++rest)=F:=by
 rw [<- h,y3g a];simp only [z8c]
theorem z1x {α:Type} {f:α->Bs} {l:List α} {i:Nat} {acc rest F:Bs} (a:¬i < l.length) (h:acc++(mE ((l.drop i).map f)++rest)=F):acc++rest=F:=by
 rw [<- h,cat_end a,z8y]
theorem oW:∀{l:List Bs} {m:Nat},(∀x∈l,x.size<=m)->(mE l).size<=l.length * m
 | [],_,_=>by simp [mE];rfl
 | x::l,m,h=>by
  have h1:=h x msQ
  have b:=oW (l:=l) (m:=m) (fun y a=>h y (mcQ _ a))
  simp only [mE,zL,lcQ,Nat.add_mul];omega
theorem z6d {α:Type} {f:α->Bs} {l:List α} {i:Nat} {x:α} {acc rest F:Bs} (a:l[i]? = some x) (h:acc++(mE ((l.drop i).map f)++rest)=F):acc.size+(f x).size<=F.size:=by
 rw [<- h,y3g a];simp only [zL];omega
theorem y9k {α β:Type} {f:α->β} {l:List α} {j:Nat} {x:α} (a:l[j]? = some x):(l.map f).take (j+1)=(l.map f).take j++[f x] :=
 jY (by rw [List.getElem?_map,a];rfl)
theorem q5y {α β:Type} {f:α->β} {l:List α} {j:Nat} (h:¬j < l.length):(l.map f).take j=l.map f:=y6y (by rw [List.length_map];exact h)
theorem x1h {l:List Fun} {i:Nat} {f:Fun} {acc rest F:Bs} (a:l[i]? = some f) (h:acc++(mE ((l.drop i).map y4k)++rest)=F) :
  (acc++((⟨#[102,117,110,32]⟩:Bs)++f.name))++(mE ((f.params.drop 0).map z5o)++((((⟨#[32,58,32]⟩:Bs)++f.result)++⟨#[32,61,32]⟩)++((wB f.body++⟨#[10]⟩)++(mE ((l.drop (i+1)).map y4k)++rest))))=F:=by
 rw [<- h,y3g a];simp only [y4k,z8c,List.drop_zero]
theorem x6v {acc m w n R F:Bs} (h:acc++(m++((w++n)++R))=F):(((acc++m)++w)++n)++R=F:=by
 rw [<- h];simp only [z8c]
theorem j1b {c:Core} (h:¬yR c=0):z0s c=(⟨#[]⟩,yR c):=by unfold z0s;rw [if_pos h];rfl
theorem j1a {c:Core} (h:yR c=0) (hl:60000 < (gW c).size):z0s c=(⟨#[]⟩,2):=by unfold z0s;rw [if_neg (not_not_intro h),if_pos hl];rfl
theorem x2n {c:Core} (h:yR c=0) (hl:¬60000 < (gW c).size):z0s c=(gW c,0):=by unfold z0s;rw [if_neg (not_not_intro h),if_neg hl]
theorem z6c:∀{l:List Ex} {x:Ex} {y:Bs},x∈l->y∈zY x->y∈calledPs l
 | z::l,x,y,h,a=>by
  simp only [calledPs,List.mem_append]
  rcases List.mem_cons.1 h with rfl | h
  ·exact .inl a
  ·exact .inr (z6c h a)
theorem z6b:∀{l:List Arm} {a:Arm} {y:Bs},a∈l->y∈zY a.body->y∈calledPa l
 | z::l,a,y,h,b=>by
  rw [mA,List.mem_append]
  rcases List.mem_cons.1 h with rfl | h
  ·exact .inl b
  ·exact .inr (z6b h b)
theorem j5n {T:Table} {n y x:Bs} (h1:y∈jV T n) (h:Reach T y x):Reach T n x:=by
 induction h with
 | refl=>exact .step .refl h1
 | step _ a b=>exact .step b a
theorem q1h {T:Table}:∀{vs:List Val} {ps:List Param},nC T vs ps=true->tL T vs (ps.map Param.type)
 | [],[],_=>trivial
 | v::vs,p::ps,h=>by
  simp only [nC,baQ] at h
  exact ⟨h.1.2,q1h h.2⟩
 | [],_::_,h=>by cases h
 | _::_,[],h=>by cases h
theorem y2z {T:Table} {n:Bs} {f:Fun} (d:zJ T.funs n=some f) (b:¬xP T n):jA f.body=false/\∀y∈zY f.body,¬xP T y:=by
 have hb:=aJ d
 refine ⟨?_,fun y e hr=>b ?_⟩
 ·cases a:jA f.body with
  | false=>rfl
  | true=>exact absurd ⟨_,.refl,by rw [hb];exact a⟩ b
 ·obtain ⟨x,h1,c⟩:=hr
  exact ⟨x,j5n (by unfold jV;rw [hb];exact e) h1,c⟩
theorem q6k (T:Table):Closed T ⟨T.funs,[]⟩ (fun e=>jA e=false/\∀y∈zY e,¬xP T y):=by
 refine ⟨fun {e x} b i=>?_,fun {e a} b h=>?_,fun {e t} b d=>?_,fun {e f} b d j=>?_⟩
 ·obtain ⟨h1,c⟩:=b
  rw [aX] at h1
  simp only [Bool.or_eq_false_iff] at h1
  refine ⟨?_,fun y g=>c y ?_⟩
  ·have:=List.any_eq_false.1 h1.1.2 x i;simpa using this
  ·rw [mW];simp only [List.mem_append];exact .inl (.inr (z6c i g))
 ·obtain ⟨h1,c⟩:=b
  rw [aX] at h1
  simp only [Bool.or_eq_false_iff] at h1
  refine ⟨?_,fun y g=>c y ?_⟩
  ·have:=List.any_eq_false.1 h1.2 a h;simpa using this
  ·rw [mW];simp only [List.mem_append];exact .inr (z6b h g)
 ·have:=b.1
  rw [aX] at this;simp [d] at this
 ·exact y2z j (b.2 _ (by rw [mW,if_pos d];simp))
theorem z8f {c:Core} (h:yR c=0) (name:Bs) (args:List Val):q7h c name args:=by
 intro f a b hr g
 exact (q7t (pL h) (q6k (zE c)) a (y2z a hr) (q1h b) g).1
mutual
def uN:Ex->Prop
 | .mk _ n _ args arms=>I64 n/\numsEs args/\numsEa arms
def numsEs:List Ex->Prop
 | []=>True
 | e::es=>uN e/\numsEs es
def numsEa:List Arm->Prop
 | []=>True
 | .mk _ _ b::es=>uN b/\numsEa es
end
mutual
theorem REx'.nums {V:Fz}:∀{x:Ex} {cs:List Value},REx' V x cs->uN x
 | .mk _ _ _ _ _,_,⟨_,_,_,_,_,c,_,a,_,d⟩=>⟨c,REs'.nums a,RArms'.nums d⟩
theorem REs'.nums {V:Fz}:∀{xs:List Ex} {cs:List Value},REs' V xs cs->numsEs xs
 | [],_,_=>trivial
 | _::_,_,⟨_,_,_,_,b,a⟩=>⟨REx'.nums b,REs'.nums a⟩
theorem RArm'.nums {V:Fz}:∀{x:Arm} {cs:List Value},RArm' V x cs->uN x.body
 | .mk _ _ _,_,⟨_,_,_,_,_,a⟩=>REx'.nums a
theorem RArms'.nums {V:Fz}:∀{xs:List Arm} {cs:List Value},RArms' V xs cs->numsEa xs
 | [],_,_=>trivial
 | .mk _ _ _::_,_,⟨_,_,_,_,b,a⟩=>⟨RArm'.nums b,RArms'.nums a⟩
end
theorem y3i {α:Type} {R:List Value->α->Prop} {k:Nat}:∀{xs:List α} {cs:List Value},Chunks R k cs xs->∀x∈xs,∃c,R c x
 | y::xs,_,h,x,a=>by
  obtain ⟨c,rest,_,_,b,d⟩:=h
  rcases List.mem_cons.1 a with rfl | a
  ·exact ⟨c,b⟩
  ·exact y3i d x a
theorem q0m {V:Fz} {d:List Value} {c:Core} (h:RCore V d c):∀f∈c.funs,uN f.body:=fun f b=>by
 obtain ⟨_,_,_,_,_,_,_,a,_⟩:=h
 obtain ⟨_,_,a⟩:=a
 obtain ⟨_,_,_,_,_,hb⟩:=y3i a f b
 exact REx'.nums hb
theorem y5q:∀{l:List Ex},numsEs l->∀x∈l,uN x
 | y::l,h,x,a=>by
  rcases List.mem_cons.1 a with rfl | a
  ·exact h.1
  ·exact y5q h.2 x a
theorem y5p:∀{l:List Arm},numsEa l->∀a∈l,uN a.body
 | .mk _ _ b::l,h,x,c=>by
  rcases List.mem_cons.1 c with rfl | c
  ·exact h.1
  ·exact y5p h.2 x c
theorem x7w {e:Ex} (h:uN e):I64 e.num/\(∀x∈e.args,uN x)/\∀a∈e.arms,uN a.body:=by
 cases e;exact ⟨h.1,y5q h.2.1,y5p h.2.2⟩
theorem q0w:∀(d f n:Nat),n < 10 ^ (d+1)->(z6h f n).length<=d+1
 | _,0,_,_=>by simp [z6h]
 | d,f+1,n,h=>by
  simp only [z6h]
  split
  ·simp
  ·rename_i a
   cases d with
   | zero=>omega
   | succ d=>
    have:=q0w d f (n / 10) (by rw [Nat.pow_succ] at h;omega)
    simp only [lcQ];omega
theorem x1s {n:Int} (h:I64 n):(y0v n).length<=24:=by
 have h1:∀m:Nat,m<=9223372036854775808->(q8x m).length<=19:=fun m N=>by
  unfold q8x;rw [List.length_reverse];exact q0w 18 _ _ (by omega)
 unfold I64 at h
 unfold y0v
 split
 ·have:=h1 (-n).toNat (by omega);simp only [lcQ];omega
 ·have:=h1 n.toNat (by omega);omega
theorem j9q:∀{l:List Ex},(∀x∈l,wfE x=true)->wfEs l=true
 | [],_=>rfl
 | y::l,h=>by
  simp only [wfEs,baQ]
  exact ⟨h y msQ,j9q fun x a=>h x (mcQ _ a)⟩
theorem j9p:∀{l:List Arm},(∀a∈l,wfE a.body=true/\a.con.size<=24/\∀v∈a.vars,v.size<=24)->wfEa l=true
 | [],_=>rfl
 | .mk c vs b::l,h=>by
  obtain ⟨h1,d,e⟩:=h (.mk c vs b) msQ
  simp only [wfEa,baQ,decide_eq_true_eq,List.all_eq_true]
  exact ⟨⟨⟨h1,j9p fun x f=>h x (mcQ _ f)⟩,d⟩,e⟩
theorem wfE_of {e:Ex} (h1:e.kind=7->0 < e.args.length) (c:∀x∈e.args,wfE x=true) (d:∀a∈e.arms,wfE a.body=true/\a.con.size<=24/\∀v∈a.vars,v.size<=24) (f:e.name.size<=24) (g:I64 e.num):wfE e=true:=by
 cases e with
 | mk k n s args arms=>
  simp only [wfE,baQ,Bool.or_eq_true,decide_eq_true_eq]
  refine ⟨⟨⟨⟨?_,j9q c⟩,j9p d⟩,f⟩,x1s g⟩
  by_cases b:k=7
  ·exact .inr (h1 b)
  ·exact .inl b
theorem All2.left {α β:Type} {R:α->β->Prop}:∀{xs:List α} {ys:List β},All2 R xs ys->∀x∈xs,∃y∈ys,R x y
 | x::xs,y::ys,h,z,a=>by
  rcases List.mem_cons.1 a with rfl | a
  ·exact ⟨y,msQ,h.1⟩
  ·obtain ⟨u,h1,b⟩:=All2.left h.2 z a;exact ⟨u,mcQ _ h1,b⟩
 | [],_,_,z,a=>by cases a
 | _::_,[],h,_,_=>h.elim
theorem y5j {l:List Ex} {x:Ex} (h:x∈l):∃p q,bindPs l=p++zP x++q:=by
 induction l with
 | nil=>cases h
 | cons b az a=>
  simp only [bindPs]
  rcases List.mem_cons.1 h with rfl | h
  ·exact ⟨[],bindPs az,by simp⟩
  ·obtain ⟨p,q,e⟩:=a h
   exact ⟨zP b++p,q,by rw [e];simp⟩
theorem q0d {e:Ex} {num:Bool} {a b:Int} (h:qM e num false a b=true):e.name=sNo:=by
 simp only [qM,baQ,Bool.false_or,decide_eq_true_eq] at h;exact h.1.1.2
theorem z4w {e:Ex} {num nm:Bool} {b:Int} (h:qM e num nm 0 b=true):e.args=[]:=List.eq_nil_of_length_eq_zero (vC (n:=0) h)
theorem aG {e:Ex} {num nm:Bool} {a:Int} (h:qM e num nm a 0=true):e.arms=[]:=by
 simp only [qM,baQ,Bool.or_eq_true,decide_eq_true_eq] at h
 rcases h.2 with h | h
 ·omega
 ·exact List.eq_nil_of_length_eq_zero (by omega)
structure Brief (T:Table):Prop where
 cons:∀n m,zJ T.cons n=some m->n.size<=24
 funs:∀n f,zJ T.funs n=some f->n.size<=24
 inputs:∀n t,zJ T.inputs n=some t->n.size<=24
 datas:∀t d x,zJ T.datas t=some d->x∈d.cons->x.name.size<=24
 dNo:zJ T.datas sNo=none
structure Parts (T:Table) (e:Ex) (s:Scope):Prop where
 args:∀x∈e.args,∃s' u,(zP x).Nodup/\Fresh s' (zP x)/\Ty T x s' u/\∀m v,zJ s' m=some v->m∈zP e∨∃v',zJ s m=some v'
 arms:∀a∈e.arms,(∃s' u,(zP a.body).Nodup/\Fresh s' (zP a.body)/\Ty T a.body s' u/\∀m v,zJ s' m=some v->m∈zP e∨∃v',zJ s m=some v')/\∃n d c,zJ T.datas n=some d/\c∈d.cons/\a.con=c.name
 name:e.name.size<=1∨e.name∈zP e∨(∃v,zJ s e.name=some v)∨(∃v,zJ T.inputs e.name=some v)∨(∃m,zJ T.cons e.name=some m)∨(∃f,zJ T.funs e.name=some f)
 case1:e.kind=7->0 < e.args.length
 inp:e.kind=3->∃u,zJ T.inputs e.name=some u
theorem z3i {T:Table} (F:zJ T.datas sNo=none) {e:Ex} {s:Scope} {t:Bs} (g0:(zP e).Nodup) (a0:Fresh s (zP e)) (c:Ty T e s t):Parts T e s:=by
  obtain ⟨c,g⟩:=c
  have B:∀x∈e.args,nW T x:=fun x D=>cN T F _ x (Nat.lt_succ_self _)
  have c0:∀a∈e.arms,nW T a.body:=fun a o=>cN T F _ a.body (Nat.lt_succ_self _)
  have G:=wX e
  have X:=g0
  have M:=a0
  rw [G] at X M
  have L:=zV X
  have A:=zV L.1
  have w:Fresh s (bindPs e.args):=M.sub fun m N=>List.mem_append.2 (.inl (List.mem_append.2 (.inr N)))
  have Q:Fresh s (bindPa e.arms):=M.sub fun m N=>List.mem_append.2 (.inr N)
  have all:∀ts,All2 (fun x t=>Ty T x s t) e.args ts->∀x∈e.args,∃s' u,(zP x).Nodup/\Fresh s' (zP x)/\Ty T x s' u/\∀m v,zJ s' m=some v->m∈zP e∨∃v',zJ s m=some v':=fun ts o x D=>by
   obtain ⟨u,_,hu⟩:=All2.left o x D
   obtain ⟨p,q,V⟩:=y5j D
   have k1:(zP x).Nodup:=by have:=A.2.1;rw [V] at this;exact (zV (zV this).1).2.1
   exact ⟨s,u,k1,w.sub fun m N=>by rw [V];simp [N],hu,fun m v h=>.inr ⟨v,h⟩⟩
  by_cases h1:e.kind=1
  ·rw [aO T e s h1] at c
   simp only [oP] at c
   split at c
   ·rename_i i
    exact ⟨by rw [z4w i];simp,by rw [aG i];simp,.inl (by rw [q0d i];decide),fun h=>by omega,fun h=>by omega⟩
   ·exact absurd c.symm g
  by_cases h2:e.kind=2
  ·rw [nO T e s h2] at c
   simp only [pF] at c
   split at c
   ·rename_i i
    cases hl:zJ s e.name with
    | none=>rw [hl] at c;exact absurd c.symm g
    | some u=>exact ⟨by rw [z4w i];simp,by rw [aG i];simp,.inr (.inr (.inl ⟨u,hl⟩)),fun h=>by omega,fun h=>by omega⟩
   ·exact absurd c.symm g
  by_cases h3:e.kind=3
  ·rw [nL T e s h3] at c
   simp only [sI] at c
   split at c
   ·rename_i i
    cases hl:zJ T.inputs e.name with
    | none=>rw [hl] at c;exact absurd c.symm g
    | some u=>exact ⟨by rw [z4w i];simp,by rw [aG i];simp,.inr (.inr (.inr (.inl ⟨u,hl⟩))),fun h=>by omega,fun _=>⟨u,hl⟩⟩
   ·exact absurd c.symm g
  by_cases h4:e.kind=4
  ·rw [nK T e s h4] at c
   unfold tO at c
   split at c
   ·exact absurd c.symm g
   ·rename_i m N
    split at c
    ·rename_i i
     split at c
     ·rename_i o
      exact ⟨all _ (cJ B A.2.1 w o).2,by rw [aG i];simp,.inr (.inr (.inr (.inr (.inl ⟨m,N⟩)))),fun h=>by omega,fun h=>by omega⟩
     ·exact absurd c.symm g
    ·exact absurd c.symm g
  by_cases h5:e.kind=5
  ·rw [wK T e s h5] at c
   unfold nS at c
   split at c
   ·exact absurd c.symm g
   ·rename_i f N
    split at c
    ·rename_i i
     split at c
     ·rename_i o
      exact ⟨all _ (cJ B A.2.1 w o).2,by rw [aG i];simp,.inr (.inr (.inr (.inr (.inr ⟨f,N⟩)))),fun h=>by omega,fun h=>by omega⟩
     ·exact absurd c.symm g
    ·exact absurd c.symm g
  by_cases W:e.kind=6
  ·rw [nM T e s W] at c
   unfold z1p at c
   split at c
   ·rename_i i
    have hl:=vC (n:=2) i
    obtain ⟨x,y,j⟩:∃x y,e.args=[x,y]:=by
     cases o:e.args with
     | nil=>rw [o] at hl;simp at hl
     | cons a l=>
      cases l with
      | nil=>rw [o] at hl;simp at hl
      | cons b l=>
       rw [o] at hl
       simp only [lcQ] at hl
       have:l=[]:=List.eq_nil_of_length_eq_zero (by omega)
       subst this;exact ⟨a,b,rfl⟩
    have D:e.args[0]? = some x:=by rw [j];rfl
    have hy:e.args[1]? = some y:=by rw [j];rfl
    by_cases E:(zG T x s).1=sNo
    ·rw [z4a D E] at c;exact absurd c.symm g
    ·rw [sM D hy E] at c
     simp only at c
     have K:x∈e.args:=by rw [j];simp
     simp only [if_pos W,j,bindPs,List.append_nil] at X M
     have f0:=zV X
     have U:=zV f0.1
     have I:=zV U.2.1
     have R:Fresh s (zP x):=M.sub fun m N=>by simp [N]
     have Y:=B x K s I.1 R E
     have P:e.name∈zP e:=by rw [G,if_pos W];simp
     have S:Fresh (pD s e.name (zG T x s).1) (zP y):=fun m N=>by
      rw [kG,if_neg]
      ·exact M m (by simp [N])
      ·rintro rfl
       exact U.2.2 e.name (by simp) (by simp [N])
     rw [Y] at c
     refine ⟨fun z C=>?_,by rw [aG i];simp,.inr (.inl P),fun h=>by omega,fun h=>by omega⟩
     rw [j] at C
     rcases List.mem_cons.1 C with rfl | C
     ·exact ⟨s,_,I.1,R,⟨rfl,E⟩,fun m v h=>.inr ⟨v,h⟩⟩
     ·rcases List.mem_cons.1 C with rfl | C
      ·refine ⟨_,t,I.2.1,S,⟨c,g⟩,fun m u N=>?_⟩
       rw [kG] at N
       split at N
       ·rename_i h;rw [h];exact .inl P
       ·exact .inr ⟨u,N⟩
      ·cases C
   ·exact absurd c.symm g
  by_cases h7:e.kind=7
  ·rw [nJ T e s h7] at c
   unfold xH at c
   split at c
   ·rename_i i
    have hl:=vC (n:=1) i
    obtain ⟨x,j⟩:∃x,e.args=[x]:=by
     cases o:e.args with
     | nil=>rw [o] at hl;simp at hl
     | cons a l=>
      rw [o] at hl
      simp only [lcQ] at hl
      have:l=[]:=List.eq_nil_of_length_eq_zero (by omega)
      subst this;exact ⟨a,rfl⟩
    have D:e.args[0]? = some x:=by rw [j];rfl
    have K:x∈e.args:=by rw [j];simp
    rw [jG D] at c
    split at c
    ·exact absurd c.symm g
    ·rename_i d Z
     split at c
     ·rename_i d0
      have E:(zG T x s).1≠sNo:=fun e0=>by rw [e0,F] at Z;cases Z
      rw [j] at A w
      simp only [bindPs,List.append_nil] at A w
      have Y:=B x K s A.2.1 w E
      rw [Y] at c
      have k0:=z0w g c0 d0 L.2.1 Q c
      refine ⟨fun z C=>?_,fun a o=>?_,.inl (by rw [q0d i];decide),fun _=>by omega,fun h=>by omega⟩
      ·rw [j] at C
       rcases List.mem_cons.1 C with rfl | C
       ·exact ⟨s,_,A.2.1,w,⟨rfl,E⟩,fun m v h=>.inr ⟨v,h⟩⟩
       ·cases C
      ·obtain ⟨k,hk,q3,q4,q5⟩:=All2.left k0.2.1 a o
       obtain ⟨l,r,H⟩:=z5k o
       have i0:(a.vars++zP a.body).Nodup:=by
        have:=L.2.1
        rw [H] at this
        exact (zV (zV this).1).2.1
       have b0:Fresh s (a.vars++zP a.body):=Q.sub fun m N=>by rw [H];simp at N ⊢;rcases N with N | N <;> simp [N]
       have hnn':=zV i0
       refine ⟨⟨putAll s a.vars k.fields,t,hnn'.2.1,fun m N=>by
        rw [vE (fun hp=>hnn'.2.2 m hp N)];exact b0 m (List.mem_append.2 (.inr N)),q5,fun m u N=>?_⟩,_,d,k,Z,hk,q3⟩
       by_cases hv:m∈a.vars
       ·exact .inl (by rw [G,H];simp [hv])
       ·rw [vE hv] at N;exact .inr ⟨u,N⟩
     ·exact absurd c.symm g
   ·exact absurd c.symm g
  by_cases h8:e.kind=8
  ·rw [cG T e s h8] at c
   unfold nV at c
   split at c
   ·rename_i i
    split at c
    ·rename_i o
     refine ⟨all _ (cJ B A.2.1 w o).2,by rw [aG i];simp,.inl ?_,fun h=>by omega,fun h=>by omega⟩
     simp only at c
     unfold opT at c
     split at c
     ·rename_i ho
      rcases ho with h | h | h | h | h <;> rw [h] <;> decide
     ·split at c
      ·rename_i ho
       rcases ho with h | h <;> rw [h] <;> decide
      ·exact absurd c.symm g
    ·exact absurd c.symm g
   ·exact absurd c.symm g
  rw [nN T e s h1 h2 h3 h4 h5 W h7 h8] at c
  exact absurd c.symm g
theorem y7m {T:Table} (b:Brief T):∀(n:Nat) (e:Ex),e.sz < n->∀(s:Scope) (t:Bs),(zP e).Nodup->Fresh s (zP e)->Ty T e s t->(∀m∈zP e,m.size<=24)->(∀m u,zJ s m=some u->m.size<=24)->uN e->wfE e=true
 | 0,_,h=>by omega
 | n+1,e,G=>by
  intro s t F E H hb O o
  obtain ⟨l,A,B⟩:=x7w o
  have w:=z3i b.dNo F E H
  have z:∀x∈e.args,∀m∈zP x,m.size<=24:=fun x i m N=>hb m (by
   obtain ⟨p,q,g⟩:=y5j i
   rw [wX,g];simp [N])
  have j:∀a∈e.arms,∀m∈a.vars++zP a.body,m.size<=24:=fun a f m N=>hb m (by
   obtain ⟨p,q,g⟩:=z5k f
   rw [wX,g];simp at N ⊢;rcases N with N | N <;> simp [N])
  have r:∀s':Scope,(∀m v,zJ s' m=some v->m∈zP e∨∃v',zJ s m=some v')->∀m u,zJ s' m=some u->m.size<=24:=fun s' h m u N=>by
   rcases h m u N with h | ⟨v,h⟩
   ·exact hb m h
   ·exact O m v h
  refine wfE_of w.case1 (fun x i=>?_) (fun a f=>?_) ?_ l
  ·obtain ⟨s',u,y,a2,a3,a4⟩:=w.args x i
   exact y7m b n x (by have:=Ex.lt_args i;omega) s' u y a2 a3 (z x i) (r s' a4) (A x i)
  ·obtain ⟨⟨s',u,y,a2,a3,a4⟩,k,d,c,h1,C,D⟩:=w.arms a f
   exact ⟨y7m b n a.body (by have:=Ex.lt_arms f;omega) s' u y a2 a3 (fun m N=>j a f m (List.mem_append.2 (.inr N))) (r s' a4) (B a f),by rw [D];exact b.datas _ _ _ h1 C,
    fun v I=>j a f v (List.mem_append.2 (.inl I))⟩
  ·rcases w.name with h | h | ⟨v,h⟩ | ⟨v,h⟩ | ⟨v,h⟩ | ⟨v,h⟩
   ·omega
   ·exact hb _ h
   ·exact O _ _ h
   ·exact b.inputs _ _ h
   ·exact b.cons _ _ h
   ·exact b.funs _ _ h
theorem dV {s:Bs} (h:qO s=true):s.size<=24:=by
 simp only [qO,wR,decide_eq_true_eq] at h
 split at h
 ·cases h
 ·omega
theorem uC {s:Bs} (h:qL s=true):s.size<=24:=by
 simp only [qL,wR,decide_eq_true_eq] at h
 split at h
 ·cases h
 ·omega
theorem q7r {c:Core} (a:Right c):Brief (zE c) where
 cons n m h:=by
  rw [a.cons] at h
  obtain ⟨d,g,_,e,rfl⟩:=q0j h
  exact uC ((a.dN d g).2.2.2 _ e)
 funs n f h:=by
  rw [a.funs] at h
  obtain ⟨x,b,rfl,_⟩:=xS h
  exact dV (a.fN x b)
 inputs n t h:=by
  rw [a.inputs] at h
  obtain ⟨x,b,rfl,_⟩:=xS h
  exact dV (a.iN x b)
 datas t d x h b:=by
  rw [a.datas] at h
  obtain ⟨y,i,rfl,rfl⟩:=xS h
  exact uC ((a.dN y i).2.2.2 _ b)
 dNo:=(uR (inp:=[]) a).dNo
theorem j9r {c:Core} (a:Right c) {f:Fun} (e:f∈c.funs) (g:uN f.body):wfE f.body=true:=by
 have h1:=a.fOk f e
 have i:=h1
 simp only [pI,baQ,decide_eq_true_eq] at h1
 obtain ⟨d,_,a3⟩:=vG h1.1.2
 have a4:=zV d
 refine y7m (q7r a) _ f.body (Nat.lt_succ_self _) (sQ f.params) f.result a4.2.1 (fun m N=>?_) ⟨h1.2,q6t a h1.1.1.2⟩ (fun m N=>dV (a3 m (List.mem_append.2 (.inr N)))) (fun m u N=>?_) g
 ·rw [aZ,vE (fun h=>a4.2.2 m h N)];rfl
 ·by_cases b:m∈f.params.map Param.name
  ·exact dV (a3 m (List.mem_append.2 (.inl b)))
  ·rw [aZ,vE b] at N;cases N
theorem z9v {c:Core} (a:Right c) {t:Bs} (h:kQ (zE c) t=true):t.size<=24:=by
 simp only [kQ,Bool.or_eq_true,decide_eq_true_eq] at h
 rcases h with h | h
 ·rw [a.datas] at h
  cases b:zJ (xK Data.name id (truthsD::c.datas)) t with
  | none=>rw [b] at h;cases h
  | some d=>
   obtain ⟨x,e,rfl,_⟩:=xS b
   exact uC (a.dN x e).1
 ·rw [h];decide
theorem z6p (name:Bs):∀(l:List Data) (n:Int) (ok:Bool),(∀d∈l,d.name≠name)->(mN name l n ok).1=n
 | [],_,_,_=>rfl
 | d::l,n,ok,h=>by
  simp only [mN,if_neg (h d msQ)]
  exact z6p name l n ok fun x a=>h x (mcQ _ a)
theorem x7c {c:Core} (f:Right c) {t:Bs} (h:jM c.datas t=true):t.size<=24:=by
 unfold jM at h
 split at h
 ·rename_i e;rw [e];decide
 ·simp only [baQ,decide_eq_true_eq] at h
  by_cases b:∃d∈c.datas,d.name=t
  ·obtain ⟨d,a,rfl⟩:=b
   exact uC (f.dN d (mcQ _ a)).1
  ·have:=z6p t c.datas 0 true (fun d a e=>b ⟨d,a,e⟩)
   rw [this] at h;omega
theorem q5w {m:Nat}:∀{l:List Bs},(∀x∈l,x.size<=m)->mS l<=l.length * m
 | [],_=>by simp [mS]
 | x::l,h=>by
  have h1:=h x msQ
  have b:=q5w (l:=l) fun y a=>h y (mcQ _ a)
  rw [aT,lcQ,Nat.add_mul];omega
theorem q9v (sep:Bs) (l:List Bs):(nE sep l).size<=mS l+sep.size * l.length:=by
 cases l with
 | nil=>show 0<=_;omega
 | cons x l=>
  have:∀(l:List Bs) (a:Bs),(l.foldl (fun a s=>a++sep++s) a).size=a.size+mS l+sep.size * l.length:=by
   intro l
   induction l with
   | nil=>intro a;simp [mS]
   | cons y l b=>
    intro a
    rw [List.foldl_cons,b,zL,zL,aT,lcQ,Nat.mul_add];omega
  have h:=this l x
  simp only [nE]
  rw [h,aT,lcQ,Nat.mul_add];omega
theorem y3j {c:Core} (a:Right c) (hl:vO c=false) {d:Data} (b:d∈c.datas) {x:Con} (e:x∈d.cons):mS (x.name::x.fields)+(⟨#[32]⟩:Bs).size * (x.name::x.fields).length<=425:=by
 have h1:=uC ((a.dN d (mcQ _ b)).2.2.2 x e)
 have f:=a.fields d b
 simp only [nZ,List.all_eq_true] at f
 have i:mS x.fields<=x.fields.length * 24:=q5w fun y h=>z9v a (f x e y h)
 have j:x.fields.length<=16:=by
  simp only [vO,Bool.or_eq_false_iff,List.any_eq_false] at hl
  have:=hl.1.2 d b
  simp only [hO,Bool.or_eq_true,decide_eq_true_eq,List.any_eq_true,not_or,not_exists,not_and] at this
  have:=this.2 x e
  omega
 have g:(⟨#[32]⟩:Bs).size=1:=rfl
 rw [g,aT,lcQ];omega
theorem z8q {c:Core} (f:Right c) (hl:vO c=false) {d:Data} (a:d∈c.datas):mS (d.cons.map y0o)+(⟨#[32,124,32]⟩:Bs).size * (d.cons.map y0o).length<=6848:=by
 have i:d.cons.length<=16:=by
  simp only [vO,Bool.or_eq_false_iff,List.any_eq_false] at hl
  have:=hl.1.2 d a
  simp only [hO,Bool.or_eq_true,decide_eq_true_eq,not_or] at this
  omega
 have b:mS (d.cons.map y0o)<=(d.cons.map y0o).length * 425:=q5w fun y h=>by
  obtain ⟨x,g,rfl⟩:=List.mem_map.1 h
  exact Nat.le_trans (q9v _ _) (y3j f hl a g)
 have e:(⟨#[32,124,32]⟩:Bs).size=3:=rfl
 rw [e];rw [List.length_map] at b ⊢;omega
theorem j5j {c:Core} (h:yR c=0) (t:∀f∈c.funs,uN f.body):(gW c).size<=8796093022208:=by
 have a:=pL h
 obtain ⟨hl,_⟩:=vD h
 have g:=hl
 simp only [vO,Bool.or_eq_false_iff,decide_eq_false_iff_not] at g
 obtain ⟨⟨⟨⟨⟨F,G⟩,H⟩,I⟩,_⟩,_⟩:=g
 have w:(mE (c.datas.map q0q)).size<=(c.datas.map q0q).length * 7000:=oW fun y e=>by
  obtain ⟨d,q,rfl⟩:=List.mem_map.1 e
  have n:=uC (a.dN d (mcQ _ q)).1
  have r:=Nat.le_trans (q9v _ _) (z8q a hl q)
  simp only [q0q,zL]
  have k:(⟨#[100,97,116,97,32]⟩:Bs).size=5:=rfl
  have e2:(⟨#[32,61,32]⟩:Bs).size=3:=rfl
  have l:(⟨#[10]⟩:Bs).size=1:=rfl
  omega
 have A:(mE (c.inputs.map z5h)).size<=(c.inputs.map z5h).length * 100:=oW fun y e=>by
  obtain ⟨p,j,rfl⟩:=List.mem_map.1 e
  have n:=dV (a.iN p j)
  have r:=x7c a (a.inT p j)
  simp only [z5h,zL]
  have k:(⟨#[105,110,112,117,116,32]⟩:Bs).size=6:=rfl
  have e2:(⟨#[32,58,32]⟩:Bs).size=3:=rfl
  have l:(⟨#[10]⟩:Bs).size=1:=rfl
  omega
 have B:(mE (c.funs.map y4k)).size<=(c.funs.map y4k).length * 4000000:=oW fun y e=>by
  obtain ⟨f,b,rfl⟩:=List.mem_map.1 e
  have n:=dV (a.fN f b)
  have h1:=a.fOk f b
  simp only [pI,baQ,decide_eq_true_eq,List.all_eq_true] at h1
  have r:=z9v a h1.1.1.2
  have K:=z2m hl b
  obtain ⟨m,s,i⟩:=nF hl b
  have L:=z3k f.body m (j9r a b (t f b)) i
  have M:=(wC f.body m i).1
  have P:=xJ f.body
  have D:(mE (f.params.map z5o)).size<=(f.params.map z5o).length * 100:=oW fun z v=>by
   obtain ⟨p,j,rfl⟩:=List.mem_map.1 v
   have Q:=dV ((vG h1.1.2).2.2 p.name (List.mem_append.2 (.inl (List.mem_map_of_mem j))))
   have R:=z9v a (h1.1.1.1 p j)
   simp only [z5o,zL]
   have k:(⟨#[32,40]⟩:Bs).size=2:=rfl
   have e2:(⟨#[32,58,32]⟩:Bs).size=3:=rfl
   have l:(⟨#[41]⟩:Bs).size=1:=rfl
   omega
  rw [List.length_map] at D
  simp only [y4k,zL]
  have k:(⟨#[102,117,110,32]⟩:Bs).size=4:=rfl
  have e2:(⟨#[32,58,32]⟩:Bs).size=3:=rfl
  have l:(⟨#[32,61,32]⟩:Bs).size=3:=rfl
  have E:(⟨#[10]⟩:Bs).size=1:=rfl
  omega
 have C:(mE (c.outputs.map y9m)).size<=(c.outputs.map y9m).length * 100:=oW fun y e=>by
  obtain ⟨o,u,rfl⟩:=List.mem_map.1 e
  obtain ⟨f,b,_⟩:=z0o a.oOk o u
  have n:=(q7r a).funs _ _ b
  simp only [y9m,zL]
  have k:(⟨#[111,117,116,112,117,116,32]⟩:Bs).size=7:=rfl
  have l:(⟨#[10]⟩:Bs).size=1:=rfl
  omega
 rw [List.length_map] at w A B C
 simp only [gW,zL]
 omega
section
variable {ws:List Bs} {i:Nat}
theorem y6b {α β:Type} {r:Rd α} {f:α->Nat->Rd β} {y:β×Nat} (h:qA r f=.ok y):∃x j,r=.ok (x,j)/\f x j=.ok y:=by
 unfold qA at h
 split at h
 ·exact ⟨_,_,rfl,h⟩
 ·cases h
theorem zC {α β:Type} {r:Rd α} {f:α->Nat->Rd β} {x:α×Nat} (h:r=.ok x):qA r f=f x.1 x.2:=by subst h;rfl
theorem zQ {α β:Type} {r:Rd α} {f:α->Nat->Rd β} {n:Nat} (h:r=.error n):qA r f=.error n:=by subst h;rfl
theorem mP (h:¬zD ws i=⟨#[]⟩):i < ws.length:=by
 refine Classical.byContradiction fun a=>h ?_
 unfold zD
 rw [List.getD_eq_getElem?_getD,List.getElem?_eq_none (by omega)];rfl
theorem xB {x:Bs} (h:ws[i]? = some x):zD ws i=x:=by unfold zD;rw [List.getD_eq_getElem?_getD,h];rfl
theorem x8e (h:¬i < ws.length):zD ws i=⟨#[]⟩:=by unfold zD;rw [List.getD_eq_getElem?_getD,List.getElem?_eq_none (by omega)];rfl
theorem y6x {p:Bs->Bool} (h:¬zD ws i=⟨#[]⟩) (b:p (zD ws i)=true):aC ws p i=.ok (zD ws i,i+1):=by
 unfold aC;rw [if_neg];rintro (a | a);exact h a;rw [b] at a;cases a
theorem x9l {p:Bs->Bool} (h:zD ws i=⟨#[]⟩):aC ws p i=.error (i+1):=by unfold aC;rw [if_pos (.inl h)]
theorem x3h {p:Bs->Bool} (h:p (zD ws i)=false):aC ws p i=.error (i+1):=by unfold aC;rw [if_pos (.inr h)]
theorem z9s {p:Bs->Bool} {x:Bs×Nat} (h:aC ws p i=.ok x):x.2=i+1/\i < ws.length/\p x.1=true:=by
 unfold aC at h
 split at h
 ·cases h
 ·rename_i a
  simp only [Except.ok.injEq] at h
  subst h
  exact ⟨rfl,mP fun e=>a (.inl e),by cases b:p (zD ws i) with | true=>rfl | false=>exact absurd (.inr b) a⟩
theorem x7v {w:Bs} {x:Bs×Nat} (h:aC ws (fun s=>decide (s=w)) i=.ok x):pJ ws w i=.ok ((),x.2):=by unfold pJ;rw [zC h]
theorem x2f {w:Bs} {n:Nat} (h:aC ws (fun s=>decide (s=w)) i=.error n):pJ ws w i=.error n:=by unfold pJ;rw [zQ h]
theorem q2h {w:Bs} {x:Unit×Nat} (h:pJ ws w i=.ok x):x.2=i+1/\i < ws.length:=by
 obtain ⟨y,j,h1,a⟩:=y6b h
 have:=z9s h1
 simp only [Except.ok.injEq] at a
 subst a;exact ⟨this.1,this.2.1⟩
def Goes (ws:List Bs) {α:Type} (f:Nat->Rd α):Prop:=∀i x,f i=.ok x->i < x.2/\x.2<=ws.length
def Stays (ws:List Bs) {α:Type} (f:Nat->Rd α):Prop:=∀i x,i<=ws.length->f i=.ok x->i<=x.2/\x.2<=ws.length
theorem Goes.stays {α:Type} {f:Nat->Rd α} (h:Goes ws f):Stays ws f:=fun i x _ a=>⟨Nat.le_of_lt (h i x a).1,(h i x a).2⟩
theorem vU (p:Bs->Bool):Goes ws (aC ws p):=fun i x h=>by have:=z9s h;omega
theorem mB (w:Bs):Goes ws (pJ ws w):=fun i x h=>by have:=q2h h;omega
theorem Goes.bind {α β:Type} {f:Nat->Rd α} {g:α->Nat->Rd β} (c:Goes ws f) (d:∀x,Stays ws (g x)):Goes ws (fun i=>qA (f i) g):=fun i y h=>by
 obtain ⟨x,j,h1,b⟩:=y6b h
 have a:=c i _ h1
 have e:=d x j y a.2 b
 simp only at a;omega
theorem Stays.bind {α β:Type} {f:Nat->Rd α} {g:α->Nat->Rd β} (c:Stays ws f) (d:∀x,Stays ws (g x)):Stays ws (fun i=>qA (f i) g):=fun i y e h=>by
 obtain ⟨x,j,h1,b⟩:=y6b h
 have a:=c i _ e h1
 have k:=d x j y a.2 b
 simp only at a;omega
theorem Stays.ok {α:Type} (x:α):Stays ws (fun i=>.ok (x,i)):=fun i y a h=>by simp only [Except.ok.injEq] at h;subst h;exact ⟨Nat.le_refl _,a⟩
theorem Stays.from {α:Type} {f:Nat->Rd α} (h:Stays ws f) {j:Nat} {y:α×Nat} (b:i < j) (hl:j<=ws.length) (a:f j=.ok y):i < y.2/\y.2<=ws.length:=by
 have:=h j y hl a;omega
theorem z0i {ex:Nat->Rd Ex} (J:Goes ws ex):∀f least,Stays ws (pC ws ex f least)
 | 0,_=>fun i x _ h=>by cases h
 | f+1,least=>fun i x a h=>by
  simp only [pC] at h
  split at h
  ·exact (J.bind fun e=>(z0i J f (least - 1)).bind fun l=>Stays.ok _).stays i x a h
  ·exact Stays.ok _ i x a h
theorem y7e {ex:Nat->Rd Ex} (J:Goes ws ex):Goes ws (z7t ex):=J.bind fun _=>(J.bind fun _=>Stays.ok _).stays
theorem y7k:∀f,Stays ws (oA ws f)
 | 0=>fun i x _ h=>by cases h
 | f+1=>fun i x a h=>by
  simp only [oA] at h
  split at h
  ·exact ((vU qO).bind fun e=>(y7k f).bind fun l=>Stays.ok _).stays i x a h
  ·exact Stays.ok _ i x a h
theorem x4l {ex:Nat->Rd Ex} (J:Goes ws ex):Goes ws (armP ws ex) :=
 (mB _).bind fun _=>(vU qL).stays.bind fun _=>(y7k _).bind fun _=>(mB _).stays.bind fun _=>J.stays.bind fun _=>(mB _).stays.bind fun _=>Stays.ok _
theorem y2u {ex:Nat->Rd Ex} (J:Goes ws ex):∀f b,Stays ws (sC ws ex f b)
 | 0,_=>fun i x _ h=>by cases h
 | f+1,b=>fun i x a h=>by
  simp only [sC] at h
  split at h
  ·exact ((x4l J).bind fun e=>(y2u J f false).bind fun l=>Stays.ok _).stays i x a h
  ·exact Stays.ok _ i x a h
theorem q1d {ex:Nat->Rd Ex} (J:Goes ws ex):Goes ws (qD ws ex):=fun i x h=>by
 have lt:∀{s:Bs},s≠⟨#[]⟩->zD ws i=s->i+1<=ws.length:=fun O e=>mP (by rw [e];exact O)
 unfold qD at h
 split at h
 ·rename_i a
  have:i+1<=ws.length:=mP fun e=>by rw [e] at a;exact absurd a (by decide)
  exact Stays.from (i:=i) ((y7e J).stays.bind fun _=>Stays.ok _) (Nat.lt_succ_self _) this h
 split at h
 ·rename_i e
  exact Stays.from (i:=i) ((vU qO).stays.bind fun _=>(y7e J).stays.bind fun _=>Stays.ok _) (Nat.lt_succ_self _) (lt (by decide) e) h
 split at h
 ·rename_i e
  exact Stays.from (i:=i) (J.stays.bind fun _=>(y2u J _ _).bind fun _=>Stays.ok _) (Nat.lt_succ_self _) (lt (by decide) e) h
 split at h
 ·rename_i b
  have:i+1<=ws.length:=mP fun e=>by rw [e] at b;exact absurd b (by decide)
  exact Stays.from (i:=i) ((z0i J _ _).bind fun _=>Stays.ok _) (Nat.lt_succ_self _) this h
 ·exact ((vU qO).bind fun _=>(z0i J _ _).bind fun _=>Stays.ok _) i x h
theorem kF:∀d,Goes ws (zW ws d)
 | 0=>fun i x h=>by cases h
 | d+1=>fun i x h=>by
  simp only [zW] at h
  split at h
  ·cases h
  rename_i a
  have hl:i+1<=ws.length:=mP a
  split at h
  ·simp only [Except.ok.injEq] at h;subst h;exact ⟨Nat.lt_succ_self _,hl⟩
  split at h
  ·exact Stays.from (i:=i) ((q1d (kF d)).stays.bind fun _=>(mB _).stays.bind fun _=>Stays.ok _) (Nat.lt_succ_self _) hl h
  split at h
  ·simp only [Except.ok.injEq] at h;subst h;exact ⟨Nat.lt_succ_self _,hl⟩
  split at h
  ·simp only [Except.ok.injEq] at h;subst h;exact ⟨Nat.lt_succ_self _,hl⟩
  ·exact ((vU qO).bind fun _=>Stays.ok _) i x h
theorem z6m:∀f,Stays ws (kX ws f)
 | 0=>fun i x _ h=>by cases h
 | f+1=>fun i x a h=>by
  simp only [kX] at h
  split at h
  ·exact ((vU qL).bind fun e=>(z6m f).bind fun l=>Stays.ok _).stays i x a h
  ·exact Stays.ok _ i x a h
theorem z7d:∀f,Stays ws (wV ws f)
 | 0=>fun i x _ h=>by cases h
 | f+1=>fun i x a h=>by
  simp only [wV] at h
  split at h
  ·rename_i e
   have hl:i+1<=ws.length:=mP (by rw [e];decide)
   have:=Stays.from (i:=i) (((vU qO).bind fun n=>((mB j6b).bind fun _=>((vU qL).bind fun t=>Stays.ok (⟨n,t⟩:Param)).stays).stays).stays.bind fun _=>(mB sCls).stays.bind fun _=>(z7d f).bind fun _=>Stays.ok _) (Nat.lt_succ_self _) hl h
   omega
  ·exact Stays.ok _ i x a h
theorem j5b:Goes ws (pO ws):=(vU qO).bind fun _=>(mB _).stays.bind fun _=>(vU qL).stays.bind fun _=>Stays.ok _
theorem q0l:∀f,Goes ws (sD ws f)
 | 0=>fun i x h=>by cases h
 | f+1=>by
  refine (vU qL).bind fun n=>(z6m _).bind fun l=>?_
  intro i x b h
  simp only at h
  split at h
  ·exact Stays.ok _ i x b h
  ·rename_i e
   have e':zD ws i=sBar:=Classical.byContradiction fun a=>e a
   have hl:i+1<=ws.length:=mP (by rw [e'];decide)
   have:=Stays.from (i:=i) ((q0l f).stays.bind fun _=>Stays.ok _) (Nat.lt_succ_self _) hl h
   omega
theorem x0o:Goes ws (gK ws):=(vU qL).bind fun _=>(mB _).stays.bind fun _=>(q0l _).stays.bind fun _=>Stays.ok _
theorem x6t:Goes ws (sG ws):=(vU qO).bind fun _=>(z7d _).bind fun _=>(mB _).stays.bind fun _=>(vU qL).stays.bind fun _=>(mB _).stays.bind fun _=>(kF _).stays.bind fun _=>Stays.ok _
end
def aP (n:Nat):List PanicEntry:=[{ v:=.iface 204 (.agg #[.int .i64 ((n:Nat):Int)]),recovered:=false }]
section
variable {P:Program} {n:Nat} {E:List (Nat×Value)} {D:List Deferred} {a:Act} {V Ψ:Fz} {K:List Res} {w:World}
variable {Kn:Value->World->Prop} {Qp:List PanicEntry->World->Prop} {dst:Option Tmp} {ty:TypeId} {pos:String} {aft:Array Edge} {g:Option (Nat×Bool)}
theorem oX {f:FuncId} {xs:Array Operand} {ts:Array TypeId} {vs:List Value} {c:List PanicEntry} {b:Fz} {KE:List Res}
  (J:EnvR n E D a) (j:evs E xs.toList=some vs) (i:∀args w,(callFunc f args).run P w=.ok (.enter f args) w)
  (d:Calls P f vs.toArray w (fun e w'=>e=.panicked c/\Mem b KE w')) (kp:∀w',Mem b KE w'->Qp c w') :
  Oper.eff P ⟨dst,.call { callee:=.value (.func f),args:=xs,argTypes:=ts },ty,pos,aft,g⟩ a w Kn Qp :=
 cM J j i d (fun v w' h=>by cases h.1) (fun c w' h=>by cases h.1;exact kp _ h.2) (fun w' h=>by cases h.1)
end
theorem x1n {s:Bs} {v:Int} (h:z1e s=.ok v) (a:z2f v=s):z0e s=some v:=by simp [z0e,h,a]
theorem intP_ne {s:Bs} {v:Int} (h:z1e s=.ok v) (a:¬z2f v=s):z0e s=none:=by simp [z0e,h,a]
theorem x7f {s:Bs} {u:Unit} (h:z1e s=.error u):z0e s=none:=by simp [z0e,h]
theorem x7g {s:Bs} {v:Int} (h:z0e s=some v):I64 v:=by
 unfold z0e at h
 split at h
 ·rename_i v' a
  split at h
  ·simp only [Option.some.injEq] at h;subst h;exact y2v a
  ·cases h
 ·cases h
theorem xI {ws:List Bs} {i:Nat} {p:Bs->Bool} {x:Bs×Nat} (h:aC ws p i=.ok x):x.2=i+1/\x.2<=ws.length:=by have:=z9s h;omega
theorem pV {ws:List Bs} {i:Nat} {w:Bs} {x:Unit×Nat} (h:pJ ws w i=.ok x):x.2=i+1/\x.2<=ws.length:=by have:=q2h h;omega
def uW (ws:List Bs) (d:Nat):Prop:=∀{V:Fz} {K:List Res} {w:World} {r i:Nat} {rs:Value},Glob V->SliceOf RStr V 1 rs ws->i<=ws.length ->
  Mem V (.blk r (ob [rs,.int .i64 ((i:Nat):Int)] 208)::K) w ->
  Calls Tryz.prog 180 #[.pointer (some ⟨r,0,none⟩),.int .i64 ((d:Nat):Int)] w (fun ee w'=>Out (zW ws d i)
   (fun x=>∃y:Fz×List Value,ee=.returned (.agg y.2.toArray)/\(V.Le y.1/\REx y.1 y.2 x.1)/\Mem y.1 (.blk r (ob [rs,.int .i64 ((x.2:Nat):Int)] 208)::K) w')
   (fun c=>ee=.panicked (aP c)/\Mem V K w'))
theorem q1k:I64 0:=⟨by decide,by decide⟩
theorem REx.leaf {V:Fz} {k n:Int} {s:Bs} (h:I64 n):REx V [.int .i64 k,.int .i64 n,.string s,.slice none 0 0,.slice none 0 0] (.mk k n s [] []) :=
 REx.iff.2 ⟨_,_,rfl,h,SliceOf.nil 5,SliceOf.nil 7⟩
theorem REx.node {V:Fz} {k:Int} {s:Bs} {v:Value} {l:List Ex} (h:SliceOf REx V 5 v l):REx V [.int .i64 k,.int .i64 0,.string s,v,.slice none 0 0] (.mk k 0 s l []) :=
 REx.iff.2 ⟨_,_,rfl,q1k,h,SliceOf.nil 7⟩
theorem REx.full {V:Fz} {k:Int} {s:Bs} {v u:Value} {l:List Ex} {m:List Arm} (h:SliceOf REx V 5 v l) (a:SliceOf RArm V 7 u m):REx V [.int .i64 k,.int .i64 0,.string s,v,u] (.mk k 0 s l m) :=
 REx.iff.2 ⟨_,_,rfl,q1k,h,a⟩
theorem Chunks.one {α:Type} {R:List Value->α->Prop} {k:Nat} {a:List Value} {x:α} (la:a.length=k) (b:R a x):Chunks R k a [x]:=⟨a,[],by simp,la,b,rfl⟩
theorem Chunks.two {α:Type} {R:List Value->α->Prop} {k:Nat} {a b:List Value} {x y:α} (la:a.length=k) (c:R a x) (lb:b.length=k) (hb:R b y):Chunks R k (a++b) [x,y]:=⟨a,b,rfl,la,c,Chunks.one lb hb⟩
section
variable {P:Program} {n:Nat} {E:List (Nat×Value)} {D:List Deferred} {a:Act} {V:Fz} {K:List Res} {w:World} {ty:TypeId}
theorem y7u (i m:Nat) {x:Operand} {t e T:TypeId} {k:Nat} {v:Value} {cs:List Value} (J:EnvR n E D a) (O:Sees V K w) (g:ev E x=some v) (d:qS K i=some (.gs v T k cs)) (hl:cs.length=m * k) (b:0 < k) (f:Under P t (.slice e)) :
  Ok P a (.call { callee:=.builtin .len,args:=#[x],argTypes:=#[t] }) ty w (.int .i64 ((m:Nat):Int)):=by
 obtain ⟨p,m',c,rfl,h1,_⟩:=O.gsForm d
 have:m'=m:=Nat.eq_of_mul_eq_mul_right b (h1.symm.trans hl)
 subst this
 exact y1p J g f
end
section
variable {ws:List Bs} {i d:Nat}
theorem q1b:zW ws 0 i=.error (i+1):=rfl
theorem expr_no (h:zD ws i=⟨#[]⟩):zW ws (d+1) i=.error (i+1):=by rw [zW,if_pos (show zD ws i=sNo from h)]
theorem x5l {n:Int} (h:¬zD ws i=⟨#[]⟩) (a:z0e (zD ws i)=some n):zW ws (d+1) i=.ok (.mk 1 n sNo [] [],i+1):=by
 rw [zW,if_neg (show ¬zD ws i=sNo from h),a]
theorem expr_fe {c:Nat} (h:¬zD ws i=⟨#[]⟩) (b:z0e (zD ws i)=none) (e:zD ws i=⟨#[40]⟩) (a:qD ws (zW ws d) (i+1)=.error c):zW ws (d+1) i=.error c:=by
 rw [zW,if_neg (show ¬zD ws i=sNo from h),b];show (if zD ws i=oR then _ else _)=_;rw [if_pos (show zD ws i=oR from e),zQ a]
theorem expr_fc {c:Nat} {x:Ex×Nat} (h:¬zD ws i=⟨#[]⟩) (e:z0e (zD ws i)=none) (f:zD ws i=⟨#[40]⟩) (b:qD ws (zW ws d) (i+1)=.ok x) (a:pJ ws ⟨#[41]⟩ x.2=.error c):zW ws (d+1) i=.error c:=by
 rw [zW,if_neg (show ¬zD ws i=sNo from h),e];show (if zD ws i=oR then _ else _)=_;rw [if_pos (show zD ws i=oR from f),zC b];exact zQ a
theorem x1f {x:Ex×Nat} {y:Unit×Nat} (h:¬zD ws i=⟨#[]⟩) (c:z0e (zD ws i)=none) (e:zD ws i=⟨#[40]⟩) (b:qD ws (zW ws d) (i+1)=.ok x) (a:pJ ws ⟨#[41]⟩ x.2=.ok y):zW ws (d+1) i=.ok (x.1,y.2):=by
 rw [zW,if_neg (show ¬zD ws i=sNo from h),c];show (if zD ws i=oR then _ else _)=_;rw [if_pos (show zD ws i=oR from e),zC b];exact zC a
theorem x5k {x:Bs×Nat} (h:¬zD ws i=⟨#[]⟩) (b:z0e (zD ws i)=none) (c:¬zD ws i=⟨#[40]⟩) (a:qL (zD ws i)=true) (e:z0t ws i=.ok x):zW ws (d+1) i=.ok (.mk 4 0 x.1 [] [],x.2):=by
 have hx':=(y6x h a).symm.trans e
 simp only [Except.ok.injEq] at hx';subst hx'
 rw [zW,if_neg (show ¬zD ws i=sNo from h),b];show (if zD ws i=oR then _ else _)=_;rw [if_neg (show ¬zD ws i=oR from c),if_pos a]
theorem x1e {c:Nat} {Q:Prop} (h:¬zD ws i=⟨#[]⟩) (a:qL (zD ws i)=true) (b:z0t ws i=.error c):Q:=by cases (y6x h a).symm.trans b
theorem j3t (h:¬zD ws i=⟨#[]⟩) (c:z0e (zD ws i)=none) (e:¬zD ws i=⟨#[40]⟩) (a:qL (zD ws i)=false) (hb:zH (zD ws i) 0=33) (b:qO ((zD ws i).extract 1 (zD ws i).size)=true) :
  zW ws (d+1) i=.ok (.mk 3 0 ((zD ws i).extract 1 (zD ws i).size) [] [],i+1):=by
 rw [zW,if_neg (show ¬zD ws i=sNo from h),c];show (if zD ws i=oR then _ else _)=_;rw [if_neg (show ¬zD ws i=oR from e),if_neg (by rw [a];decide),if_pos ⟨hb,b⟩]
theorem z3w (h:¬zD ws i=⟨#[]⟩) (b:z0e (zD ws i)=none) (c:¬zD ws i=⟨#[40]⟩) (a:qL (zD ws i)=false) (hb:¬(zH (zD ws i) 0=33/\qO ((zD ws i).extract 1 (zD ws i).size)=true)) :
  zW ws (d+1) i=qA (cV ws i) fun x j=>.ok (.mk 2 0 x [] [],j):=by
 rw [zW,if_neg (show ¬zD ws i=sNo from h),b];show (if zD ws i=oR then _ else _)=_;rw [if_neg (show ¬zD ws i=oR from c),if_neg (by rw [a];decide),if_neg hb]
theorem x9g {s:Bs} (h:¬s=⟨#[]⟩):0 < s.size:=by
 refine Nat.pos_of_ne_zero fun e=>h ?_
 apply ByteArray.ext
 exact Array.eq_empty_of_size_eq_zero e
variable {ex:Nat->Rd Ex} {f least:Nat}
theorem x7m (h:¬0 < least) (b:zD ws i=⟨#[41]⟩):pC ws ex (f+1) least i=.ok ([],i):=by
 rw [pC,if_neg];rintro (a | a);exact h a;exact a b
theorem j8m (h:0 < least∨¬zD ws i=⟨#[41]⟩):pC ws ex (f+1) least i=qA (ex i) fun e i=>qA (pC ws ex f (least - 1) i) fun l i=>.ok (e::l,i):=by
 rw [pC,if_pos];exact h.imp_right fun h=>h
end
def wP {α:Type} (xs:List α) (r:Rd (List α)):Rd (List α):=qA r fun l k=>.ok (xs++l,k)
theorem sO {α:Type} (r:Rd (List α)):r=wP [] r:=by
 unfold wP;cases r with
 | ok x=>rfl
 | error c=>rfl
theorem pre1_ok {α:Type} (xs:List α) (l:List α) (k:Nat):wP xs (.ok (l,k))=.ok (xs++l,k):=rfl
theorem oZ {α:Type} (xs:List α) (x:α) (r:Rd (List α)):wP xs (qA r fun l k=>.ok (x::l,k))=wP (xs++[x]) r:=by
 unfold wP;cases r with
 | ok y=>simp [qA]
 | error c=>rfl
section
variable {ws:List Bs} {ex:Nat->Rd Ex} {f m j:Nat} {r:Rd (List Ex)} {xs:List Ex}
theorem x7n (b:r=wP xs (pC ws ex f (m - xs.length) j)) (c:0 < f) (h:¬xs.length < m) (a:zD ws j=⟨#[41]⟩):r=.ok (xs,j):=by
 obtain ⟨f,rfl⟩:∃k,f=k+1:=⟨f - 1,by omega⟩
 rw [b,x7m (by omega) a,pre1_ok,List.append_nil]
theorem q1x {c:Nat} (a:r=wP xs (pC ws ex f (m - xs.length) j)) (b:0 < f) (h:xs.length < m∨¬zD ws j=⟨#[41]⟩) (J:ex j=.error c):r=.error c:=by
 obtain ⟨f,rfl⟩:∃k,f=k+1:=⟨f - 1,by omega⟩
 rw [a,j8m (h.imp_left fun h=>by omega),zQ J];rfl
theorem q1y {x:Ex×Nat} (a:r=wP xs (pC ws ex f (m - xs.length) j)) (b:0 < f) (h:xs.length < m∨¬zD ws j=⟨#[41]⟩) (J:ex j=.ok x) :
  r=wP (xs++[x.1]) (pC ws ex (f - 1) (m - (xs++[x.1]).length) x.2):=by
 obtain ⟨f,rfl⟩:∃k,f=k+1:=⟨f - 1,by omega⟩
 rw [a,j8m (h.imp_left fun h=>by omega),zC J,oZ,Nat.add_sub_cancel,laQ,Nat.sub_sub];rfl
end
section
variable {ws:List Bs} {ex:Nat->Rd Ex} {f j:Nat} {r:Rd (List Arm)} {xs:List Arm}
theorem x4m (c:r=wP xs (sC ws ex f (decide (xs.length=0)) j)) (d:0 < f) (h:¬xs.length=0) (b:¬zD ws j=⟨#[40]⟩):r=.ok (xs,j):=by
 obtain ⟨f,rfl⟩:∃k,f=k+1:=⟨f - 1,by omega⟩
 rw [c,sC,if_neg (by rintro (a | a);exact h (of_decide_eq_true a);exact b a)];simp [wP,qA]
theorem kU {c:Nat} (a:r=wP xs (sC ws ex f (decide (xs.length=0)) j)) (b:0 < f) (h:xs.length=0∨zD ws j=⟨#[40]⟩) (J:armP ws ex j=.error c):r=.error c:=by
 obtain ⟨f,rfl⟩:∃k,f=k+1:=⟨f - 1,by omega⟩
 rw [a,sC,if_pos (show decide (xs.length=0)=true∨zD ws j=oR from h.imp_left fun h=>decide_eq_true h),zQ J];rfl
theorem q0b {x:Arm×Nat} (a:r=wP xs (sC ws ex f (decide (xs.length=0)) j)) (b:0 < f) (h:xs.length=0∨zD ws j=⟨#[40]⟩) (J:armP ws ex j=.ok x):r=wP (xs++[x.1]) (sC ws ex (f - 1) (decide ((xs++[x.1]).length=0)) x.2):=by
 obtain ⟨f,rfl⟩:∃k,f=k+1:=⟨f - 1,by omega⟩
 rw [a,sC,if_pos (show decide (xs.length=0)=true∨zD ws j=oR from h.imp_left fun h=>decide_eq_true h),zC J,oZ,Nat.add_sub_cancel];simp
end
section
variable {ws:List Bs} {f j:Nat} {r:Rd (List Bs)} {xs:List Bs}
theorem j2b (b:r=wP xs (oA ws f j)) (c:0 < f) (h:zD ws j=⟨#[45,62]⟩):r=.ok (xs,j):=by
 obtain ⟨f,rfl⟩:∃k,f=k+1:=⟨f - 1,by omega⟩
 rw [b,oA,if_neg (fun a=>a h)];simp [wP,qA]
theorem q2w {c:Nat} (a:r=wP xs (oA ws f j)) (b:0 < f) (h:¬zD ws j=⟨#[45,62]⟩) (J:cV ws j=.error c):r=.error c:=by
 obtain ⟨f,rfl⟩:∃k,f=k+1:=⟨f - 1,by omega⟩
 rw [a,oA,if_pos (show zD ws j≠y6k from h),zQ J];rfl
theorem q2x {x:Bs×Nat} (a:r=wP xs (oA ws f j)) (b:0 < f) (h:¬zD ws j=⟨#[45,62]⟩) (J:cV ws j=.ok x):r=wP (xs++[x.1]) (oA ws (f - 1) x.2):=by
 obtain ⟨f,rfl⟩:∃k,f=k+1:=⟨f - 1,by omega⟩
 rw [a,oA,if_pos (show zD ws j≠y6k from h),zC J,oZ,Nat.add_sub_cancel]
end
section
variable {ws:List Bs} {f j:Nat} {r:Rd (List Bs)} {xs:List Bs}
theorem j3u (a:r=wP xs (kX ws f j)) (b:0 < f) (h:qL (zD ws j)=false):r=.ok (xs,j):=by
 obtain ⟨f,rfl⟩:∃k,f=k+1:=⟨f - 1,by omega⟩
 rw [a,kX,if_neg (by rw [h];decide)];simp [wP,qA]
theorem q9d {c:Nat} (a:r=wP xs (kX ws f j)) (b:0 < f) (h:qL (zD ws j)=true) (J:z0t ws j=.error c):r=.error c:=by
 obtain ⟨f,rfl⟩:∃k,f=k+1:=⟨f - 1,by omega⟩
 rw [a,kX,if_pos h,zQ J];rfl
theorem q9e {x:Bs×Nat} (a:r=wP xs (kX ws f j)) (b:0 < f) (h:qL (zD ws j)=true) (J:z0t ws j=.ok x):r=wP (xs++[x.1]) (kX ws (f - 1) x.2):=by
 obtain ⟨f,rfl⟩:∃k,f=k+1:=⟨f - 1,by omega⟩
 rw [a,kX,if_pos h,zC J,oZ,Nat.add_sub_cancel]
end
section
variable {ws:List Bs} {ex:Nat->Rd Ex} {i:Nat}
theorem j7t (h:z1j (zD ws i)=true):qD ws ex i=qA (z7t ex (i+1)) fun l j=>.ok (.mk 8 0 (zD ws i) l [],j):=by rw [qD,if_pos h]
theorem y4i (h:z1j (zD ws i)=false) (a:zD ws i=⟨#[108,101,116]⟩):qD ws ex i=qA (cV ws (i+1)) fun x j=>qA (z7t ex j) fun l j=>.ok (.mk 6 0 x l [],j):=by
 rw [qD,if_neg (by rw [h];decide)];exact if_pos a
theorem vT (h:z1j (zD ws i)=false) (b:¬zD ws i=⟨#[108,101,116]⟩) (c:zD ws i=⟨#[99,97,115,101]⟩) :
  qD ws ex i=qA (ex (i+1)) fun a j=>qA (sC ws ex (ws.length+1) true j) fun l j=>.ok (.mk 7 0 sNo [a] l,j):=by
 rw [qD,if_neg (by rw [h];decide)];exact (if_neg b).trans (if_pos c)
theorem q9h (h:z1j (zD ws i)=false) (a:¬zD ws i=⟨#[108,101,116]⟩) (b:¬zD ws i=⟨#[99,97,115,101]⟩) (c:qL (zD ws i)=true) :
  qD ws ex i=qA (pC ws ex (ws.length+1) 1 (i+1)) fun l j=>.ok (.mk 4 0 (zD ws i) l [],j):=by
 rw [qD,if_neg (by rw [h];decide)];exact (if_neg a).trans ((if_neg b).trans (if_pos c))
theorem z9a (h:z1j (zD ws i)=false) (a:¬zD ws i=⟨#[108,101,116]⟩) (b:¬zD ws i=⟨#[99,97,115,101]⟩) (c:qL (zD ws i)=false) :
  qD ws ex i=qA (cV ws i) fun x j=>qA (pC ws ex (ws.length+1) 0 j) fun l j=>.ok (.mk 5 0 x l [],j):=by
 rw [qD,if_neg (by rw [h];decide)];exact (if_neg a).trans ((if_neg b).trans (if_neg (by rw [c];decide)))
theorem isOp_no {s:Bs} (h1:¬s=⟨#[43]⟩) (a:¬s=⟨#[45]⟩) (b:¬s=⟨#[42]⟩) (c:¬s=⟨#[47]⟩) (d:¬s=⟨#[37]⟩) (e:¬s=⟨#[60]⟩) (f:¬s=⟨#[61]⟩):z1j s=false:=by
 simp [z1j,h1,a,b,c,d,e,f]
theorem sK {s:Bs} (h:s=⟨#[43]⟩∨s=⟨#[45]⟩∨s=⟨#[42]⟩∨s=⟨#[47]⟩∨s=⟨#[37]⟩∨s=⟨#[60]⟩∨s=⟨#[61]⟩):z1j s=true:=by
 rcases h with h | h | h | h | h | h | h <;> subst h <;> rfl
end
theorem RArm.of {V:Fz} {c:Bs} {v:Value} {b:List Value} {vs:List Bs} {e:Ex} (h:SliceOf RStr V 1 v vs) (hb:REx V b e):RArm V (.string c::v::b) (.mk c vs e):=RArm.iff.2 ⟨_,_,rfl,h,hb⟩
theorem z0p {ws:List Bs} {i:Nat} {s:Bs} (h:zD ws i=s) (O:s≠⟨#[]⟩):i < ws.length:=mP fun e=>O (h.symm.trans e)
theorem isOp_lt {ws:List Bs} {i:Nat} (h:z1j (zD ws i)=true):i < ws.length:=mP fun e=>by rw [e] at h;revert h;decide
theorem x7i {ws:List Bs} {i:Nat} (h:qL (zD ws i)=true):i < ws.length:=mP fun e=>by rw [e] at h;revert h;decide
theorem two_le {ws:List Bs} {d i:Nat} {x:List Ex×Nat} (h:z7t (zW ws d) i=.ok x):i < x.2/\x.2<=ws.length:=y7e (kF d) i x h
theorem j8l {ws:List Bs} {d i f m:Nat} {x:List Ex×Nat} (a:i<=ws.length) (h:pC ws (zW ws d) f m i=.ok x):i<=x.2/\x.2<=ws.length:=z0i (kF d) f m i x a h
theorem form_le {ws:List Bs} {d i:Nat} {x:Ex×Nat} (h:qD ws (zW ws d) i=.ok x):i < x.2/\x.2<=ws.length:=q1d (kF d) i x h
section
variable {ws:List Bs} {f j:Nat} {xs:List Con} {r:Rd (List Con)} {n:Bs×Nat} {l:List Bs} {k c:Nat}
theorem j3i (a:r=wP xs (sD ws f j)) (b:0 < f) (J:z0t ws j=.error c):r=.error c:=by
 obtain ⟨f,rfl⟩:∃k,f=k+1:=⟨f - 1,by omega⟩
 rw [a,sD,zQ J];rfl
theorem j3j (a:r=wP xs (sD ws f j)) (b:0 < f) (h1:z0t ws j=.ok n) (J:kX ws (ws.length+1) n.2=.error c):r=.error c:=by
 obtain ⟨f,rfl⟩:∃k,f=k+1:=⟨f - 1,by omega⟩
 rw [a,sD,zC h1,zQ J];rfl
theorem x5b (b:r=wP xs (sD ws f j)) (c:0 < f) (h1:z0t ws j=.ok n) (a:kX ws (ws.length+1) n.2=.ok (l,k)) (hb:¬zD ws k=⟨#[124]⟩):r=.ok (xs++[⟨n.1,l⟩],k):=by
 obtain ⟨f,rfl⟩:∃k,f=k+1:=⟨f - 1,by omega⟩
 rw [b,sD,zC h1,zC a,if_pos (show zD ws k≠sBar from hb)];rfl
theorem x0k (b:r=wP xs (sD ws f j)) (c:0 < f) (h1:z0t ws j=.ok n) (a:kX ws (ws.length+1) n.2=.ok (l,k)) (hb:zD ws k=⟨#[124]⟩):r=wP (xs++[⟨n.1,l⟩]) (sD ws (f - 1) (k+1)):=by
 obtain ⟨f,rfl⟩:∃k,f=k+1:=⟨f - 1,by omega⟩
 rw [b,sD,zC h1,zC a,if_neg (show ¬zD ws k≠sBar from fun h=>h hb),oZ,Nat.add_sub_cancel]
end
section
variable {ws:List Bs} {f j:Nat} {xs:List Param} {r:Rd (List Param)} {p:Param×Nat} {y:Unit×Nat} {c:Nat}
theorem j5d (a:r=wP xs (wV ws f j)) (b:0 < f) (h:¬zD ws j=⟨#[40]⟩):r=.ok (xs,j):=by
 obtain ⟨f,rfl⟩:∃k,f=k+1:=⟨f - 1,by omega⟩
 rw [a,wV,if_neg (show ¬zD ws j=oR from h)];simp [wP,qA]
theorem q6i (a:r=wP xs (wV ws f j)) (b:0 < f) (h:zD ws j=⟨#[40]⟩) (J:pO ws (j+1)=.error c):r=.error c:=by
 obtain ⟨f,rfl⟩:∃k,f=k+1:=⟨f - 1,by omega⟩
 rw [a,wV,if_pos (show zD ws j=oR from h),zQ J];rfl
theorem q6j (a:r=wP xs (wV ws f j)) (b:0 < f) (h:zD ws j=⟨#[40]⟩) (h1:pO ws (j+1)=.ok p) (J:pJ ws ⟨#[41]⟩ p.2=.error c):r=.error c:=by
 obtain ⟨f,rfl⟩:∃k,f=k+1:=⟨f - 1,by omega⟩
 rw [a,wV,if_pos (show zD ws j=oR from h),zC h1,zQ (show pJ ws sCls p.2=_ from J)];rfl
theorem j0t (b:r=wP xs (wV ws f j)) (c:0 < f) (h:zD ws j=⟨#[40]⟩) (h1:pO ws (j+1)=.ok p) (a:pJ ws ⟨#[41]⟩ p.2=.ok y):r=wP (xs++[p.1]) (wV ws (f - 1) y.2):=by
 obtain ⟨f,rfl⟩:∃k,f=k+1:=⟨f - 1,by omega⟩
 rw [b,wV,if_pos (show zD ws j=oR from h),zC h1,zC (show pJ ws sCls p.2=_ from a),oZ,Nat.add_sub_cancel]
end
theorem j0s {ws:List Bs} {i:Nat} {x:Param×Nat} (h:pO ws i=.ok x):i < x.2/\x.2<=ws.length:=j5b i x h
theorem data_le {ws:List Bs} {i:Nat} {x:Data×Nat} (h:gK ws i=.ok x):i < x.2/\x.2<=ws.length:=x0o i x h
theorem fun_le {ws:List Bs} {i:Nat} {x:Fun×Nat} (h:sG ws i=.ok x):i < x.2/\x.2<=ws.length:=x6t i x h
def seqR:Code->Code
 | .seq _ y=>y
 | c=>c
section
variable {ws:List Bs} {f j n:Nat} {c:Core}
theorem x0r (h:¬j < ws.length) (a:0 < f):jK ws f c j=.ok c:=by
 obtain ⟨f,rfl⟩:∃k,f=k+1:=⟨f - 1,by omega⟩
 rw [jK,if_neg h]
theorem j3k {x:Data×Nat} (h:j < ws.length) (d:0 < f) (a:zD ws j=⟨#[100,97,116,97]⟩) (b:gK ws (j+1)=.ok x):jK ws f c j=jK ws (f - 1) { c with datas:=c.datas++[x.1] } x.2:=by
 obtain ⟨f,rfl⟩:∃k,f=k+1:=⟨f - 1,by omega⟩
 rw [jK,if_pos h,if_pos (show zD ws j=z4o from a),b];rfl
theorem q8v (h:j < ws.length) (d:0 < f) (a:zD ws j=⟨#[100,97,116,97]⟩) (b:gK ws (j+1)=.error n):jK ws f c j=.error n:=by
 obtain ⟨f,rfl⟩:∃k,f=k+1:=⟨f - 1,by omega⟩
 rw [jK,if_pos h,if_pos (show zD ws j=z4o from a),b]
theorem q8w {x:Param×Nat} (h:j < ws.length) (d:0 < f) (h1:¬zD ws j=⟨#[100,97,116,97]⟩) (a:zD ws j=⟨#[105,110,112,117,116]⟩) (b:pO ws (j+1)=.ok x):jK ws f c j=jK ws (f - 1) { c with inputs:=c.inputs++[x.1] } x.2:=by
 obtain ⟨f,rfl⟩:∃k,f=k+1:=⟨f - 1,by omega⟩
 rw [jK,if_pos h,if_neg (show ¬zD ws j=z4o from h1),if_pos (show zD ws j=z2g from a),b];rfl
theorem q5c (h:j < ws.length) (d:0 < f) (h1:¬zD ws j=⟨#[100,97,116,97]⟩) (a:zD ws j=⟨#[105,110,112,117,116]⟩) (b:pO ws (j+1)=.error n):jK ws f c j=.error n:=by
 obtain ⟨f,rfl⟩:∃k,f=k+1:=⟨f - 1,by omega⟩
 rw [jK,if_pos h,if_neg (show ¬zD ws j=z4o from h1),if_pos (show zD ws j=z2g from a),b]
theorem x0s {x:Fun×Nat} (h:j < ws.length) (e:0 < f) (h1:¬zD ws j=⟨#[100,97,116,97]⟩) (a:¬zD ws j=⟨#[105,110,112,117,116]⟩) (b:zD ws j=⟨#[102,117,110]⟩) (d:sG ws (j+1)=.ok x):jK ws f c j=jK ws (f - 1) { c with funs:=c.funs++[x.1] } x.2:=by
 obtain ⟨f,rfl⟩:∃k,f=k+1:=⟨f - 1,by omega⟩
 rw [jK,if_pos h,if_neg (show ¬zD ws j=z4o from h1),if_neg (show ¬zD ws j=z2g from a),if_pos (show zD ws j=kFun from b),d];rfl
theorem j3l (h:j < ws.length) (e:0 < f) (h1:¬zD ws j=⟨#[100,97,116,97]⟩) (a:¬zD ws j=⟨#[105,110,112,117,116]⟩) (b:zD ws j=⟨#[102,117,110]⟩) (d:sG ws (j+1)=.error n):jK ws f c j=.error n:=by
 obtain ⟨f,rfl⟩:∃k,f=k+1:=⟨f - 1,by omega⟩
 rw [jK,if_pos h,if_neg (show ¬zD ws j=z4o from h1),if_neg (show ¬zD ws j=z2g from a),if_pos (show zD ws j=kFun from b),d]
theorem x0t {x:Bs×Nat} (h:j < ws.length) (g:0 < f) (h1:¬zD ws j=⟨#[100,97,116,97]⟩) (a:¬zD ws j=⟨#[105,110,112,117,116]⟩) (b:¬zD ws j=⟨#[102,117,110]⟩) (d:zD ws j=⟨#[111,117,116,112,117,116]⟩) (e:cV ws (j+1)=.ok x):jK ws f c j=jK ws (f - 1) { c with outputs:=c.outputs++[x.1] } x.2:=by
 obtain ⟨f,rfl⟩:∃k,f=k+1:=⟨f - 1,by omega⟩
 rw [jK,if_pos h,if_neg (show ¬zD ws j=z4o from h1),if_neg (show ¬zD ws j=z2g from a),if_neg (show ¬zD ws j=kFun from b),if_pos (show zD ws j=y2k from d),e];rfl
theorem j3m (h:j < ws.length) (g:0 < f) (h1:¬zD ws j=⟨#[100,97,116,97]⟩) (a:¬zD ws j=⟨#[105,110,112,117,116]⟩) (b:¬zD ws j=⟨#[102,117,110]⟩) (d:zD ws j=⟨#[111,117,116,112,117,116]⟩) (e:cV ws (j+1)=.error n):jK ws f c j=.error n:=by
 obtain ⟨f,rfl⟩:∃k,f=k+1:=⟨f - 1,by omega⟩
 rw [jK,if_pos h,if_neg (show ¬zD ws j=z4o from h1),if_neg (show ¬zD ws j=z2g from a),if_neg (show ¬zD ws j=kFun from b),if_pos (show zD ws j=y2k from d),e]
theorem x0q (h:j < ws.length) (e:0 < f) (h1:¬zD ws j=⟨#[100,97,116,97]⟩) (a:¬zD ws j=⟨#[105,110,112,117,116]⟩) (b:¬zD ws j=⟨#[102,117,110]⟩) (d:¬zD ws j=⟨#[111,117,116,112,117,116]⟩):jK ws f c j=.error (j+1):=by
 obtain ⟨f,rfl⟩:∃k,f=k+1:=⟨f - 1,by omega⟩
 rw [jK,if_pos h,if_neg (show ¬zD ws j=z4o from h1),if_neg (show ¬zD ws j=z2g from a),if_neg (show ¬zD ws j=kFun from b),if_neg (show ¬zD ws j=y2k from d)]
end
end Go.Sw
