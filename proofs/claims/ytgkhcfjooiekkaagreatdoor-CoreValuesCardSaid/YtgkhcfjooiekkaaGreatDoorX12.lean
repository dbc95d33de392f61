import Derived.Test.YtgkhcfjooiekkaaGreatDoorX11
set_option linter.unusedVariables false
set_option linter.unusedSimpArgs false
namespace Go.Sw
def pL (l:Tx):Bs:=⟨l.toArray⟩
theorem oY (a b:Tx):pL (a++b)=pL a++pL b:=by
 apply ByteArray.ext
 simp only [pL,ByteArray.data_append]
 apply Array.ext';simp
theorem q2j (s:Bs):pL (tx s)=s:=by
 apply ByteArray.ext;simp [pL,tx]
theorem tH (l:Tx):(pL l).size=l.length:=by
 show l.toArray.size=_;simp
theorem gQ (s:Bs):(tx s).length=s.size:=by
 simp only [tx,Array.length_toList];rfl
def wB (e:Ex):Bs:=pL (xV e)
def wsB (l:List Ex):Bs:=pL (writePs l)
theorem z6h {l:List Ex} {i:Nat} {x:Ex} (h:l[i]? = some x):writePs (l.drop i)=32::xV x++writePs (l.drop (i+1)):=by rw [zA h];rfl
theorem q8d {l:List Ex} {i:Nat} (h:¬i < l.length):writePs (l.drop i)=[]:=by rw [zE h];rfl
theorem q3d (a:Arm) (l:List Arm):writePa (a::l)=[32,40]++(tx a.con++(a.vars.map fun v=>32::tx v).flatten)++[32,45,62,32]++xV a.body++[41]++writePa l:=by
 cases a;rfl
section
variable {e:Ex}
theorem j8r (h:e.kind=1):xV e=z8w e.num:=by cases e;simp only [Ex.kind] at h;subst h;rfl
theorem j8s (h:e.kind=2):xV e=tx e.name:=by cases e;simp only [Ex.kind] at h;subst h;rfl
theorem j8p (h:e.kind=3):xV e=33::tx e.name:=by cases e;simp only [Ex.kind] at h;subst h;rfl
theorem j2i (h:e.kind=4) (a:e.args.length=0):xV e=tx e.name:=by
 cases e with
 | mk k n s args arms=>
  simp only [Ex.kind] at h;subst h
  have:args=[]:=List.eq_nil_of_length_eq_zero a
  subst this;rfl
theorem j8o (h:e.kind=4) (b:¬e.args.length=0):xV e=40::tx e.name++writePs e.args++[41]:=by
 cases e with
 | mk k n s args arms=>
  simp only [Ex.kind] at h;subst h
  cases args with
  | nil=>exact absurd rfl b
  | cons a l=>rfl
theorem j8q (h:e.kind=6):xV e=40::([108,101,116,32]++tx e.name)++writePs e.args++[41]:=by cases e;simp only [Ex.kind] at h;subst h;rfl
theorem j2h (h:e.kind=7):xV e=[40,99,97,115,101,32]++writeH e.args++writePa e.arms++[41]:=by cases e;simp only [Ex.kind] at h;subst h;rfl
theorem q8e (h1:¬e.kind=1) (a:¬e.kind=2) (b:¬e.kind=3) (c:¬e.kind=4) (d:¬e.kind=6) (f:¬e.kind=7):xV e=40::tx e.name++writePs e.args++[41]:=by
 cases e with
 | mk k n s args arms=>
  simp only [Ex.kind] at *
  simp only [xV,if_neg h1,if_neg a,if_neg b,if_neg c,if_neg d,if_neg f];rfl
end
theorem j3m:∀(x:Bs) (l:List Bs),tx (mB ⟨#[32]⟩ (x::l))=tx x++(l.map fun v=>32::tx v).flatten
 | x,l=>by
  have:∀(l:List Bs) (a:Bs),tx (l.foldl (fun a s=>a++⟨#[32]⟩++s) a)=tx a++(l.map fun v=>32::tx v).flatten:=by
   intro l
   induction l with
   | nil=>intro a;simp
   | cons y l b=>
    intro a
    rw [List.foldl_cons,b]
    simp [tx,ByteArray.data_append,List.append_assoc]
  exact this l x
theorem y8m:∀(f n:Nat),n < f->(z4s f n).reverse=Lib.decDigits n
 | 0,_,h=>by omega
 | f+1,n,h=>by
  rw [Lib.decDigits]
  simp only [z4s]
  by_cases a:n < 10
  ·rw [if_pos a,dif_pos a];rfl
  ·rw [if_neg a,dif_neg a,List.reverse_cons,y8m f (n / 10) (by omega)];try rfl
theorem itoa_eq (n:Int):Lib.itoa n=z8w n:=by
 have h:∀u,q4j u=Lib.decDigits u:=fun u=>y8m (u+1) u (Nat.lt_succ_self _)
 unfold Lib.itoa z8w
 split
 ·rw [h,show n.natAbs=(-n).toNat by omega]
 ·rw [h]
theorem x2j (n:Int):z0x n=pL (z8w n):=by unfold z0x pL;rw [itoa_eq]
theorem jR (e:Ex):(wB e).size=(xV e).length:=tH _
def kF (op:Bs) (l:List Ex):Bs:=pL (40::tx op++writePs l++[41])
theorem y5o (t op:Bs) (l:List Ex):(t++(⟨#[40]⟩++op))++pL (writePs l++[41])=t++kF op l:=by (apply ByteArray.ext;apply Array.ext';simp [kF,wB,wsB,pL,tx,ByteArray.data_append,List.append_assoc])
theorem w1_step {acc F:Bs} {l:List Ex} {i:Nat} {x:Ex} (a:l[i]? = some x) (h:acc++pL (writePs (l.drop i)++[41])=F):((acc++⟨#[32]⟩)++wB x)++pL (writePs (l.drop (i+1))++[41])=F:=by
 rw [<- h,z6h a];(apply ByteArray.ext;apply Array.ext';simp [kF,wB,wsB,pL,tx,ByteArray.data_append,List.append_assoc])
theorem w1_end {acc F:Bs} {l:List Ex} {i:Nat} (a:¬i < l.length) (h:acc++pL (writePs (l.drop i)++[41])=F):acc++⟨#[41]⟩=F:=by
 rw [<- h,q8d a];(apply ByteArray.ext;apply Array.ext';simp [kF,wB,wsB,pL,tx,ByteArray.data_append,List.append_assoc])
theorem wW {acc F:Bs} {l:Tx} (h:acc++pL l=F):acc.size+l.length=F.size:=by rw [<- h,zJ,tH]
mutual
def wfE:Ex->Bool
 | .mk k n s args arms=>(decide (k≠7) || decide (0 < args.length))&&wfEs args&&wfEa arms&&decide (s.size<=24)&&decide ((z8w n).length<=24)
def wfEs:List Ex->Bool
 | []=>true
 | e::es=>wfE e&&wfEs es
def wfEa:List Arm->Bool
 | []=>true
 | .mk c vs b::es=>wfE b&&wfEa es&&decide (c.size<=24)&&vs.all (fun v=>decide (v.size<=24))
end
theorem q7w:∀{l:List Ex},wfEs l=true->∀x∈l,wfE x=true
 | [],_,x,h=>by cases h
 | y::l,h,x,a=>by
  simp only [wfEs,baQ] at h
  rcases List.mem_cons.1 a with rfl | a
  ·exact h.1
  ·exact q7w h.2 x a
theorem q7v:∀{l:List Arm},wfEa l=true->∀a∈l,wfE a.body=true
 | [],_,x,h=>by cases h
 | .mk c v b::l,h,x,d=>by
  simp only [wfEa,baQ] at h
  rcases List.mem_cons.1 d with rfl | d
  ·exact h.1.1.1
  ·exact q7v h.1.1.2 x d
theorem z2t {e:Ex} (h:wfE e=true):(e.kind=7->0 < e.args.length)/\(∀x∈e.args,wfE x=true)/\∀a∈e.arms,wfE a.body=true:=by
 cases e with
 | mk k n s args arms=>
  simp only [wfE,baQ,Bool.or_eq_true,decide_eq_true_eq] at h
  exact ⟨fun b=>h.1.1.1.1.resolve_left (fun c=>c b),q7w h.1.1.1.2,q7v h.1.1.2⟩
theorem x2l (x:Bs) (l:List Bs):pS (x::l)+(⟨#[32]⟩:Bs).size * (x::l).length=(tx x++(l.map fun v=>32::tx v).flatten).length+1:=by
 have h1:(⟨#[32]⟩:Bs).size=1:=rfl
 rw [h1,nS,laQ,gQ,lcQ]
 have:∀l:List Bs,(l.map fun v=>32::tx v).flatten.length=pS l+l.length:=by
  intro l
  induction l with
  | nil=>rfl
  | cons y l a=>rw [List.map_cons,List.flatten_cons,laQ,a,nS,lcQ,lcQ,gQ];omega
 rw [this];omega
def armB (a:Arm):Bs:=((((⟨#[32,40]⟩:Bs)++mB ⟨#[32]⟩ (a.con::a.vars))++⟨#[32,45,62,32]⟩)++wB a.body)++⟨#[41]⟩
theorem j2r (a:Arm) (l:List Arm):armB a++pL (writePa l)=pL (writePa (a::l)):=by
 rw [q3d]
 have h:=j3m a.con a.vars
 have b:pL (tx a.con++(a.vars.map fun v=>32::tx v).flatten)=mB ⟨#[32]⟩ (a.con::a.vars):=by rw [<- h,q2j]
 simp only [oY,armB,wB]
 rw [<- oY (tx a.con),b]
 rfl
section
variable {e:Ex}
theorem wB_num (h:e.kind=1):z0x e.num=wB e:=by unfold wB;rw [j8r h,x2j]
theorem wB_var (h:e.kind=2):e.name=wB e:=by unfold wB;rw [j8s h,q2j]
theorem wB_inp (h:e.kind=3):(⟨#[33]⟩:Bs)++e.name=wB e:=by unfold wB;rw [j8p h];(apply ByteArray.ext;apply Array.ext';simp [kF,wB,wsB,pL,tx,ByteArray.data_append,List.append_assoc])
theorem j4q (h:e.kind=4) (a:e.args.length=0):e.name=wB e:=by unfold wB;rw [j2i h a,q2j]
theorem wB_con (h:e.kind=4) (a:¬e.args.length=0):kF e.name e.args=wB e:=by unfold wB kF;rw [j8o h a]
theorem wB_let (h:e.kind=6):kF ((⟨#[108,101,116,32]⟩:Bs)++e.name) e.args=wB e:=by unfold wB kF;rw [j8q h];(apply ByteArray.ext;apply Array.ext';simp [kF,wB,wsB,pL,tx,ByteArray.data_append,List.append_assoc])
theorem q7u (h1:¬e.kind=1) (a:¬e.kind=2) (b:¬e.kind=3) (c:¬e.kind=4) (d:¬e.kind=6) (f:¬e.kind=7):kF e.name e.args=wB e:=by
 unfold wB kF;rw [q8e h1 a b c d f]
theorem x4z {t:Bs} {a:Ex} (h:e.kind=7) (b:e.args[0]? = some a):((t++(⟨#[40,99,97,115,101,32]⟩:Bs))++wB a)++pL (writePa e.arms++[41])=t++wB e:=by
 have h1:writeH e.args=xV a:=by
  cases hl:e.args with
  | nil=>rw [hl] at b;simp at b
  | cons x l=>rw [hl] at b;simp only [List.getElem?_cons_zero,Option.some.injEq] at b;subst b;rfl
 have c:wB e=pL ([40,99,97,115,101,32]++xV a++writePa e.arms++[41]):=by unfold wB;rw [j2h h,h1]
 rw [c];(apply ByteArray.ext;apply Array.ext';simp [kF,wB,wsB,pL,tx,ByteArray.data_append,List.append_assoc])
end
theorem wc_step {acc F:Bs} {l:List Arm} {i:Nat} {x:Arm} (a:l[i]? = some x) (h:acc++pL (writePa (l.drop i)++[41])=F) :
  (((acc++(((⟨#[32,40]⟩:Bs)++mB (⟨#[32]⟩:Bs) (x.con::x.vars))++(⟨#[32,45,62,32]⟩:Bs)))++wB x.body)++⟨#[41]⟩)++pL (writePa (l.drop (i+1))++[41])=F:=by
 rw [<- h,zA a,oY (writePa (x::_)),<- j2r,oY]
 unfold armB;simp only [ByteArray.append_assoc]
theorem wc_end {acc F:Bs} {l:List Arm} {i:Nat} (a:¬i < l.length) (h:acc++pL (writePa (l.drop i)++[41])=F):acc++⟨#[41]⟩=F:=by
 rw [<- h,zE a];(apply ByteArray.ext;apply Array.ext';simp [kF,wB,wsB,pL,tx,ByteArray.data_append,List.append_assoc]);rfl
theorem tO {l:List Arm} {i:Nat} {x:Arm} (a:l[i]? = some x):(writePa (l.drop i)).length=(armB x).size+(writePa (l.drop (i+1))).length:=by
 have:=congrArg ByteArray.size (j2r x (l.drop (i+1)))
 rw [zA a]
 rw [zJ,tH,tH] at this
 exact this.symm
theorem aX (a:Arm):(armB a).size=2+(mB ⟨#[32]⟩ (a.con::a.vars)).size+4+(wB a.body).size+1:=by
 simp only [armB,zJ];rfl
theorem tW (x:Bs) (l:List Bs):pS (x::l)+(⟨#[32]⟩:Bs).size * (x::l).length=(mB ⟨#[32]⟩ (x::l)).size+1:=by
 rw [x2l,<- j3m,gQ]
theorem q9i (op:Bs) (l:List Ex):(kF op l).size=2+op.size+(writePs l).length:=by
 unfold kF;rw [tH];simp only [laQ,lcQ,lnQ,gQ];omega
theorem q7r:∀{vs:List Bs},(vs.all fun v=>decide (v.size<=24))=true->(vs.map fun v=>32::tx v).flatten.length<=25 * vs.length
 | [],_=>by simp
 | v::vs,h=>by
  simp only [List.all_cons,baQ,decide_eq_true_eq] at h
  have:=q7r h.2
  simp only [List.map_cons,List.flatten_cons,laQ,lcQ,gQ];omega
mutual
theorem z1v:∀(e:Ex) (l:Int),wfE e=true->(qS e l).1=false->((xV e).length:Int)<=500 * (l - (qS e l).2) - 440
 | .mk k n s args arms,l=>by
  intro a h
  simp only [wfE,baQ,decide_eq_true_eq] at a
  obtain ⟨⟨⟨⟨_,i⟩,hb⟩,O⟩,p⟩:=a
  simp only [qS] at h ⊢
  split at h
  ·cases h
  ·rename_i hl
   rw [if_neg hl]
   cases N:meass args (l - 1) with
   | mk b q=>
    rw [N] at h
    cases b with
    | true=>cases h
    | false=>
     have d:=writes_short args (l - 1) i (by rw [N])
     have g:=writea_short arms q hb h
     rw [N] at d
     simp only at d ⊢
     have m:(writeH args).length<=(writePs args).length:=by
      cases args with
      | nil=>simp [writeH,writePs]
      | cons x xs=>simp only [writeH,writePs,laQ,lcQ];omega
     have r:=gQ s
     have f:=meass_le args (l - 1) (by rw [N]) (by omega)
     rw [N] at f
     have t:=measa_le arms q h (by simp only at f;omega)
     simp only at f
     simp only [xV]
     split
     ·omega
     split
     ·omega
     split
     ·simp only [lcQ];omega
     split
     ·cases args with
      | nil=>simp only;omega
      | cons x xs=>simp only [laQ,lcQ,lnQ];omega
     split
     ·simp only [laQ,lcQ,lnQ];omega
     split
     ·simp only [laQ,lcQ,lnQ];omega
     ·simp only [laQ,lcQ,lnQ];omega
theorem writes_short:∀(es:List Ex) (l:Int),wfEs es=true->(meass es l).1=false->((writePs es).length:Int)<=500 * (l - (meass es l).2)
 | [],l=>by intro _ _;simp [writePs,meass]
 | e::es,l=>by
  intro a h
  simp only [wfEs,baQ] at a
  simp only [meass] at h ⊢
  cases N:qS e l with
  | mk b q=>
   rw [N] at h
   cases b with
   | true=>cases h
   | false=>
    have d:=z1v e l a.1 (by rw [N])
    have g:=writes_short es q a.2 h
    rw [N] at d
    simp only [writePs,laQ,lcQ] at d ⊢
    omega
theorem writea_short:∀(es:List Arm) (l:Int),wfEa es=true->(measa es l).1=false->((writePa es).length:Int)<=500 * (l - (measa es l).2)
 | [],l=>by intro _ _;simp [writePa,measa]
 | .mk c vs b::es,l=>by
  intro a h
  simp only [wfEa,baQ,decide_eq_true_eq] at a
  simp only [measa] at h ⊢
  split at h
  ·cases h
  ·rename_i j
   rw [if_neg j]
   cases N:qS b l with
   | mk o q=>
    rw [N] at h
    cases o with
    | true=>cases h
    | false=>
     have d:=z1v b l a.1.1.1 (by rw [N])
     have g:=writea_short es q a.1.1.2 h
     have m:=q7r a.2
     rw [N] at d
     simp only [writePa,laQ,lcQ,lnQ,gQ] at d ⊢
     omega
end
end Go.Sw

namespace Go.Sw
open Go.Proofs.Tryz
open Go.Proofs
set_option maxRecDepth 20000
set_option maxHeartbeats 4000000
theorem z8e {V:Fz} {K:List Res} {w:World} {b bb:Nat} {v va:Value} {bp:Option Addr} {t op:Bs} {l:List Ex} (ih:∀x:Ex,x∈l->∀{V:Fz} {K:List Res} {w:World} {d:List Value} {b:Nat} {v:Value} {bp:Option Addr} {t:Bs},REx V d x->(bp=none∨bp=some ⟨b,0,none⟩)->Tabs V->t.size+(xV x).length<=8796093022208->Mem V (.blk b (ob [.pointer bp,v] 130)::.gs v 5 1 (Lib.strCells t)::K) w->Calls prog 69 #[.pointer (some ⟨b,0,none⟩),.agg d.toArray] w (fun ee w'=>∃v2,ee=.returned (.tuple #[])/\True/\Mem V (.blk b (ob [.pointer (some ⟨b,0,none⟩),v2] 130)::.gs v2 5 1 (Lib.strCells (t++wB x))::K) w')) (rl:SliceOf REx V 5 va l) (Z:bp=none∨bp=some ⟨b,0,none⟩) (G:Tabs V) (hb:t.size+(kF op l).size<=8796093022208) (N:Mem V (.blk bb (ob [.pointer (some ⟨b,0,none⟩)] 127)::.blk b (ob [.pointer bp,v] 130)::.gs v 5 1 (Lib.strCells t)::K) w) :
  Calls prog 121 #[.string op,va,.pointer (some ⟨bb,0,none⟩)] w (fun ee w'=>∃v2,ee=.returned (.tuple #[])/\True/\Mem V (.blk bb (ob [.pointer (some ⟨b,0,none⟩)] 127)::.blk b (ob [.pointer (some ⟨b,0,none⟩),v2] 130)::.gs v2 5 1 (Lib.strCells (t++kF op l))::K) w'):=by
 obtain ⟨p1,c1,rfl,Y,p⟩:=rl.fm
 refine zM func121 ntmps121 fun Q X a J=>?_
 refine Qq J N (fun a J=>?_) (o:=by exact fun _ _ _ J O=>vW J rfl rfl (by have e:=wW (y5o t op l);rw [zJ,zJ] at e;have k:(⟨#[40]⟩:Bs).size=1:=rfl;have h:(t++kF op l).size=t.size+(kF op l).size:=zJ _ _;omega))
 replace N:=N.ar [] [2,2]
 refine qH call68 J N (fun y2 w W N a J=>?_) (c:=yJ (t:=t) (s:=((⟨#[40]⟩:Bs)++op)) Z (by have h:(t++kF op l).size=t.size+(kF op l).size:=zJ _ _;have e:=wW (y5o t op l);rw [zJ,zJ] at e;have k:(⟨#[40]⟩:Bs).size=1:=rfl;rw [zJ];omega) N)
 replace N:=N.nf
 refine go J N fun a J=>?_
 refine zV (J.ks [2,11,12]) N (fun R mm a w=>∃(i:Nat) (bv:Value) (acc:Bs),mm=l.length - i/\R V [(13,.int .i64 ((i:Nat):Int))] [(0,.blk b (ob [.pointer (some ⟨b,0,none⟩),bv] 130)),(1,.gs (bv) 5 1 (Lib.strCells acc))] a w/\(acc++pL (writePs (l.drop i)++[41])=t++kF op l)) (l.length - 0) ⟨0,y2,(t++((⟨#[40]⟩:Bs)++op)),rfl,⟨J.pk,N⟩,y5o t op l⟩ ?_
 clear N J
 rintro mm a w ⟨i,bv,acc,n,⟨J,N⟩,f⟩ L6 m
 replace N:=N.nf
 refine go J N fun a J=>?_
 by_cases z:i < l.length
 refine go J N fun a J=>?_
 obtain ⟨d0,rfl,q,g,y,F,D,j⟩:=rl.el p z
 obtain ⟨b0,c23,c0,S,rfl,E,T,U,H,L,I,M⟩:=REx.fm j
 refine Alc J N fun P w N a J=>?_
 refine Sto 0 J N fun w N a J=>?_
 replace N:=N.ar [] [2,2]
 refine qH call70 J N (fun f0 w A N a J=>?_) (c:=aN (t:=acc) (c:=32) (.inr rfl) (by have h:(t++kF op l).size=t.size+(kF op l).size:=zJ _ _;have e:=wW f;simp only [laQ,lcQ,lnQ] at e;omega) N)
 replace N:=N.nf
 replace N:=N.ar [] [1,1]
 refine qH call69 J N (fun r w B N a J=>?_) (c:=ih _ (mgQ g) (t:=(acc++⟨#[32]⟩)) j (.inr rfl) G (by have h:(t++kF op l).size=t.size+(kF op l).size:=zJ _ _;have e:=wW f;rw [z6h g] at e;simp only [laQ,lcQ,lnQ] at e;have k:(⟨#[32]⟩:Bs).size=1:=rfl;rw [zJ];omega) N)
 replace N:=N.nf
 refine go J N fun a J=>?_
 replace N:=N.dl [2]
 refine m _ _ _ (by subst n;omega) ⟨(i+1),(r),(((acc++⟨#[32]⟩)++wB q)),rfl,⟨J.pk,by exact N⟩,?_⟩
 exact w1_step g f
 replace N:=N.ar [] [1,1]
 refine qH call70 J N (fun u w C N a J=>?_) (c:=aN (t:=acc) (c:=41) (.inr rfl) (by have h:(t++kF op l).size=t.size+(kF op l).size:=zJ _ _;have e:=wW f;simp only [laQ,lcQ,lnQ] at e;omega) N)
 replace N:=N.nf
 refine go J N fun a J=>?_
 replace N:=N.ar [] [1,1,2]
 refine X _ _ _ (aU J results121 ?_)
 refine ⟨u,rfl,trivial,?_⟩
 rw [<- w1_end z f];exact N
theorem j2j {V:Fz} {K:List Res} {w:World} {d:List Value} {e:Ex} {b:Nat} {v:Value} {bp:Option Addr} {t:Bs} (ih:∀x:Ex,x.sz < e.sz->wfE x=true->∀{V:Fz} {K:List Res} {w:World} {d:List Value} {b:Nat} {v:Value} {bp:Option Addr} {t:Bs},REx V d x->(bp=none∨bp=some ⟨b,0,none⟩)->Tabs V->t.size+(xV x).length<=8796093022208->Mem V (.blk b (ob [.pointer bp,v] 130)::.gs v 5 1 (Lib.strCells t)::K) w->Calls prog 69 #[.pointer (some ⟨b,0,none⟩),.agg d.toArray] w (fun ee w'=>∃v2,ee=.returned (.tuple #[])/\True/\Mem V (.blk b (ob [.pointer (some ⟨b,0,none⟩),v2] 130)::.gs v2 5 1 (Lib.strCells (t++wB x))::K) w')) (u:wfE e=true) (re:REx V d e) (M:bp=none∨bp=some ⟨b,0,none⟩) (G:Tabs V) (hb:t.size+(xV e).length<=8796093022208) (N:Mem V (.blk b (ob [.pointer bp,v] 130)::.gs v 5 1 (Lib.strCells t)::K) w) :
  Calls prog 69 #[.pointer (some ⟨b,0,none⟩),.agg d.toArray] w (fun ee w'=>∃v2,ee=.returned (.tuple #[])/\True/\Mem V (.blk b (ob [.pointer (some ⟨b,0,none⟩),v2] 130)::.gs v2 5 1 (Lib.strCells (t++wB e))::K) w'):=by
 obtain ⟨p3,c4,p9,v1,rfl,Z0,h2,h8,D1,B0,d1,b0⟩:=REx.fm re
 refine zM func69 ntmps69 fun Q I a J=>?_
 refine Bx J N fun s1 w N a J=>?_
 refine Bx J N fun t1 w N a J=>?_
 refine go J N fun a J=>?_
 by_cases B:e.kind=1
 refine Reg [2,1,2,0,0] [0,1] J N fun w N a J=>?_
 have n:=congrArg ByteArray.size (wB_num B)
 have y:=jR e
 refine zS call122 J N (fun w N a J=>?_) (c:=q2b (by obtain ⟨_,_,_,h_,_⟩:=REx.iff.1 re;exact h_) G N)
 replace N:=N.ar [] [3,3]
 refine qH call68 J N (fun C0 w P0 N a J=>?_) (c:=yJ (t:=t) (s:=(z0x e.num)) M (by omega) N)
 replace N:=N.nf
 refine go J N fun a J=>?_
 replace N:=N.dl [3,2]
 refine I _ _ _ (aU J results69 ?_)
 refine ⟨C0,rfl,trivial,?_⟩
 rw [<- wB_num B];exact N
 refine go J N fun a J=>?_
 by_cases C:e.kind=2
 refine go J N fun a J=>?_
 have n:=congrArg ByteArray.size (wB_var C)
 have y:=jR e
 replace N:=N.ar [] [3,3]
 refine qH call68 J N (fun D0 w Q0 N a J=>?_) (c:=yJ (t:=t) (s:=e.name) M (by omega) N)
 replace N:=N.nf
 refine go J N fun a J=>?_
 replace N:=N.dl [3,2]
 refine I _ _ _ (aU J results69 ?_)
 refine ⟨D0,rfl,trivial,?_⟩
 rw [<- wB_var C];exact N
 refine go J N fun a J=>?_
 by_cases D:e.kind=3
 refine go J N fun a J=>?_
 have n:=congrArg ByteArray.size (wB_inp D)
 have y:=jR e
 refine Qq J N (fun a J=>?_) (o:=by exact fun _ _ _ J O=>vW J rfl rfl (by rw [zJ] at n;omega))
 replace N:=N.ar [] [3,3]
 refine qH call68 J N (fun E0 w R0 N a J=>?_) (c:=yJ (t:=t) (s:=((⟨#[33]⟩:Bs)++e.name)) M (by omega) N)
 replace N:=N.nf
 refine go J N fun a J=>?_
 replace N:=N.dl [3,2]
 refine I _ _ _ (aU J results69 ?_)
 refine ⟨E0,rfl,trivial,?_⟩
 rw [<- wB_inp D];exact N
 refine go J N fun a J=>?_
 by_cases p:e.kind=4
 refine go J N fun a J=>?_
 by_cases E:e.args.length=0
 refine go J N fun a J=>?_
 have n:=congrArg ByteArray.size (j4q p E)
 have y:=jR e
 replace N:=N.ar [] [3,3]
 refine qH call68 J N (fun F0 w S0 N a J=>?_) (c:=yJ (t:=t) (s:=e.name) M (by omega) N)
 replace N:=N.nf
 refine go J N fun a J=>?_
 replace N:=N.dl [3,2]
 refine I _ _ _ (ret0 J results69 ?_)
 refine ⟨F0,rfl,trivial,?_⟩
 rw [<- j4q p E];exact N
 refine go J N fun a J=>?_
 have n:=congrArg ByteArray.size (wB_con p E)
 have y:=jR e
 refine go J N fun a J=>?_
 replace N:=N.ar [] [3,3,3]
 refine st J rfl rfl rfl (hY J rfl rfl call121 (z8e (t:=t) (op:=e.name) (fun x T _ _ _ _ _ _ _ _ r1 r2 r3 r4 r5=>ih x (Ex.lt_args T) ((z2t u).2.1 x T) r1 r2 r3 r4 r5) h2 M G (by omega) N) (fun G0 w T0 N a J=>?_))
 replace N:=N.nf
 refine go J N fun a J=>?_
 replace N:=N.dl [3,0]
 refine I _ _ _ (aU J results69 ?_)
 refine ⟨G0,rfl,trivial,?_⟩
 rw [<- wB_con p E];exact N
 refine go J N fun a J=>?_
 by_cases F:e.kind=6
 refine go J N fun a J=>?_
 have n:=congrArg ByteArray.size (wB_let F)
 have y:=jR e
 refine Qq J N (fun a J=>?_) (o:=by exact fun _ _ _ J O=>vW J rfl rfl (by rw [q9i,zJ] at n;omega))
 refine go J N fun a J=>?_
 replace N:=N.ar [] [3,3,3]
 refine st J rfl rfl rfl (hY J rfl rfl call121 (z8e (t:=t) (op:=((⟨#[108,101,116,32]⟩:Bs)++e.name)) (fun x T _ _ _ _ _ _ _ _ r1 r2 r3 r4 r5=>ih x (Ex.lt_args T) ((z2t u).2.1 x T) r1 r2 r3 r4 r5) h2 M G (by omega) N) (fun H0 w U0 N a J=>?_))
 replace N:=N.nf
 refine go J N fun a J=>?_
 replace N:=N.dl [3,0]
 refine I _ _ _ (aU J results69 ?_)
 refine ⟨H0,rfl,trivial,?_⟩
 rw [<- wB_let F];exact N
 refine go J N fun a J=>?_
 by_cases H:e.kind=7
 refine go J N fun a J=>?_
 have P:0 < e.args.length:=(z2t u).1 H
 obtain ⟨o0,L⟩:=qX P
 have z:=x4z (t:=t) H L
 replace N:=N.ar [] [3,3]
 refine qH call68 J N (fun L1 w V0 N a J=>?_) (c:=yJ (t:=t) (s:=(⟨#[40,99,97,115,101,32]⟩:Bs)) M (by have g:=wW z;rw [zJ,zJ,zJ t (wB e),jR e] at g;omega) N)
 replace N:=N.nf
 refine Reg [2,1,2,1,2,0] [2,3] J N fun w N a J=>?_
 refine go J N fun a J=>?_
 obtain ⟨I1,rfl,j0,A,M0,b1,X0,S⟩:=h2.el B0 P
 obtain ⟨E1,w1,F1,x1,rfl,a1,z1,A1,e1,i1,f1,j1⟩:=REx.fm S
 refine go J N fun a J=>?_
 obtain rfl:j0=o0:=Option.some.inj (A.symm.trans L)
 replace N:=N.ar [] [1,1]
 refine qH call69 J N (fun I0 w W0 N a J=>?_) (c:=ih _ (Ex.lt_args (mgQ A)) ((z2t u).2.1 _ (mgQ A)) (t:=(t++(⟨#[40,99,97,115,101,32]⟩:Bs))) S (.inr rfl) G (by have g:=wW z;rw [zJ,zJ,zJ t (wB e),jR e,jR] at g;rw [zJ];omega) N)
 replace N:=N.nf
 refine go J N fun a J=>?_
 refine zV (J.ks [2,72,73]) N (fun R mm a w=>∃(i:Nat) (bv:Value) (acc:Bs),mm=e.arms.length - i/\R V [(74,.int .i64 ((i:Nat):Int))] [(0,.blk b (ob [.pointer (some ⟨b,0,none⟩),bv] 130)),(1,.gs (bv) 5 1 (Lib.strCells acc))] a w/\(acc++pL (writePa (e.arms.drop i)++[41])=t++wB e)) (e.arms.length - 0) ⟨0,I0,((t++(⟨#[40,99,97,115,101,32]⟩:Bs))++wB j0),rfl,⟨J.pk,N⟩,z⟩ ?_
 clear N J
 rintro mm a w ⟨i,bv,acc,y0,⟨J,N⟩,h⟩ q1 a0
 replace N:=N.nf
 refine go J N fun a J=>?_
 by_cases X:i < e.arms.length
 refine go J N fun a J=>?_
 obtain ⟨J1,rfl,f,j,N0,c1,Y0,c0⟩:=h8.el b0 X
 obtain ⟨K1,u1,rfl,Y,Z⟩:=RArm.iff.1 c0
 obtain ⟨G1,y1,rfl,g1,k1⟩:=Y.fm
 obtain ⟨H1,K0,l1,L0,rfl,u0,C1,O0,w0,z0,x0,A0⟩:=REx.fm Z
 refine Alc J N fun J0 w N a J=>?_
 refine Sto 0 J N fun w N a J=>?_
 refine go J N fun a J=>?_
 refine yZ [2,1,2,0,1,2,0,0,1,1,0] (.q 0 (.q 1 (.q 2 (.q 4 (.q 5 (.e 3 (.e 6 (.e 7 (.q 8 (.q 9 (.e 10 (.done)))))))))))) [0,3,4] J N fun w N=>?_
 refine qG J N fun m1 w N a J=>?_
 refine qN 0 wM J N (fun n1 w N a J=>?_) (hr:=(SliceOf.strs.1 Y).rowIn N.toSees) (h1:=cP _) (hb:=by have g:=wW h;rw [laQ,zJ t (wB e),jR e] at g;have k:=tO j;rw [aX] at k;have m:=tW f.con f.vars;have r:(⟨#[32]⟩:Bs).size=1:=rfl;rw [r] at m;simp only [lcQ,lnQ,yF] at m ⊢;omega)
 refine zS call67 J N (fun w N a J=>?_) (c:=y3d (l:=f.con::f.vars) (sep:=⟨#[32]⟩) (by have g:=wW h;rw [laQ,zJ t (wB e),jR e] at g;have k:=tO j;rw [aX] at k;have m:=tW f.con f.vars;omega) N)
 replace N:=N.nf
 refine Qq J N (fun a J=>?_) (o:=by exact fun _ _ _ J O=>vW J rfl rfl (by have g:=wW h;rw [laQ,zJ t (wB e),jR e] at g;have k:=tO j;rw [aX] at k;have m:=tW f.con f.vars;have r:(⟨#[32,40]⟩:Bs).size=2:=rfl;omega))
 refine Qq J N (fun a J=>?_) (o:=by exact fun _ _ _ J O=>vW J rfl rfl (by have g:=wW h;rw [laQ,zJ t (wB e),jR e] at g;have k:=tO j;rw [aX] at k;have m:=tW f.con f.vars;have r:(⟨#[32,40]⟩:Bs).size=2:=rfl;have U:(⟨#[32,45,62,32]⟩:Bs).size=4:=rfl;rw [zJ];omega))
 replace N:=N.ar [] [2,2]
 refine qH call68 J N (fun o1 w p0 N a J=>?_) (c:=yJ (t:=acc) (s:=(((⟨#[32,40]⟩:Bs)++(mB (⟨#[32]⟩:Bs) (f.con::f.vars)))++(⟨#[32,45,62,32]⟩:Bs))) (.inr rfl) (by have g:=wW h;rw [laQ,zJ t (wB e),jR e] at g;have k:=tO j;rw [aX,jR] at k;have m:([41]:List UInt8).length=1:=rfl;have r:(⟨#[32,40]⟩:Bs).size=2:=rfl;have U:(⟨#[32,45,62,32]⟩:Bs).size=4:=rfl;have W:(⟨#[41]⟩:Bs).size=1:=rfl;rw [zJ,zJ];omega) N)
 replace N:=N.nf
 replace N:=N.ar [] [1,1]
 refine qH call69 J N (fun p1 w q0 N a J=>?_) (c:=ih _ (Ex.lt_arms (mgQ j)) ((z2t u).2.2 _ (mgQ j)) (t:=(acc++(((⟨#[32,40]⟩:Bs)++(mB (⟨#[32]⟩:Bs) (f.con::f.vars)))++(⟨#[32,45,62,32]⟩:Bs)))) Z (.inr rfl) G (by have g:=wW h;rw [laQ,zJ t (wB e),jR e] at g;have k:=tO j;rw [aX,jR] at k;have m:([41]:List UInt8).length=1:=rfl;have r:(⟨#[32,40]⟩:Bs).size=2:=rfl;have U:(⟨#[32,45,62,32]⟩:Bs).size=4:=rfl;have W:(⟨#[41]⟩:Bs).size=1:=rfl;rw [zJ,zJ,zJ];omega) N)
 replace N:=N.nf
 replace N:=N.ar [] [1,1]
 refine qH call70 J N (fun k0 w r0 N a J=>?_) (c:=aN (t:=((acc++(((⟨#[32,40]⟩:Bs)++(mB (⟨#[32]⟩:Bs) (f.con::f.vars)))++(⟨#[32,45,62,32]⟩:Bs)))++wB f.body)) (c:=41) (.inr rfl) (by have g:=wW h;rw [laQ,zJ t (wB e),jR e] at g;have k:=tO j;rw [aX,jR] at k;have m:([41]:List UInt8).length=1:=rfl;have r:(⟨#[32,40]⟩:Bs).size=2:=rfl;have U:(⟨#[32,45,62,32]⟩:Bs).size=4:=rfl;have W:(⟨#[41]⟩:Bs).size=1:=rfl;rw [zJ,zJ,zJ,zJ,jR];omega) N)
 replace N:=N.nf
 refine go J N fun a J=>?_
 replace N:=N.dl [2]
 refine a0 _ _ _ (by subst y0;omega) ⟨(i+1),(k0),((((acc++(((⟨#[32,40]⟩:Bs)++(mB (⟨#[32]⟩:Bs) (f.con::f.vars)))++(⟨#[32,45,62,32]⟩:Bs)))++wB f.body)++⟨#[41]⟩)),rfl,⟨J.pk,by exact N⟩,?_⟩
 exact wc_step j h
 replace N:=N.ar [] [1,1]
 refine qH call70 J N (fun l0 w s0 N a J=>?_) (c:=aN (t:=acc) (c:=41) (.inr rfl) (by have g:=wW h;rw [laQ,zJ t (wB e),jR e] at g;have m:([41]:List UInt8).length=1:=rfl;omega) N)
 replace N:=N.nf
 refine go J N fun a J=>?_
 replace N:=N.dl [3,2]
 refine I _ _ _ (aU J results69 ?_)
 refine ⟨l0,rfl,trivial,?_⟩
 rw [<- wc_end X h];exact N
 refine go J N fun a J=>?_
 have n:=congrArg ByteArray.size (q7u B C D p F H)
 have y:=jR e
 refine go J N fun a J=>?_
 replace N:=N.ar [] [3,3,3]
 refine st J rfl rfl rfl (hY J rfl rfl call121 (z8e (t:=t) (op:=e.name) (fun x T _ _ _ _ _ _ _ _ r1 r2 r3 r4 r5=>ih x (Ex.lt_args T) ((z2t u).2.1 x T) r1 r2 r3 r4 r5) h2 M G (by omega) N) (fun m0 w t0 N a J=>?_))
 replace N:=N.nf
 refine go J N fun a J=>?_
 replace N:=N.dl [3,0]
 refine I _ _ _ (aU J results69 ?_)
 refine ⟨m0,rfl,trivial,?_⟩
 rw [<- q7u B C D p F H];exact N
theorem x5d {V:Fz} {K:List Res} {w:World} {d:List Value} {e:Ex} {b:Nat} {v:Value} {bp:Option Addr} {t:Bs} (a:wfE e=true) (re:REx V d e) (c:bp=none∨bp=some ⟨b,0,none⟩) (G:Tabs V) (hb:t.size+(xV e).length<=8796093022208) (N:Mem V (.blk b (ob [.pointer bp,v] 130)::.gs v 5 1 (Lib.strCells t)::K) w) :
  Calls prog 69 #[.pointer (some ⟨b,0,none⟩),.agg d.toArray] w (fun ee w'=>∃v2,ee=.returned (.tuple #[])/\True/\Mem V (.blk b (ob [.pointer (some ⟨b,0,none⟩),v2] 130)::.gs v2 5 1 (Lib.strCells (t++wB e))::K) w'):=by
 suffices H:∀n (e:Ex),e.sz < n->wfE e=true->∀{V:Fz} {K:List Res} {w:World} {d:List Value} {b:Nat} {v:Value} {bp:Option Addr} {t:Bs},REx V d e->(bp=none∨bp=some ⟨b,0,none⟩)->Tabs V->t.size+(xV e).length<=8796093022208->Mem V (.blk b (ob [.pointer bp,v] 130)::.gs v 5 1 (Lib.strCells t)::K) w ->
   Calls prog 69 #[.pointer (some ⟨b,0,none⟩),.agg d.toArray] w (fun ee w'=>∃v2,ee=.returned (.tuple #[])/\True/\Mem V (.blk b (ob [.pointer (some ⟨b,0,none⟩),v2] 130)::.gs v2 5 1 (Lib.strCells (t++wB e))::K) w') from H _ e (Nat.lt_succ_self _) a re c G hb N
 intro n
 induction n with
 | zero=>intro e h;omega
 | succ n g=>intro e h a V K w d b v bp t re c G hb N;exact j2j (fun x o f _ _ _ _ _ _ _ _ i j k l m=>g x (by omega) f i j k l m) a re c G hb N
end Go.Sw

namespace Go.Sw
def pI:List Bs->Bs
 | []=>⟨#[]⟩
 | x::l=>x++pI l
def z8r (c:Con):Bs:=mB ⟨#[32]⟩ (c.name::c.fields)
def y8h (d:Data):Bs:=((((⟨#[100,97,116,97,32]⟩:Bs)++d.name)++⟨#[32,61,32]⟩)++mB ⟨#[32,124,32]⟩ (d.cons.map z8r))++⟨#[10]⟩
def z3r (p:Param):Bs:=((((⟨#[105,110,112,117,116,32]⟩:Bs)++p.name)++⟨#[32,58,32]⟩)++p.type)++⟨#[10]⟩
def z3w (p:Param):Bs:=((((⟨#[32,40]⟩:Bs)++p.name)++⟨#[32,58,32]⟩)++p.type)++⟨#[41]⟩
def y2o (f:Fun):Bs:=((((⟨#[102,117,110,32]⟩:Bs)++f.name)++pI (f.params.map z3w))++(((⟨#[32,58,32]⟩:Bs)++f.result)++⟨#[32,61,32]⟩))++(wB f.body++⟨#[10]⟩)
def y7d (o:Bs):Bs:=((⟨#[111,117,116,112,117,116,32]⟩:Bs)++o)++⟨#[10]⟩
def dS (c:Core):Bs:=pI (c.datas.map y8h)++(pI (c.inputs.map z3r)++(pI (c.funs.map y2o)++pI (c.outputs.map y7d)))
def uG (c:Core):Bs×Int:=if yP c≠0 then (sNo,yP c) else if 60000 < (dS c).size then (sNo,2) else (dS c,0)
theorem y7n (x:Bs):x++(⟨#[]⟩:Bs)=x:=by apply ByteArray.ext;simp [ByteArray.data_append]
theorem z6k (a b c:Bs):(a++b)++c=a++(b++c):=ByteArray.append_assoc
theorem y0t {α:Type} {f:α->Bs} {l:List α} {i:Nat} {x:α} (h:l[i]? = some x):pI ((l.drop i).map f)=f x++pI ((l.drop (i+1)).map f):=by
 rw [zA h];rfl
theorem cat_end {α:Type} {f:α->Bs} {l:List α} {i:Nat} (h:¬i < l.length):pI ((l.drop i).map f)=⟨#[]⟩:=by
 rw [zE h];rfl
theorem z4m {α:Type} {f:α->Bs} {l:List α} {i:Nat} {x:α} {acc rest F:Bs} (a:l[i]? = some x) (h:acc++(pI ((l.drop i).map f)++rest)=F):(acc++f x)++(pI ((l.drop (i+1)).map f)++rest)=F:=by
 rw [<- h,y0t a];simp only [z6k]
theorem z0m {α:Type} {f:α->Bs} {l:List α} {i:Nat} {acc rest F:Bs} (a:¬i < l.length) (h:acc++(pI ((l.drop i).map f)++rest)=F):acc++rest=F:=by
 rw [<- h,cat_end a,z7e]
theorem gT:∀{l:List Bs} {m:Nat},(∀x∈l,x.size<=m)->(pI l).size<=l.length * m
 | [],_,_=>by simp [pI];rfl
 | x::l,m,h=>by
  have h1:=h x msQ
  have b:=gT (l:=l) (m:=m) (fun y a=>h y (mcQ _ a))
  simp only [pI,zJ,lcQ,Nat.add_mul];omega
theorem z4l {α:Type} {f:α->Bs} {l:List α} {i:Nat} {x:α} {acc rest F:Bs} (a:l[i]? = some x) (h:acc++(pI ((l.drop i).map f)++rest)=F):acc.size+(f x).size<=F.size:=by
 rw [<- h,y0t a];simp only [zJ];omega
theorem y7a {α β:Type} {f:α->β} {l:List α} {j:Nat} {x:α} (a:l[j]? = some x):(l.map f).take (j+1)=(l.map f).take j++[f x] :=
 xD (by rw [List.getElem?_map,a];rfl)
theorem q2d {α β:Type} {f:α->β} {l:List α} {j:Nat} (h:¬j < l.length):(l.map f).take j=l.map f:=y5c (by rw [List.length_map];exact h)
theorem j6d {l:List Fun} {i:Nat} {f:Fun} {acc rest F:Bs} (a:l[i]? = some f) (h:acc++(pI ((l.drop i).map y2o)++rest)=F) :
  (acc++((⟨#[102,117,110,32]⟩:Bs)++f.name))++(pI ((f.params.drop 0).map z3w)++((((⟨#[32,58,32]⟩:Bs)++f.result)++⟨#[32,61,32]⟩)++((wB f.body++⟨#[10]⟩)++(pI ((l.drop (i+1)).map y2o)++rest))))=F:=by
 rw [<- h,y0t a];simp only [y2o,z6k,List.drop_zero]
theorem x1o {acc m w n R F:Bs} (h:acc++(m++((w++n)++R))=F):(((acc++m)++w)++n)++R=F:=by
 rw [<- h];simp only [z6k]
theorem q6p {c:Core} (h:¬yP c=0):uG c=(⟨#[]⟩,yP c):=by unfold uG;rw [if_pos h];rfl
theorem q6o {c:Core} (h:yP c=0) (hl:60000 < (dS c).size):uG c=(⟨#[]⟩,2):=by unfold uG;rw [if_neg (not_not_intro h),if_pos hl];rfl
theorem j7k {c:Core} (h:yP c=0) (hl:¬60000 < (dS c).size):uG c=(dS c,0):=by unfold uG;rw [if_neg (not_not_intro h),if_neg hl]
theorem z4k:∀{l:List Ex} {x:Ex} {y:Bs},x∈l->y∈qI x->y∈calledPs l
 | z::l,x,y,h,a=>by
  simp only [calledPs,List.mem_append]
  rcases List.mem_cons.1 h with rfl | h
  ·exact .inl a
  ·exact .inr (z4k h a)
theorem z4j:∀{l:List Arm} {a:Arm} {y:Bs},a∈l->y∈qI a.body->y∈calledPa l
 | z::l,a,y,h,b=>by
  rw [sH,List.mem_append]
  rcases List.mem_cons.1 h with rfl | h
  ·exact .inl b
  ·exact .inr (z4j h b)
theorem j1a {T:Table} {n y x:Bs} (h1:y∈jK T n) (h:Reach T y x):Reach T n x:=by
 induction h with
 | refl=>exact .step .refl h1
 | step _ a b=>exact .step b a
theorem y9a {T:Table}:∀{vs:List Val} {ps:List Param},dO T vs ps=true->sF T vs (ps.map Param.type)
 | [],[],_=>trivial
 | v::vs,p::ps,h=>by
  simp only [dO,baQ] at h
  exact ⟨h.1.2,y9a h.2⟩
 | [],_::_,h=>by cases h
 | _::_,[],h=>by cases h
theorem y0o {T:Table} {n:Bs} {f:Fun} (d:zN T.funs n=some f) (b:¬wZ T n):xO f.body=false/\∀y∈qI f.body,¬wZ T y:=by
 have hb:=oB d
 refine ⟨?_,fun y e hr=>b ?_⟩
 ·cases a:xO f.body with
  | false=>rfl
  | true=>exact absurd ⟨_,.refl,by rw [hb];exact a⟩ b
 ·obtain ⟨x,h1,c⟩:=hr
  exact ⟨x,j1a (by unfold jK;rw [hb];exact e) h1,c⟩
theorem q2o (T:Table):Closed T ⟨T.funs,[]⟩ (fun e=>xO e=false/\∀y∈qI e,¬wZ T y):=by
 refine ⟨fun {e x} b i=>?_,fun {e a} b h=>?_,fun {e t} b d=>?_,fun {e f} b d j=>?_⟩
 ·obtain ⟨h1,c⟩:=b
  rw [cM] at h1
  simp only [Bool.or_eq_false_iff] at h1
  refine ⟨?_,fun y g=>c y ?_⟩
  ·have:=List.any_eq_false.1 h1.1.2 x i;simpa using this
  ·rw [gZ];simp only [List.mem_append];exact .inl (.inr (z4k i g))
 ·obtain ⟨h1,c⟩:=b
  rw [cM] at h1
  simp only [Bool.or_eq_false_iff] at h1
  refine ⟨?_,fun y g=>c y ?_⟩
  ·have:=List.any_eq_false.1 h1.2 a h;simpa using this
  ·rw [gZ];simp only [List.mem_append];exact .inr (z4j h g)
 ·have:=b.1
  rw [cM] at this;simp [d] at this
 ·exact y0o j (b.2 _ (by rw [gZ,if_pos d];simp))
theorem j5c {c:Core} (h:yP c=0) (name:Bs) (args:List Val):q3l c name args:=by
 intro f a b hr g
 exact (q3x (nK h) (q2o (zH c)) a (y0o a hr) (y9a b) g).1
mutual
def tG:Ex->Prop
 | .mk _ n _ args arms=>I64 n/\numsEs args/\numsEa arms
def numsEs:List Ex->Prop
 | []=>True
 | e::es=>tG e/\numsEs es
def numsEa:List Arm->Prop
 | []=>True
 | .mk _ _ b::es=>tG b/\numsEa es
end
mutual
theorem REx'.nums {V:Fz}:∀{x:Ex} {cs:List Value},REx' V x cs->tG x
 | .mk _ _ _ _ _,_,⟨_,_,_,_,_,c,_,a,_,d⟩=>⟨c,REs'.nums a,RArms'.nums d⟩
theorem REs'.nums {V:Fz}:∀{xs:List Ex} {cs:List Value},REs' V xs cs->numsEs xs
 | [],_,_=>trivial
 | _::_,_,⟨_,_,_,_,b,a⟩=>⟨REx'.nums b,REs'.nums a⟩
theorem RArm'.nums {V:Fz}:∀{x:Arm} {cs:List Value},RArm' V x cs->tG x.body
 | .mk _ _ _,_,⟨_,_,_,_,_,a⟩=>REx'.nums a
theorem RArms'.nums {V:Fz}:∀{xs:List Arm} {cs:List Value},RArms' V xs cs->numsEa xs
 | [],_,_=>trivial
 | .mk _ _ _::_,_,⟨_,_,_,_,b,a⟩=>⟨RArm'.nums b,RArms'.nums a⟩
end
theorem y0w {α:Type} {R:List Value->α->Prop} {k:Nat}:∀{xs:List α} {cs:List Value},Chunks R k cs xs->∀x∈xs,∃c,R c x
 | y::xs,_,h,x,a=>by
  obtain ⟨c,rest,_,_,b,d⟩:=h
  rcases List.mem_cons.1 a with rfl | a
  ·exact ⟨c,b⟩
  ·exact y0w d x a
theorem y8d {V:Fz} {d:List Value} {c:Core} (h:RCore V d c):∀f∈c.funs,tG f.body:=fun f b=>by
 obtain ⟨_,_,_,_,_,_,_,a,_⟩:=h
 obtain ⟨_,_,a⟩:=a
 obtain ⟨_,_,_,_,_,hb⟩:=y0w a f b
 exact REx'.nums hb
theorem y3u:∀{l:List Ex},numsEs l->∀x∈l,tG x
 | y::l,h,x,a=>by
  rcases List.mem_cons.1 a with rfl | a
  ·exact h.1
  ·exact y3u h.2 x a
theorem y3t:∀{l:List Arm},numsEa l->∀a∈l,tG a.body
 | .mk _ _ b::l,h,x,c=>by
  rcases List.mem_cons.1 c with rfl | c
  ·exact h.1
  ·exact y3t h.2 x c
theorem x2z {e:Ex} (h:tG e):I64 e.num/\(∀x∈e.args,tG x)/\∀a∈e.arms,tG a.body:=by
 cases e;exact ⟨h.1,y3u h.2.1,y3t h.2.2⟩
theorem y8n:∀(d f n:Nat),n < 10 ^ (d+1)->(z4s f n).length<=d+1
 | _,0,_,_=>by simp [z4s]
 | d,f+1,n,h=>by
  simp only [z4s]
  split
  ·simp
  ·rename_i a
   cases d with
   | zero=>omega
   | succ d=>
    have:=y8n d f (n / 10) (by rw [Nat.pow_succ] at h;omega)
    simp only [lcQ];omega
theorem j6o {n:Int} (h:I64 n):(z8w n).length<=24:=by
 have h1:∀m:Nat,m<=9223372036854775808->(q4j m).length<=19:=fun m N=>by
  unfold q4j;rw [List.length_reverse];exact y8n 18 _ _ (by omega)
 unfold I64 at h
 unfold z8w
 split
 ·have:=h1 (-n).toNat (by omega);simp only [lcQ];omega
 ·have:=h1 n.toNat (by omega);omega
theorem j4s:∀{l:List Ex},(∀x∈l,wfE x=true)->wfEs l=true
 | [],_=>rfl
 | y::l,h=>by
  simp only [wfEs,baQ]
  exact ⟨h y msQ,j4s fun x a=>h x (mcQ _ a)⟩
theorem j4r:∀{l:List Arm},(∀a∈l,wfE a.body=true/\a.con.size<=24/\∀v∈a.vars,v.size<=24)->wfEa l=true
 | [],_=>rfl
 | .mk c vs b::l,h=>by
  obtain ⟨h1,d,e⟩:=h (.mk c vs b) msQ
  simp only [wfEa,baQ,decide_eq_true_eq,List.all_eq_true]
  exact ⟨⟨⟨h1,j4r fun x f=>h x (mcQ _ f)⟩,d⟩,e⟩
theorem wfE_of {e:Ex} (h1:e.kind=7->0 < e.args.length) (c:∀x∈e.args,wfE x=true) (d:∀a∈e.arms,wfE a.body=true/\a.con.size<=24/\∀v∈a.vars,v.size<=24) (f:e.name.size<=24) (g:I64 e.num):wfE e=true:=by
 cases e with
 | mk k n s args arms=>
  simp only [wfE,baQ,Bool.or_eq_true,decide_eq_true_eq]
  refine ⟨⟨⟨⟨?_,j4s c⟩,j4r d⟩,f⟩,j6o g⟩
  by_cases b:k=7
  ·exact .inr (h1 b)
  ·exact .inl b
theorem All2.left {α β:Type} {R:α->β->Prop}:∀{xs:List α} {ys:List β},All2 R xs ys->∀x∈xs,∃y∈ys,R x y
 | x::xs,y::ys,h,z,a=>by
  rcases List.mem_cons.1 a with rfl | a
  ·exact ⟨y,msQ,h.1⟩
  ·obtain ⟨u,h1,b⟩:=All2.left h.2 z a;exact ⟨u,mcQ _ h1,b⟩
 | [],_,_,z,a=>by cases a
 | _::_,[],h,_,_=>h.elim
theorem y3m {l:List Ex} {x:Ex} (h:x∈l):∃p q,bindPs l=p++zP x++q:=by
 induction l with
 | nil=>cases h
 | cons b az a=>
  simp only [bindPs]
  rcases List.mem_cons.1 h with rfl | h
  ·exact ⟨[],bindPs az,by simp⟩
  ·obtain ⟨p,q,e⟩:=a h
   exact ⟨zP b++p,q,by rw [e];simp⟩
theorem y7r {e:Ex} {num:Bool} {a b:Int} (h:qD e num false a b=true):e.name=sNo:=by
 simp only [qD,baQ,Bool.false_or,decide_eq_true_eq] at h;exact h.1.1.2
theorem z3i {e:Ex} {num nm:Bool} {b:Int} (h:qD e num nm 0 b=true):e.args=[]:=List.eq_nil_of_length_eq_zero (xI (n:=0) h)
theorem nE {e:Ex} {num nm:Bool} {a:Int} (h:qD e num nm a 0=true):e.arms=[]:=by
 simp only [qD,baQ,Bool.or_eq_true,decide_eq_true_eq] at h
 rcases h.2 with h | h
 ·omega
 ·exact List.eq_nil_of_length_eq_zero (by omega)
structure Brief (T:Table):Prop where
 cons:∀n m,zN T.cons n=some m->n.size<=24
 funs:∀n f,zN T.funs n=some f->n.size<=24
 inputs:∀n t,zN T.inputs n=some t->n.size<=24
 datas:∀t d x,zN T.datas t=some d->x∈d.cons->x.name.size<=24
 dNo:zN T.datas sNo=none
structure Parts (T:Table) (e:Ex) (s:Scope):Prop where
 args:∀x∈e.args,∃s' u,(zP x).Nodup/\Fresh s' (zP x)/\Ty T x s' u/\∀m v,zN s' m=some v->m∈zP e∨∃v',zN s m=some v'
 arms:∀a∈e.arms,(∃s' u,(zP a.body).Nodup/\Fresh s' (zP a.body)/\Ty T a.body s' u/\∀m v,zN s' m=some v->m∈zP e∨∃v',zN s m=some v')/\∃n d c,zN T.datas n=some d/\c∈d.cons/\a.con=c.name
 name:e.name.size<=1∨e.name∈zP e∨(∃v,zN s e.name=some v)∨(∃v,zN T.inputs e.name=some v)∨(∃m,zN T.cons e.name=some m)∨(∃f,zN T.funs e.name=some f)
 case1:e.kind=7->0 < e.args.length
 inp:e.kind=3->∃u,zN T.inputs e.name=some u
theorem z9j {T:Table} (F:zN T.datas sNo=none) {e:Ex} {s:Scope} {t:Bs} (g0:(zP e).Nodup) (a0:Fresh s (zP e)) (c:Ty T e s t):Parts T e s:=by
  obtain ⟨c,g⟩:=c
  have B:∀x∈e.args,mU T x:=fun x D=>aG T F _ x (Nat.lt_succ_self _)
  have c0:∀a∈e.arms,mU T a.body:=fun a o=>aG T F _ a.body (Nat.lt_succ_self _)
  have G:=kY e
  have X:=g0
  have M:=a0
  rw [G] at X M
  have L:=zU X
  have A:=zU L.1
  have w:Fresh s (bindPs e.args):=M.sub fun m N=>List.mem_append.2 (.inl (List.mem_append.2 (.inr N)))
  have Q:Fresh s (bindPa e.arms):=M.sub fun m N=>List.mem_append.2 (.inr N)
  have all:∀ts,All2 (fun x t=>Ty T x s t) e.args ts->∀x∈e.args,∃s' u,(zP x).Nodup/\Fresh s' (zP x)/\Ty T x s' u/\∀m v,zN s' m=some v->m∈zP e∨∃v',zN s m=some v':=fun ts o x D=>by
   obtain ⟨u,_,hu⟩:=All2.left o x D
   obtain ⟨p,q,V⟩:=y3m D
   have k1:(zP x).Nodup:=by have:=A.2.1;rw [V] at this;exact (zU (zU this).1).2.1
   exact ⟨s,u,k1,w.sub fun m N=>by rw [V];simp [N],hu,fun m v h=>.inr ⟨v,h⟩⟩
  by_cases h1:e.kind=1
  ·rw [nN T e s h1] at c
   simp only [gM] at c
   split at c
   ·rename_i i
    exact ⟨by rw [z3i i];simp,by rw [nE i];simp,.inl (by rw [y7r i];decide),fun h=>by omega,fun h=>by omega⟩
   ·exact absurd c.symm g
  by_cases h2:e.kind=2
  ·rw [mN T e s h2] at c
   simp only [wF] at c
   split at c
   ·rename_i i
    cases hl:zN s e.name with
    | none=>rw [hl] at c;exact absurd c.symm g
    | some u=>exact ⟨by rw [z3i i];simp,by rw [nE i];simp,.inr (.inr (.inl ⟨u,hl⟩)),fun h=>by omega,fun h=>by omega⟩
   ·exact absurd c.symm g
  by_cases h3:e.kind=3
  ·rw [mK T e s h3] at c
   simp only [oD] at c
   split at c
   ·rename_i i
    cases hl:zN T.inputs e.name with
    | none=>rw [hl] at c;exact absurd c.symm g
    | some u=>exact ⟨by rw [z3i i];simp,by rw [nE i];simp,.inr (.inr (.inr (.inl ⟨u,hl⟩))),fun h=>by omega,fun _=>⟨u,hl⟩⟩
   ·exact absurd c.symm g
  by_cases h4:e.kind=4
  ·rw [mJ T e s h4] at c
   unfold sI at c
   split at c
   ·exact absurd c.symm g
   ·rename_i m N
    split at c
    ·rename_i i
     split at c
     ·rename_i o
      exact ⟨all _ (aB B A.2.1 w o).2,by rw [nE i];simp,.inr (.inr (.inr (.inr (.inl ⟨m,N⟩)))),fun h=>by omega,fun h=>by omega⟩
     ·exact absurd c.symm g
    ·exact absurd c.symm g
  by_cases h5:e.kind=5
  ·rw [wO T e s h5] at c
   unfold mV at c
   split at c
   ·exact absurd c.symm g
   ·rename_i f N
    split at c
    ·rename_i i
     split at c
     ·rename_i o
      exact ⟨all _ (aB B A.2.1 w o).2,by rw [nE i];simp,.inr (.inr (.inr (.inr (.inr ⟨f,N⟩)))),fun h=>by omega,fun h=>by omega⟩
     ·exact absurd c.symm g
    ·exact absurd c.symm g
  by_cases W:e.kind=6
  ·rw [mL T e s W] at c
   unfold z0e at c
   split at c
   ·rename_i i
    have hl:=xI (n:=2) i
    obtain ⟨x,y,j⟩:∃x y,e.args=[x,y]:=by
     cases o:e.args with
     | nil=>rw [o] at hl;simp at hl
     | cons a l=>
      cases l with
      | nil=>rw [o] at hl;simp at hl
      | cons b l=>
       rw [o] at hl
       simp only [lcQ] at hl
       have:l=[]:=List.eq_nil_of_length_eq_zero (by omega)
       subst this;exact ⟨a,b,rfl⟩
    have D:e.args[0]? = some x:=by rw [j];rfl
    have hy:e.args[1]? = some y:=by rw [j];rfl
    by_cases E:(zF T x s).1=sNo
    ·rw [z2n D E] at c;exact absurd c.symm g
    ·rw [oJ D hy E] at c
     simp only at c
     have K:x∈e.args:=by rw [j];simp
     simp only [if_pos W,j,bindPs,List.append_nil] at X M
     have f0:=zU X
     have U:=zU f0.1
     have I:=zU U.2.1
     have R:Fresh s (zP x):=M.sub fun m N=>by simp [N]
     have Y:=B x K s I.1 R E
     have P:e.name∈zP e:=by rw [G,if_pos W];simp
     have S:Fresh (wH s e.name (zF T x s).1) (zP y):=fun m N=>by
      rw [vZ,if_neg]
      ·exact M m (by simp [N])
      ·rintro rfl
       exact U.2.2 e.name (by simp) (by simp [N])
     rw [Y] at c
     refine ⟨fun z C=>?_,by rw [nE i];simp,.inr (.inl P),fun h=>by omega,fun h=>by omega⟩
     rw [j] at C
     rcases List.mem_cons.1 C with rfl | C
     ·exact ⟨s,_,I.1,R,⟨rfl,E⟩,fun m v h=>.inr ⟨v,h⟩⟩
     ·rcases List.mem_cons.1 C with rfl | C
      ·refine ⟨_,t,I.2.1,S,⟨c,g⟩,fun m u N=>?_⟩
       rw [vZ] at N
       split at N
       ·rename_i h;rw [h];exact .inl P
       ·exact .inr ⟨u,N⟩
      ·cases C
   ·exact absurd c.symm g
  by_cases h7:e.kind=7
  ·rw [mI T e s h7] at c
   unfold jO at c
   split at c
   ·rename_i i
    have hl:=xI (n:=1) i
    obtain ⟨x,j⟩:∃x,e.args=[x]:=by
     cases o:e.args with
     | nil=>rw [o] at hl;simp at hl
     | cons a l=>
      rw [o] at hl
      simp only [lcQ] at hl
      have:l=[]:=List.eq_nil_of_length_eq_zero (by omega)
      subst this;exact ⟨a,rfl⟩
    have D:e.args[0]? = some x:=by rw [j];rfl
    have K:x∈e.args:=by rw [j];simp
    rw [qY D] at c
    split at c
    ·exact absurd c.symm g
    ·rename_i d Z
     split at c
     ·rename_i d0
      have E:(zF T x s).1≠sNo:=fun e0=>by rw [e0,F] at Z;cases Z
      rw [j] at A w
      simp only [bindPs,List.append_nil] at A w
      have Y:=B x K s A.2.1 w E
      rw [Y] at c
      have k0:=uM g c0 d0 L.2.1 Q c
      refine ⟨fun z C=>?_,fun a o=>?_,.inl (by rw [y7r i];decide),fun _=>by omega,fun h=>by omega⟩
      ·rw [j] at C
       rcases List.mem_cons.1 C with rfl | C
       ·exact ⟨s,_,A.2.1,w,⟨rfl,E⟩,fun m v h=>.inr ⟨v,h⟩⟩
       ·cases C
      ·obtain ⟨k,hk,q3,q4,q5⟩:=All2.left k0.2.1 a o
       obtain ⟨l,r,H⟩:=z3t o
       have i0:(a.vars++zP a.body).Nodup:=by
        have:=L.2.1
        rw [H] at this
        exact (zU (zU this).1).2.1
       have b0:Fresh s (a.vars++zP a.body):=Q.sub fun m N=>by rw [H];simp at N ⊢;rcases N with N | N <;> simp [N]
       have hnn':=zU i0
       refine ⟨⟨putAll s a.vars k.fields,t,hnn'.2.1,fun m N=>by
        rw [xU (fun hp=>hnn'.2.2 m hp N)];exact b0 m (List.mem_append.2 (.inr N)),q5,fun m u N=>?_⟩,_,d,k,Z,hk,q3⟩
       by_cases hv:m∈a.vars
       ·exact .inl (by rw [G,H];simp [hv])
       ·rw [xU hv] at N;exact .inr ⟨u,N⟩
     ·exact absurd c.symm g
   ·exact absurd c.symm g
  by_cases h8:e.kind=8
  ·rw [nY T e s h8] at c
   unfold mT at c
   split at c
   ·rename_i i
    split at c
    ·rename_i o
     refine ⟨all _ (aB B A.2.1 w o).2,by rw [nE i];simp,.inl ?_,fun h=>by omega,fun h=>by omega⟩
     simp only at c
     unfold opT at c
     split at c
     ·rename_i ho
      rcases ho with h | h | h | h | h <;> rw [h] <;> decide
     ·split at c
      ·rename_i ho
       rcases ho with h | h <;> rw [h] <;> decide
      ·exact absurd c.symm g
    ·exact absurd c.symm g
   ·exact absurd c.symm g
  rw [mM T e s h1 h2 h3 h4 h5 W h7 h8] at c
  exact absurd c.symm g
theorem y5p {T:Table} (b:Brief T):∀(n:Nat) (e:Ex),e.sz < n->∀(s:Scope) (t:Bs),(zP e).Nodup->Fresh s (zP e)->Ty T e s t->(∀m∈zP e,m.size<=24)->(∀m u,zN s m=some u->m.size<=24)->tG e->wfE e=true
 | 0,_,h=>by omega
 | n+1,e,G=>by
  intro s t F E H hb O o
  obtain ⟨l,A,B⟩:=x2z o
  have w:=z9j b.dNo F E H
  have z:∀x∈e.args,∀m∈zP x,m.size<=24:=fun x i m N=>hb m (by
   obtain ⟨p,q,g⟩:=y3m i
   rw [kY,g];simp [N])
  have j:∀a∈e.arms,∀m∈a.vars++zP a.body,m.size<=24:=fun a f m N=>hb m (by
   obtain ⟨p,q,g⟩:=z3t f
   rw [kY,g];simp at N ⊢;rcases N with N | N <;> simp [N])
  have r:∀s':Scope,(∀m v,zN s' m=some v->m∈zP e∨∃v',zN s m=some v')->∀m u,zN s' m=some u->m.size<=24:=fun s' h m u N=>by
   rcases h m u N with h | ⟨v,h⟩
   ·exact hb m h
   ·exact O m v h
  refine wfE_of w.case1 (fun x i=>?_) (fun a f=>?_) ?_ l
  ·obtain ⟨s',u,y,a2,a3,a4⟩:=w.args x i
   exact y5p b n x (by have:=Ex.lt_args i;omega) s' u y a2 a3 (z x i) (r s' a4) (A x i)
  ·obtain ⟨⟨s',u,y,a2,a3,a4⟩,k,d,c,h1,C,D⟩:=w.arms a f
   exact ⟨y5p b n a.body (by have:=Ex.lt_arms f;omega) s' u y a2 a3 (fun m N=>j a f m (List.mem_append.2 (.inr N))) (r s' a4) (B a f),by rw [D];exact b.datas _ _ _ h1 C,
    fun v I=>j a f v (List.mem_append.2 (.inl I))⟩
  ·rcases w.name with h | h | ⟨v,h⟩ | ⟨v,h⟩ | ⟨v,h⟩ | ⟨v,h⟩
   ·omega
   ·exact hb _ h
   ·exact O _ _ h
   ·exact b.inputs _ _ h
   ·exact b.cons _ _ h
   ·exact b.funs _ _ h
theorem z1k {T:Table} (b:zN T.datas sNo=none) (c:∀n,zN T.inputs n=none):∀(n:Nat) (e:Ex),e.sz < n->∀(s:Scope) (t:Bs),(zP e).Nodup->Fresh s (zP e)->Ty T e s t->xO e=false
 | 0,_,h=>by omega
 | n+1,e,m=>by
  intro s t l k o
  have f:=z9j b l k o
  rw [cM]
  simp only [Bool.or_eq_false_iff,decide_eq_false_iff_not,List.any_eq_false,Bool.not_eq_true]
  refine ⟨⟨fun h=>?_,fun x j=>?_⟩,fun a g=>?_⟩
  ·obtain ⟨u,i⟩:=f.inp h;rw [c] at i;cases i
  ·obtain ⟨s',u,d,a2,a3,_⟩:=f.args x j
   exact z1k b c n x (by have:=Ex.lt_args j;omega) s' u d a2 a3
  ·obtain ⟨⟨s',u,d,a2,a3,_⟩,_⟩:=f.arms a g
   exact z1k b c n a.body (by have:=Ex.lt_arms g;omega) s' u d a2 a3
theorem cI {s:Bs} (h:qE s=true):s.size<=24:=by
 simp only [qE,kS,decide_eq_true_eq] at h
 split at h
 ·cases h
 ·omega
theorem sU {s:Bs} (h:qC s=true):s.size<=24:=by
 simp only [qC,kS,decide_eq_true_eq] at h
 split at h
 ·cases h
 ·omega
theorem q3v {c:Core} (a:Right c):Brief (zH c) where
 cons n m h:=by
  rw [a.cons] at h
  obtain ⟨d,g,_,e,rfl⟩:=y7y h
  exact sU ((a.dN d g).2.2.2 _ e)
 funs n f h:=by
  rw [a.funs] at h
  obtain ⟨x,b,rfl,_⟩:=xH h
  exact cI (a.fN x b)
 inputs n t h:=by
  rw [a.inputs] at h
  obtain ⟨x,b,rfl,_⟩:=xH h
  exact cI (a.iN x b)
 datas t d x h b:=by
  rw [a.datas] at h
  obtain ⟨y,i,rfl,rfl⟩:=xH h
  exact sU ((a.dN y i).2.2.2 _ b)
 dNo:=(z1p (inp:=[]) a).dNo
theorem j4t {c:Core} (a:Right c) {f:Fun} (e:f∈c.funs) (g:tG f.body):wfE f.body=true:=by
 have h1:=a.fOk f e
 have i:=h1
 simp only [pA,baQ,decide_eq_true_eq] at h1
 obtain ⟨d,_,a3⟩:=xZ h1.1.2
 have a4:=zU d
 refine y5p (q3v a) _ f.body (Nat.lt_succ_self _) (sK f.params) f.result a4.2.1 (fun m N=>?_) ⟨h1.2,j4o a h1.1.1.2⟩ (fun m N=>cI (a3 m (List.mem_append.2 (.inr N)))) (fun m u N=>?_) g
 ·rw [cN,xU (fun h=>a4.2.2 m h N)];rfl
 ·by_cases b:m∈f.params.map Param.name
  ·exact cI (a3 m (List.mem_append.2 (.inl b)))
  ·rw [cN,xU b] at N;cases N
theorem z8a {c:Core} (a:Right c) {t:Bs} (h:vD (zH c) t=true):t.size<=24:=by
 simp only [vD,Bool.or_eq_true,decide_eq_true_eq] at h
 rcases h with h | h
 ·rw [a.datas] at h
  cases b:zN (vB Data.name id (truthsD::c.datas)) t with
  | none=>rw [b] at h;cases h
  | some d=>
   obtain ⟨x,e,rfl,_⟩:=xH b
   exact sU (a.dN x e).1
 ·rw [h];decide
theorem z5a (name:Bs):∀(l:List Data) (n:Int) (ok:Bool),(∀d∈l,d.name≠name)->(pP name l n ok).1=n
 | [],_,_,_=>rfl
 | d::l,n,ok,h=>by
  simp only [pP,if_neg (h d msQ)]
  exact z5a name l n ok fun x a=>h x (mcQ _ a)
theorem x2c {c:Core} (f:Right c) {t:Bs} (h:jC c.datas t=true):t.size<=24:=by
 unfold jC at h
 split at h
 ·rename_i e;rw [e];decide
 ·simp only [baQ,decide_eq_true_eq] at h
  by_cases b:∃d∈c.datas,d.name=t
  ·obtain ⟨d,a,rfl⟩:=b
   exact sU (f.dN d (mcQ _ a)).1
  ·have:=z5a t c.datas 0 true (fun d a e=>b ⟨d,a,e⟩)
   rw [this] at h;omega
theorem q2c {m:Nat}:∀{l:List Bs},(∀x∈l,x.size<=m)->pS l<=l.length * m
 | [],_=>by simp [pS]
 | x::l,h=>by
  have h1:=h x msQ
  have b:=q2c (l:=l) fun y a=>h y (mcQ _ a)
  rw [nS,lcQ,Nat.add_mul];omega
theorem q5k (sep:Bs) (l:List Bs):(mB sep l).size<=pS l+sep.size * l.length:=by
 cases l with
 | nil=>show 0<=_;omega
 | cons x l=>
  have:∀(l:List Bs) (a:Bs),(l.foldl (fun a s=>a++sep++s) a).size=a.size+pS l+sep.size * l.length:=by
   intro l
   induction l with
   | nil=>intro a;simp [pS]
   | cons y l b=>
    intro a
    rw [List.foldl_cons,b,zJ,zJ,nS,lcQ,Nat.mul_add];omega
  have h:=this l x
  simp only [mB]
  rw [h,nS,lcQ,Nat.mul_add];omega
theorem y0x {c:Core} (a:Right c) (hl:xS c=false) {d:Data} (b:d∈c.datas) {x:Con} (e:x∈d.cons):pS (x.name::x.fields)+(⟨#[32]⟩:Bs).size * (x.name::x.fields).length<=425:=by
 have h1:=sU ((a.dN d (mcQ _ b)).2.2.2 x e)
 have f:=a.fields d b
 simp only [mY,List.all_eq_true] at f
 have i:pS x.fields<=x.fields.length * 24:=q2c fun y h=>z8a a (f x e y h)
 have j:x.fields.length<=16:=by
  simp only [xS,Bool.or_eq_false_iff,List.any_eq_false] at hl
  have:=hl.1.2 d b
  simp only [gA,Bool.or_eq_true,decide_eq_true_eq,List.any_eq_true,not_or,not_exists,not_and] at this
  have:=this.2 x e
  omega
 have g:(⟨#[32]⟩:Bs).size=1:=rfl
 rw [g,nS,lcQ];omega
theorem z6v {c:Core} (f:Right c) (hl:xS c=false) {d:Data} (a:d∈c.datas):pS (d.cons.map z8r)+(⟨#[32,124,32]⟩:Bs).size * (d.cons.map z8r).length<=6848:=by
 have i:d.cons.length<=16:=by
  simp only [xS,Bool.or_eq_false_iff,List.any_eq_false] at hl
  have:=hl.1.2 d a
  simp only [gA,Bool.or_eq_true,decide_eq_true_eq,not_or] at this
  omega
 have b:pS (d.cons.map z8r)<=(d.cons.map z8r).length * 425:=q2c fun y h=>by
  obtain ⟨x,g,rfl⟩:=List.mem_map.1 h
  exact Nat.le_trans (q5k _ _) (y0x f hl a g)
 have e:(⟨#[32,124,32]⟩:Bs).size=3:=rfl
 rw [e];rw [List.length_map] at b ⊢;omega
theorem j0w {c:Core} (h:yP c=0) (t:∀f∈c.funs,tG f.body):(dS c).size<=8796093022208:=by
 have a:=nK h
 obtain ⟨hl,_⟩:=mC h
 have g:=hl
 simp only [xS,Bool.or_eq_false_iff,decide_eq_false_iff_not] at g
 obtain ⟨⟨⟨⟨⟨F,G⟩,H⟩,I⟩,_⟩,_⟩:=g
 have w:(pI (c.datas.map y8h)).size<=(c.datas.map y8h).length * 7000:=gT fun y e=>by
  obtain ⟨d,q,rfl⟩:=List.mem_map.1 e
  have n:=sU (a.dN d (mcQ _ q)).1
  have r:=Nat.le_trans (q5k _ _) (z6v a hl q)
  simp only [y8h,zJ]
  have k:(⟨#[100,97,116,97,32]⟩:Bs).size=5:=rfl
  have e2:(⟨#[32,61,32]⟩:Bs).size=3:=rfl
  have l:(⟨#[10]⟩:Bs).size=1:=rfl
  omega
 have A:(pI (c.inputs.map z3r)).size<=(c.inputs.map z3r).length * 100:=gT fun y e=>by
  obtain ⟨p,j,rfl⟩:=List.mem_map.1 e
  have n:=cI (a.iN p j)
  have r:=x2c a (a.inT p j)
  simp only [z3r,zJ]
  have k:(⟨#[105,110,112,117,116,32]⟩:Bs).size=6:=rfl
  have e2:(⟨#[32,58,32]⟩:Bs).size=3:=rfl
  have l:(⟨#[10]⟩:Bs).size=1:=rfl
  omega
 have B:(pI (c.funs.map y2o)).size<=(c.funs.map y2o).length * 4000000:=gT fun y e=>by
  obtain ⟨f,b,rfl⟩:=List.mem_map.1 e
  have n:=cI (a.fN f b)
  have h1:=a.fOk f b
  simp only [pA,baQ,decide_eq_true_eq,List.all_eq_true] at h1
  have r:=z8a a h1.1.1.2
  have K:=z5h hl b
  obtain ⟨m,s,i⟩:=cH hl b
  have L:=z1v f.body m (j4t a b (t f b)) i
  have M:=(kH f.body m i).1
  have P:=jR f.body
  have D:(pI (f.params.map z3w)).size<=(f.params.map z3w).length * 100:=gT fun z v=>by
   obtain ⟨p,j,rfl⟩:=List.mem_map.1 v
   have Q:=cI ((xZ h1.1.2).2.2 p.name (List.mem_append.2 (.inl (List.mem_map_of_mem j))))
   have R:=z8a a (h1.1.1.1 p j)
   simp only [z3w,zJ]
   have k:(⟨#[32,40]⟩:Bs).size=2:=rfl
   have e2:(⟨#[32,58,32]⟩:Bs).size=3:=rfl
   have l:(⟨#[41]⟩:Bs).size=1:=rfl
   omega
  rw [List.length_map] at D
  simp only [y2o,zJ]
  have k:(⟨#[102,117,110,32]⟩:Bs).size=4:=rfl
  have e2:(⟨#[32,58,32]⟩:Bs).size=3:=rfl
  have l:(⟨#[32,61,32]⟩:Bs).size=3:=rfl
  have E:(⟨#[10]⟩:Bs).size=1:=rfl
  omega
 have C:(pI (c.outputs.map y7d)).size<=(c.outputs.map y7d).length * 100:=gT fun y e=>by
  obtain ⟨o,u,rfl⟩:=List.mem_map.1 e
  obtain ⟨f,b,_⟩:=uE a.oOk o u
  have n:=(q3v a).funs _ _ b
  simp only [y7d,zJ]
  have k:(⟨#[111,117,116,112,117,116,32]⟩:Bs).size=7:=rfl
  have l:(⟨#[10]⟩:Bs).size=1:=rfl
  omega
 rw [List.length_map] at w A B C
 simp only [dS,zJ]
 omega
def z0s (cur:Tx):List Tx:=if cur=[] then [] else [cur]
def cQ:Tx->Tx->List Tx
 | cur,[]=>z0s cur
 | cur,b::l=>if b=32∨b=10 then z0s cur++cQ [] l
  else if b=40∨b=41 then z0s cur++[b]::cQ [] l
  else cQ (cur++[b]) l
theorem q2w {t:Bs} {i:Nat} (h:i < t.size):(tx t).drop i=t[i]::(tx t).drop (i+1):=by
 have h1:(tx t).length=t.size:=gQ t
 rw [List.drop_eq_getElem_cons (by omega)]
 congr 1
theorem tx_end {t:Bs} {i:Nat} (h:¬i < t.size):(tx t).drop i=[]:=List.drop_of_length_le (by rw [gQ];omega)
theorem z5m {t:Bs} {i n:Nat}:t.extract i (i+n)=pL (((tx t).drop i).take n):=by
 apply ByteArray.ext
 rw [ByteArray.data_extract]
 apply Array.ext'
 simp only [pL,tx,Array.toList_extract,List.extract_eq_take_drop,Nat.add_sub_cancel_left]
theorem aC {b:UInt8} {k:Nat} (a:k < 256):b.toNat=k↔b=k.toUInt8:=by
 constructor
 ·intro h;apply UInt8.toNat_inj.1;rw [h,Nat.toUInt8,UInt8.toNat_ofNat'];omega
 ·intro h;rw [h,Nat.toUInt8,UInt8.toNat_ofNat'];omega
theorem y5q {t:Bs} {i:Nat} (cur:Tx):∀n,n<=yR t i->cQ cur ((tx t).drop i)=cQ (cur++((tx t).drop i).take n) ((tx t).drop (i+n))
 | 0,_=>by simp
 | n+1,h=>by
  rw [y5q cur n (by omega)]
  have h1:=oM (fun c=> !y4t c) t t.size i n (by unfold yR at h;omega)
  have b:=q2w h1.1
  have j:(((tx t).drop i).take (n+1))=((tx t).drop i).take n++[t[i+n]'h1.1]:=by
   have m:((tx t).drop i)[n]? = some (t[i+n]'h1.1):=by
    rw [List.getElem?_drop]
    have:=congrArg (fun l=>l[0]?) b
    simpa [List.getElem?_drop] using this
   rw [List.take_add_one,m];rfl
  rw [j,b,show i+(n+1)=i+n+1 by omega,<- List.append_assoc]
  have a:=h1.2
  rw [cA h1.1] at a
  simp only [y4t,Bool.not_eq_true',Bool.or_eq_false_iff,decide_eq_false_iff_not] at a
  have e (k:Nat) (o:k < 256) (p:¬(t[i+n]'h1.1).toNat=k):¬(t[i+n]'h1.1)=k.toUInt8:=fun h=>p ((aC o).2 h)
  have d:=e 32 (by decide) a.1.1.1
  have e2:=e 10 (by decide) a.1.1.2
  have f:=e 40 (by decide) a.1.2
  have g:=e 41 (by decide) a.2
  rw [cQ,if_neg (by rintro (h | h);exact d h;exact e2 h),if_neg (by rintro (h | h);exact f h;exact g h)]
theorem q3a {cur l:Tx} (h:l=[]∨∃b r,l=b::r/\(b=32∨b=10∨b=40∨b=41)):cQ cur l=z0s cur++cQ [] l:=by
 rcases h with rfl | ⟨b,r,rfl,h⟩
 ·simp [cQ,z0s]
 ·simp only [cQ]
  split
  ·simp [z0s]
  ·rename_i h1
   split
   ·simp [z0s]
   ·rename_i a
    rcases h with h | h | h | h
    ·exact absurd (.inl h) h1
    ·exact absurd (.inr h) h1
    ·exact absurd (.inl h) a
    ·exact absurd (.inr h) a
theorem z8d (t:Bs):∀f i,t.size<=i+f->vV t f i=(cQ [] ((tx t).drop i)).map pL
 | f,i,g=>by
  by_cases h:i < t.size
  ·have d:=q2w h
   have hb:=cA h
   obtain ⟨f,rfl⟩:∃k,f=k+1:=⟨f - 1,by omega⟩
   by_cases h1:zG t i=32∨zG t i=10
   ·rw [q7z h g h1,d,cQ,if_pos (by rw [hb] at h1;exact h1.imp (aC (by decide)).1 (aC (by decide)).1),z8d t _ (i+1) (by omega)];rfl
   ·have h1':¬(t[i]=32∨t[i]=10):=fun h=>h1 (by rw [hb];exact h.imp (aC (by decide)).2 (aC (by decide)).2)
    by_cases b:zG t i=40∨zG t i=41
    ·rw [q0u h g h1 b,d,cQ,if_neg h1',if_pos (by rw [hb] at b;exact b.imp (aC (by decide)).1 (aC (by decide)).1),z8d t _ (i+1) (by omega),z5m,d];rfl
    ·rw [y5r h g h1 b]
     have n:=z9m h h1 b
     have m:=uR (Nat.le_of_lt h)
     rw [y5q [] (yR t i) (Nat.le_refl _),List.nil_append,z8d t _ (i+yR t i) (by omega),q3a (cur:=((tx t).drop i).take (yR t i)) ?_]
     ·have j:((tx t).drop i).take (yR t i)≠[]:=by
       rw [d];intro e
       obtain ⟨k,l⟩:∃k,yR t i=k+1:=⟨yR t i - 1,by omega⟩
       rw [l] at e;cases e
      rw [z0s,if_neg j,z5m];rfl
     ·by_cases J:i+yR t i < t.size
      ·have a:=y4o (fun c=> !y4t c) t t.size i (by omega) J
       refine .inr ⟨_,_,q2w J,?_⟩
       rw [show i+yL (fun c=> !y4t c) t t.size i=i+yR t i from rfl,cA J] at a
       simp only [y4t,Bool.not_eq_false',Bool.or_eq_true,decide_eq_true_eq] at a
       rcases a with ((a | a) | a) | a
       ·exact .inl ((aC (by decide)).1 a)
       ·exact .inr (.inl ((aC (by decide)).1 a))
       ·exact .inr (.inr (.inl ((aC (by decide)).1 a)))
       ·exact .inr (.inr (.inr ((aC (by decide)).1 a)))
      ·exact .inl (tx_end J)
  ·rw [q0s h,tx_end h];rfl
termination_by f=>f
theorem j0g {t:Bs} {pos:Nat}:∀j,j < yW t pos->yK (zG t (pos+j))=true∨zG t (pos+j)=39:=by
 intro j a
 unfold yW at a
 split at a
 ·rename_i b
  split at a
  ·by_cases h1:j < yL yK t t.size pos
   ·exact .inl (oM _ _ _ _ _ h1).2
   ·by_cases d:j=yL yK t t.size pos
    ·exact .inr (by rw [d];exact b)
    ·have c:=(oM zZ t t.size (pos+(yL yK t t.size pos+1)) (j - (yL yK t t.size pos+1)) (by omega)).2
     rw [show pos+(yL yK t t.size pos+1)+(j - (yL yK t t.size pos+1))=pos+j by omega] at c
     exact .inl (by simp [yK,c])
  ·exact .inl (oM _ _ _ _ _ a).2
 ·exact .inl (oM _ _ _ _ _ a).2
theorem y9w {t:Bs} {pos:Nat} {kd:Int} {k:Tok} (h:kI t pos kd=.ok k):(k.kind=5∨k.kind=kd)/\k.text=t.extract pos (pos+yW t pos):=by
 unfold kI at h
 split at h
 ·cases h
 ·simp only [Except.ok.injEq] at h
  subst h
  refine ⟨?_,rfl⟩
  simp only
  split
  ·exact .inl rfl
  ·exact .inr rfl
theorem q7m {t:Bs} {pos:Nat} {k:Tok} (h:zX t pos=.ok k) (a:k.kind=2∨k.kind=3):((k.kind=2/\qK (zG t pos)=true)∨(k.kind=3/\qQ (zG t pos)=true))/\k.text=t.extract pos (pos+yW t pos):=by
 unfold zX at h
 split at h
 ·unfold z1i at h
  split at h
  ·cases h
  ·split at h
   ·cases h
   ·simp only [Except.ok.injEq] at h;subst h;simp only at a;omega
 split at h
 ·rename_i O
  obtain ⟨h1,b⟩:=y9w h
  exact ⟨.inl ⟨by omega,O⟩,b⟩
 split at h
 ·rename_i O
  obtain ⟨h1,b⟩:=y9w h
  exact ⟨.inr ⟨by omega,O⟩,b⟩
 split at h
 ·obtain ⟨_,rfl⟩:=tC h;simp only at a;omega
 split at h
 ·obtain ⟨_,rfl⟩:=tC h;simp only at a;omega
 split at h
 ·obtain ⟨_,rfl⟩:=tC h;simp only at a;omega
 ·cases h
theorem j6g {s:Bs} {κ:Int} (d:kS s=κ) (h:κ=2∨κ=3):0 < s.size/\((κ=2/\qK (zG s 0)=true)∨(κ=3/\qQ (zG s 0)=true))/\∀j,j < s.size->yK (zG s j)=true∨zG s j=39:=by
 unfold kS at d
 split at d
 ·omega
 split at d
 ·rename_i k c
  split at d
  ·rename_i e
   unfold nX at c
   rw [gB] at c
   split at c
   ·cases c
   rename_i q hq
   split at c
   ·rename_i f
    split at c
    ·cases c
    rename_i k' hk'
    split at c
    ·cases c
    simp only [Except.ok.injEq,List.cons.injEq] at c
    obtain ⟨rfl,_⟩:=c
    obtain ⟨h1,g⟩:=q7m hk' (by omega)
    have i:(s.extract q (q+yW s q)).size=s.size:=by rw [<- g,e]
    rw [ByteArray.size_extract] at i
    have l:q=0:=by omega
    subst l
    refine ⟨f,?_,fun j m=>?_⟩
    ·rcases h1 with ⟨a,b⟩ | ⟨a,b⟩
     ·exact .inl ⟨by omega,b⟩
     ·exact .inr ⟨by omega,b⟩
    ·have:=j0g (t:=s) (pos:=0) j (by omega)
     rwa [Nat.zero_add] at this
   ·cases c
  ·omega
 ·omega
theorem q5c {s:Bs} (h:kS s=2∨kS s=3):0 < s.size/\((kS s=2/\qK (zG s 0)=true)∨(kS s=3/\qQ (zG s 0)=true))/\∀j,j < s.size->yK (zG s j)=true∨zG s j=39:=j6g rfl h
theorem j6z {s:Bs} (h:qE s=true):kS s=2:=by simpa [qE] using h
theorem j9s {s:Bs} (h:qC s=true):kS s=3:=by simpa [qC] using h
theorem q9b:∀(f n:Nat),∀b∈z4s f n,48<=b.toNat/\b.toNat<=57
 | 0,_,_,h=>by cases h
 | f+1,n,b,h=>by
  simp only [z4s] at h
  split at h
  ·simp only [List.mem_singleton] at h;subst h;simp [Nat.toUInt8,UInt8.toNat_ofNat'];omega
  ·rcases List.mem_cons.1 h with rfl | h
   ·simp [Nat.toUInt8,UInt8.toNat_ofNat'];omega
   ·exact q9b f _ b h
theorem q6n {s:Bs} (h:kK (s.extract 0 s.size) ⟨#[40,42]⟩=true):zG s 0=40:=by
 simp only [kK,baQ,decide_eq_true_eq] at h
 obtain ⟨h1,c⟩:=h
 have h1:2<=s.size:=by
  have d:(⟨#[40,42]⟩:Bs).size=2:=rfl
  rw [ByteArray.size_extract] at h1;omega
 have a:=congrArg (fun b:Bs=>zG b 0) c
 have e:zG (⟨#[40,42]⟩:Bs) 0=40:=by decide
 rw [e] at a
 rw [<- a]
 rw [cA (by omega),cA (by rw [ByteArray.size_extract,ByteArray.size_extract];have d:(⟨#[40,42]⟩:Bs).size=2:=rfl;omega)]
 simp [ByteArray.getElem_extract]
theorem q6k {s:Bs} (hb:xF (zG s 0)=false) (a:zG s 0≠40):aT s 0=.ok 0:=by
 have hr:yL xF s s.size 0=0:=by rw [xJ,if_neg (by simp [hb])]
 unfold aT
 rw [z1j,hr,if_neg (fun h=>a (q6n h))]
theorem x3h (s:Bs):∃q,aT s s.size=.ok q/\s.size<=q:=by
 have hr:yL xF s s.size s.size=0:=by rw [xJ,if_neg (by omega)]
 refine ⟨s.size,?_,Nat.le_refl _⟩
 unfold aT
 rw [z1j,hr,if_neg]
 ·rfl
 ·intro h
  have:=jI h
  have a:(⟨#[40,42]⟩:Bs).size=2:=rfl
  omega
theorem q7h {c:Nat} (h:qK c=true∨qQ c=true):xF c=false/\c≠40/\zZ c=false/\c≠126:=by
 simp only [qK,qQ,baQ,decide_eq_true_eq] at h
 refine ⟨?_,by omega,?_,by omega⟩
 ·simp only [xF,Bool.or_eq_false_iff,decide_eq_false_iff_not];omega
 ·simp only [zZ,Bool.and_eq_false_iff,decide_eq_false_iff_not];omega
def y3e (c:Nat):Int:=if qK c then 2 else 3
theorem q2v {s:Bs} (h:qK (zG s 0)=true∨qQ (zG s 0)=true):zX s 0=kI s 0 (y3e (zG s 0)):=by
 obtain ⟨_,_,a,b⟩:=q7h h
 unfold zX y3e
 rw [if_neg (by simp [a,b])]
 by_cases O:qK (zG s 0)=true
 ·rw [if_pos O,if_pos O]
 ·rw [if_neg O,if_neg O,if_pos (h.resolve_left O)]
theorem gI {s:Bs} (f:s.size<=24) (b:0 < s.size) (h:qK (zG s 0)=true∨qQ (zG s 0)=true) :
  kS s=if yW s 0=s.size then (if z0w s then 5 else y3e (zG s 0)) else 0:=by
 have hl:=y3o s 0 (by omega)
 obtain ⟨h1,d,_,_⟩:=q7h h
 have i:kI s 0 (y3e (zG s 0))=.ok ⟨if z0w (s.extract 0 (0+yW s 0)) then 5 else y3e (zG s 0),0,s.extract 0 (0+yW s 0),0⟩:=by
  unfold kI;rw [if_neg (by omega)]
 unfold kS
 rw [if_neg (by omega)]
 unfold nX
 rw [gB,q6k h1 d]
 simp only [if_pos b,q2v h,i]
 by_cases O:yW s 0=s.size
 ·have j:s.extract 0 (0+yW s 0)=s:=by rw [O,Nat.zero_add];simp
  rw [j,if_pos O]
  obtain ⟨q,hq,g⟩:=x3h s
  have:gB s s.size (0+s.size)=.ok []:=by
   rw [Nat.zero_add,show s.size=(s.size - 1)+1 by omega,gB,show s.size - 1+1=s.size by omega,hq]
   simp only [if_neg (show ¬q < s.size by omega)]
  rw [this]
  simp
 ·rw [if_neg O]
  have a:s.extract 0 (0+yW s 0)≠s:=fun e=>by
   have:=congrArg ByteArray.size e
   rw [ByteArray.size_extract] at this;omega
  cases gB s s.size (0+(s.extract 0 (0+yW s 0)).size) with
  | error c=>rfl
  | ok l=>
   cases l with
   | nil=>simp only [if_neg a]
   | cons k l=>rfl
theorem y4a {c:Nat} (h:qK c=true∨qQ c=true):yK c=true:=by
 unfold yK;rcases h with h | h <;> simp [h]
theorem q7x {s:Bs} (a:0 < s.size) (h:qK (zG s 0)=true∨qQ (zG s 0)=true):yL yK s s.size 0=xC s:=by
 rw [xJ,if_pos ⟨a,y4a h⟩];unfold xC;rw [Nat.zero_add];omega
theorem q2g {s:Bs} (b:0 < s.size) (h:qK (zG s 0)=true∨qQ (zG s 0)=true) :
  yW s 0=s.size↔(xC s=s.size∨(zG s (xC s)=39/\xC s+1≠s.size/\xC s+1+yL zZ s s.size (xC s+1)=s.size)):=by
 unfold yW
 rw [q7x b h,Nat.zero_add,Nat.zero_add]
 by_cases a:zG s (xC s)=39
 ·rw [if_pos a]
  have c:=sT (t:=s) (i:=xC s) (by omega)
  have hr:=kL zZ s s.size (xC s+1) (by omega)
  split <;> omega
 ·rw [if_neg a];omega
theorem q0r {s:Bs} {lo f:Nat} (h:∀c,lo<=c->c<=f->qK c=true∨qQ c=true) :
  z0c s lo f=true↔(0 < s.size/\s.size<=24/\lo<=zG s 0/\zG s 0<=f/\yW s 0=s.size):=by
 unfold z0c
 by_cases i:s.size < 1∨24 < s.size∨zG s 0 < lo∨f < zG s 0
 ·rw [if_pos i]
  refine ⟨fun g=>(by cases g),fun ⟨a,b,c,d,_⟩=>?_⟩
  omega
 ·rw [if_neg i]
  have hb:=h (zG s 0) (by omega) (by omega)
  rw [q2g (by omega) hb]
  by_cases h1:xC s=s.size
  ·rw [if_pos h1]
   exact ⟨fun _=>⟨by omega,by omega,by omega,by omega,.inl h1⟩,fun _=>rfl⟩
  ·rw [if_neg h1]
   by_cases e:zG s (xC s)≠39∨xC s+1=s.size
   ·rw [if_pos e]
    refine ⟨fun g=>(by cases g),fun ⟨_,_,_,_,g⟩=>?_⟩
    rcases g with g | ⟨g1,j,_⟩
    ·exact absurd g h1
    ·rcases e with e | e
     ·exact absurd g1 e
     ·exact absurd e j
   ·rw [if_neg e,decide_eq_true_eq]
    simp only [not_or,Decidable.not_not] at e
    exact ⟨fun g=>⟨by omega,by omega,by omega,by omega,.inr ⟨e.1,e.2,g⟩⟩,fun ⟨_,_,_,_,g⟩=>by rcases g with g | ⟨_,_,g⟩;exact absurd g h1;exact g⟩
theorem y3c (s:Bs):z0w s=oR wordsL s:=by
 unfold z0w wordsM
 have:∀l:List Bs,(yO (l.map (fun s=>(s,Value.int .i64 5))) s).isSome=oR l s:=by
  intro l
  induction l with
  | nil=>rfl
  | cons x l c=>
   simp only [List.map_cons,yO,z7i]
   by_cases a:s=x
   ·rw [if_pos a];simp [a]
   ·rw [if_neg a,c];have b:¬x=s:=fun e=>a e.symm
    simp [b]
 exact this wordsL
theorem q5n {s:Bs} (h:kS s=2∨kS s=3):s.size<=24:=by
 unfold kS at h
 by_cases a:24 < s.size
 ·rw [if_pos a] at h;omega
 ·omega
theorem x2u (s:Bs):z3d s=qE s:=by
 apply Bool.eq_iff_iff.2
 unfold z3d
 rw [baQ,q0r (fun c h1 a=>.inl (by simp [qK,h1,a])),<- y3c]
 constructor
 ·rintro ⟨⟨h1,a,e,f,g⟩,i⟩
  have O:qK (zG s 0)=true:=by simp [qK,e,f]
  simp only [qE,decide_eq_true_eq]
  rw [gI a h1 (.inl O),if_pos g,if_neg (by simpa using i),y3e,if_pos O]
 ·intro h
  have b:=j6z h
  obtain ⟨h1,a,_⟩:=q5c (.inl b)
  have d:=q5n (.inl b)
  have O:qK (zG s 0)=true:=by
   rcases a with ⟨_,a⟩ | ⟨a,_⟩
   ·exact a
   ·omega
  rw [gI d h1 (.inl O)] at b
  have hs':=O
  simp only [qK,baQ,decide_eq_true_eq] at hs'
  split at b
  ·rename_i hl
   refine ⟨⟨h1,d,hs'.1,hs'.2,hl⟩,?_⟩
   split at b
   ·cases b
   ·rename_i j;simpa using j
  ·cases b
theorem j2d {s:Bs} (h:z0w s=true):qK (zG s 0)=true:=by
 rw [y3c] at h
 have:=(z4z (l:=wordsL)).1 h
 simp only [wordsL,List.mem_cons,List.not_mem_nil,or_false] at this
 rcases this with rfl | rfl | rfl | rfl | rfl | rfl | rfl | rfl | rfl | rfl | rfl | rfl | rfl | rfl | rfl <;> decide
theorem j3a (s:Bs):conR s=qC s:=by
 apply Bool.eq_iff_iff.2
 unfold conR
 rw [q0r (fun c h1 a=>.inr (by simp [qQ,h1,a]))]
 have e:∀c,qQ c=true->qK c=false:=fun c h=>by
  simp only [qQ,baQ,decide_eq_true_eq] at h
  simp only [qK,Bool.and_eq_false_iff,decide_eq_false_iff_not];omega
 constructor
 ·rintro ⟨h1,a,f,i,j⟩
  have O:qQ (zG s 0)=true:=by simp [qQ,f,i]
  simp only [qC,decide_eq_true_eq]
  rw [gI a h1 (.inr O),if_pos j,if_neg (fun g=>by have:=j2d g;rw [e _ O] at this;cases this),y3e,if_neg (by rw [e _ O];decide)]
 ·intro h
  have d:=j9s h
  obtain ⟨h1,a,_⟩:=q5c (.inr d)
  have b:=q5n (.inr d)
  have O:qQ (zG s 0)=true:=by
   rcases a with ⟨a,_⟩ | ⟨_,a⟩
   ·omega
   ·exact a
  rw [gI b h1 (.inr O)] at d
  have hs':=O
  simp only [qQ,baQ,decide_eq_true_eq] at hs'
  split at d
  ·rename_i hl;exact ⟨h1,b,hs'.1,hs'.2,hl⟩
  ·cases d
mutual
theorem z7s:∀(e:Ex) (most:Nat),(jU e most<=most->qS e (most:Int)=(false,(most:Int) - (jU e most:Int)))/\(¬jU e most<=most->(qS e (most:Int)).1=true)
 | .mk k nm s args arms,most=>by
  simp only [jU,qS]
  by_cases f:most=0
  ·subst f
   rw [z1n (by omega),sA (by omega)]
   exact ⟨fun h=>by omega,fun _=>by rw [if_pos (by omega)]⟩
  ·rw [if_neg (by omega)]
   have h1:=meass_size args most 1 (by omega)
   have a:=sizeRs_le args most 1 (by omega) (by omega)
   rw [show ((most:Int) - 1)=(most:Int) - ((1:Nat):Int) by omega]
   by_cases O:sizeRs args most 1<=most
   ·rw [h1.1 O]
    exact measa_size arms most _ O
   ·rw [sA O]
    refine ⟨fun g=>absurd g O,fun _=>?_⟩
    have:=h1.2 O
    cases N:meass args ((most:Int) - ((1:Nat):Int)) with
    | mk b q=>rw [N] at this;simp only at this;subst this;rfl
theorem meass_size:∀(es:List Ex) (most n:Nat),n<=most->(sizeRs es most n<=most->meass es ((most:Int) - (n:Int))=(false,(most:Int) - (sizeRs es most n:Int)))/\(¬sizeRs es most n<=most->(meass es ((most:Int) - (n:Int))).1=true)
 | [],most,n,h=>⟨fun _=>rfl,fun g=>absurd h g⟩
 | e::es,most,n,h=>by
  simp only [sizeRs,meass,if_pos h]
  have h1:=z7s e (most - n)
  have hl:=mG e (most - n)
  rw [show ((most:Int) - (n:Int))=((most - n:Nat):Int) by omega]
  by_cases O:jU e (most - n)<=most - n
  ·rw [h1.1 O]
   have a:=meass_size es most (n+jU e (most - n)) (by omega)
   rw [show ((most:Int) - ((n+jU e (most - n):Nat):Int))=((most - n:Nat):Int) - (jU e (most - n):Int) by omega] at a
   exact a
  ·rw [z1n (by omega)]
   refine ⟨fun g=>by omega,fun _=>?_⟩
   have:=h1.2 O
   cases N:qS e ((most - n:Nat):Int) with
   | mk b q=>rw [N] at this;simp only at this;subst this;rfl
theorem measa_size:∀(es:List Arm) (most n:Nat),n<=most->(sizeAr es most n<=most->measa es ((most:Int) - (n:Int))=(false,(most:Int) - (sizeAr es most n:Int)))/\(¬sizeAr es most n<=most->(measa es ((most:Int) - (n:Int))).1=true)
 | [],most,n,h=>⟨fun _=>rfl,fun g=>absurd h g⟩
 | .mk c vs e::es,most,n,h=>by
  simp only [sizeAr,measa,if_pos h]
  by_cases d:16 < vs.length
  ·rw [if_pos d,if_pos d]
   exact ⟨fun g=>by omega,fun _=>rfl⟩
  rw [if_neg d,if_neg d]
  have h1:=z7s e (most - n)
  have hl:=mG e (most - n)
  rw [show ((most:Int) - (n:Int))=((most - n:Nat):Int) by omega]
  by_cases O:jU e (most - n)<=most - n
  ·rw [h1.1 O]
   have a:=measa_size es most (n+jU e (most - n)) (by omega)
   rw [show ((most:Int) - ((n+jU e (most - n):Nat):Int))=((most - n:Nat):Int) - (jU e (most - n):Int) by omega] at a
   exact a
  ·rw [sA (by omega)]
   refine ⟨fun g=>by omega,fun _=>?_⟩
   have:=h1.2 O
   cases N:qS e ((most - n:Nat):Int) with
   | mk b q=>rw [N] at this;simp only at this;subst this;rfl
end
theorem z9a:∀(fs:List Fun) (n:Nat),6000 < n->dR fs n=true
 | [],n,h=>by simpa [dR] using h
 | f::fs,n,h=>by
  simp only [dR,if_neg (show ¬n<=6000 by omega)]
  split
  ·rfl
  ·exact z9a fs n h
theorem q5v:∀(fs:List Fun) (n:Nat),n<=6000->aI fs ((6000:Int) - (n:Int))=dR fs n
 | [],n,h=>by simp only [aI,dR];exact (decide_eq_false (by omega)).symm
 | f::fs,n,h=>by
  simp only [aI,dR,if_pos h]
  have h1:=z7s f.body (6000 - n)
  have hl:=mG f.body (6000 - n)
  rw [show ((6000:Int) - (n:Int))=((6000 - n:Nat):Int) by omega]
  by_cases a:16 < f.params.length
  ·rw [if_pos a];simp [a]
  ·rw [if_neg a]
   by_cases O:jU f.body (6000 - n)<=6000 - n
   ·rw [h1.1 O]
    have b:=q5v fs (n+jU f.body (6000 - n)) (by omega)
    rw [show ((6000:Int) - ((n+jU f.body (6000 - n):Nat):Int))=((6000 - n:Nat):Int) - (jU f.body (6000 - n):Int) by omega] at b
    rw [b];simp [a]
   ·rw [z9a fs _ (by omega),h1.2 O];simp
theorem q5s (c:Core):oX c=xS c:=by
 unfold oX xS
 have:=q5v c.funs 0 (by omega)
 rw [<- this];rfl
theorem z8y {α:Type}:∀(a b:List (Bs×α)) (n:Bs),zN (a++b) n=match zN a n with | some v=>some v | none=>zN b n
 | [],b,n=>rfl
 | (k,x)::a,b,n=>by
  simp only [List.cons_append,zN]
  by_cases h:n=k
  ·rw [if_pos h,if_pos h]
  ·rw [if_neg h,if_neg h];exact z8y a b n
theorem z3l:∀(l:List Data) (n:Bs),zN (vB Data.name id l) n=vO l n
 | [],n=>rfl
 | d::l,n=>by
  simp only [vB,List.map_cons,zN,vO]
  by_cases h:n=d.name
  ·rw [if_pos h,if_pos h.symm];rfl
  ·rw [if_neg h,if_neg (fun e=>h e.symm)];exact z3l l n
theorem z3n (ds:List Data) (n:Bs):zN (vB Data.name id (truthsD::ds)) n=yD ds n:=by
 have h:truthsD.name=vS:=rfl
 rw [z3l,vO,yD,h]
 by_cases a:n=vS
 ·rw [if_pos a.symm,if_pos a]
 ·rw [if_neg (fun e=>a e.symm),if_neg a]
theorem y7x {β:Type} (f:Con->β):∀(l:List Con) (n:Bs),zN (vB Con.name f l) n=(xN l n).map f
 | [],n=>rfl
 | x::l,n=>by
  simp only [vB,List.map_cons,zN,xN]
  by_cases h:n=x.name
  ·rw [if_pos h,if_pos h.symm];rfl
  ·rw [if_neg h,if_neg (fun e=>h e.symm)];exact y7x f l n
theorem z1f:∀(l:List Data) (n:Bs),zN (uW l) n=wQ l n
 | [],n=>rfl
 | d::l,n=>by
  simp only [uW,List.map_cons,List.flatten_cons,wQ]
  rw [z8y,y7x]
  cases xN d.cons n with
  | some x=>rfl
  | none=>exact z1f l n
theorem q5e:∀(l:List Param) (n:Bs),zN (vB Param.name Param.type l) n=z7j l n
 | [],n=>rfl
 | d::l,n=>by
  simp only [vB,List.map_cons,zN,z7j]
  by_cases h:n=d.name
  ·rw [if_pos h,if_pos h.symm]
  ·rw [if_neg h,if_neg (fun e=>h e.symm)];exact q5e l n
theorem y8v:∀(l:List Fun) (n:Bs) (k:Nat),(match uZ l n k with | some j=>k<=j/\l[j - k]? = zN (vB Fun.name id l) n/\j - k < l.length | none=>zN (vB Fun.name id l) n=none)
 | [],n,k=>rfl
 | f::l,n,k=>by
  simp only [vB,List.map_cons,zN,uZ]
  by_cases h:n=f.name
  ·rw [if_pos h,if_pos h.symm]
   simp
  ·rw [if_neg h,if_neg (fun e=>h e.symm)]
   have a:=y8v l n (k+1)
   cases b:uZ l n (k+1) with
   | none=>rw [b] at a;exact a
   | some j=>
    rw [b] at a
    simp only at a ⊢
    obtain ⟨h1,c,d⟩:=a
    refine ⟨by omega,?_,by simp only [lcQ];omega⟩
    rw [show j - k=(j - (k+1))+1 by omega,List.getElem?_cons_succ];exact c
theorem j6c (l:List Fun) (n:Bs):(match dZ l n with | some j=>l[j]? | none=>none)=zN (vB Fun.name id l) n:=by
 have:=y8v l n 0
 unfold dZ
 cases a:uZ l n 0 with
 | none=>rw [a] at this;exact this.symm
 | some j=>rw [a] at this;exact this.2.1
theorem j4d (dn:Bs):∀{l:List Con} {m:List (Bs×Maker)},(∀x∈l,qC x.name=true/\zN m x.name=none)->(l.map Con.name).Nodup->(xL dn true m l).1=true
 | [],m,_,_=>rfl
 | x::l,m,h,a=>by
  have b:=h x msQ
  simp only [xL,b.1,Bool.and_self,if_true,b.2,Option.isNone_none,nT b.2]
  simp only [List.map_cons,List.nodup_cons] at a
  refine j4d dn (fun y c=>⟨(h y (mcQ _ c)).1,?_⟩) a.2
  rw [aH (h y (mcQ _ c)).2]
  exact lget_single.2 (fun e=>a.1 (by rw [<- e];exact List.mem_map_of_mem c))
theorem j4g:∀{l:List Param} {m:List (Bs×Bs)},(∀f∈l,qE f.name=true/\zN m f.name=none)->(l.map Param.name).Nodup->(sO true m l).1=true
 | [],m,_,_=>rfl
 | x::l,m,h,a=>by
  have b:=h x msQ
  simp only [sO,b.1,Bool.and_self,if_true,b.2,Option.isNone_none,nT b.2]
  simp only [List.map_cons,List.nodup_cons] at a
  refine j4g (fun y c=>⟨(h y (mcQ _ c)).1,?_⟩) a.2
  rw [aH (h y (mcQ _ c)).2]
  exact lget_single.2 (fun e=>a.1 (by rw [<- e];exact List.mem_map_of_mem c))
theorem j5w {β α:Type} {key:β->Bs} {val:β->α} {l:List β} {n:Bs} (h:n∉l.map key):zN (vB key val l) n=none:=by
 cases a:zN (vB key val l) n with
 | none=>rfl
 | some v=>obtain ⟨x,b,e,_⟩:=xH a;exact absurd (e▸List.mem_map_of_mem b) h
theorem j4e:∀{l:List Data} {ds:List (Bs×Data)} {m:List (Bs×Maker)},
  (∀d∈l,qC d.name=true/\d.name≠yA/\zN ds d.name=none/\0 < d.cons.length/\∀x∈d.cons,qC x.name=true/\zN m x.name=none)->(l.map Data.name).Nodup ->
  ((l.map fun d=>d.cons.map Con.name).flatten).Nodup->(sM true ds m l).1=true
 | [],ds,m,_,_,_=>rfl
 | d::l,ds,m,h,a,k=>by
  obtain ⟨h1,g,i,p,q⟩:=h d msQ
  simp only [List.map_cons,List.nodup_cons] at a
  simp only [List.map_cons,List.flatten_cons] at k
  have hc':=zU k
  have b:nW true ds d=true:=by simp [nW,h1,g,i,p]
  have r:pM true ds d=ds++[(d.name,d)]:=by
   unfold pM
   rw [if_pos (by simp [h1,g])]
   exact nT i
  simp only [sM,b,r]
  have j:=j4d d.name q hc'.1
  obtain ⟨_,o,_,_⟩:=z1r d.name j
  rw [j,o]
  refine j4e (fun e J=>?_) a.2 hc'.2.1
  obtain ⟨s,t,u,v,n⟩:=h e (mcQ _ J)
  refine ⟨s,t,?_,v,fun x c=>⟨(n x c).1,?_⟩⟩
  ·rw [aH u]
   exact lget_single.2 (fun e'=>a.1 (by rw [<- e'];exact List.mem_map_of_mem J))
  ·rw [aH (n x c).2]
   refine j5w (fun N=>hc'.2.2 _ N ?_)
   exact List.mem_flatten.2 ⟨_,List.mem_map_of_mem (f:=fun d:Data=>d.cons.map Con.name) J,List.mem_map_of_mem c⟩
structure Tabled (c:Core):Prop where
 dN:∀d∈c.datas,qC d.name=true/\d.name≠yA/\d.name≠vS/\0 < d.cons.length/\∀x∈d.cons,qC x.name=true/\x.name≠oN/\x.name≠z1l
 dU:(c.datas.map Data.name).Nodup
 cU:((c.datas.map fun d=>d.cons.map Con.name).flatten).Nodup
 fN:∀f∈c.funs,qE f.name=true
 fU:(c.funs.map Fun.name).Nodup
 iN:∀p∈c.inputs,qE p.name=true
 iU:(c.inputs.map Param.name).Nodup
theorem uN:truthsD.cons.map Con.name=[oN,z1l]:=rfl
theorem tL {c:Core} (h:Tabled c):wV c=true:=by
 unfold wV isP
 have a:(dsP c).1=true:=by
  unfold dsP
  refine j4e (fun d a=>?_) ?_ ?_
  ·rcases List.mem_cons.1 a with rfl | a
   ·refine ⟨by decide,by decide,rfl,by decide,fun x g=>⟨?_,rfl⟩⟩
    simp only [truthsD,List.mem_cons,List.not_mem_nil,or_false] at g
    rcases g with rfl | rfl <;> decide
   ·obtain ⟨h1,k,s,l,o⟩:=h.dN d a
    exact ⟨h1,k,rfl,l,fun x g=>⟨(o x g).1,rfl⟩⟩
  ·simp only [List.map_cons,List.nodup_cons]
   refine ⟨fun N=>?_,h.dU⟩
   obtain ⟨d,a,e⟩:=List.mem_map.1 N
   exact (h.dN d a).2.2.1 e
  ·simp only [List.map_cons,List.flatten_cons]
   rw [List.nodup_append]
   refine ⟨by rw [uN];decide,h.cU,fun n b m N e=>?_⟩
   subst e
   obtain ⟨ns,j,g⟩:=List.mem_flatten.1 N
   obtain ⟨d,a,rfl⟩:=List.mem_map.1 j
   obtain ⟨y,r,rfl⟩:=List.mem_map.1 g
   have:=((h.dN d a).2.2.2.2 y r).2
   rw [uN] at b
   simp only [List.mem_cons,List.not_mem_nil,or_false] at b
   rcases b with b | b
   ·exact this.1 b
   ·exact this.2 b
 have i:(fsP c).1=true:=by unfold fsP;rw [a];exact j4f (fun f i=>⟨h.fN f i,rfl⟩) h.fU
 rw [i]
 exact j4g (fun p q=>⟨h.iN p q,rfl⟩) h.iU
theorem q7k:∀{l:List Data} {ok:Bool} {ds:List (Bs×Data)} {m:List (Bs×Maker)},(sM ok ds m l).1=true->∀d∈l,0 < d.cons.length
 | [],_,_,_,_,_,a=>by cases a
 | e::l,ok,ds,m,h,d,a=>by
  simp only [sM] at h
  rcases List.mem_cons.1 a with rfl | a
  ·have g1:=(z1r _ (z1s h).1).1
   simp only [nW,baQ,decide_eq_true_eq] at g1
   exact g1.2
  ·exact q7k h d a
theorem oO {c:Core} (h:wV c=true):Tabled c/\(zH c).datas=vB Data.name id (truthsD::c.datas)/\(zH c).cons=uW (truthsD::c.datas)/\(zH c).funs=vB Fun.name id c.funs/\(zH c).inputs=vB Param.name Param.type c.inputs:=by
 obtain ⟨s,i2,i3,i4⟩:=tK (show (sO (fsP c).1 [] c.inputs).1=true from h)
 obtain ⟨l,m,n,o⟩:=tJ (show (sN (dsP c).1 [] c.funs).1=true from s)
 have k:=(show (sM true [] [] (truthsD::c.datas)).1=true from l)
 obtain ⟨_,d2,d3,d4,i,j⟩:=z1s k
 have a:=q7k k
 simp only [List.map_cons,List.nodup_cons] at i
 simp only [List.map_cons,List.flatten_cons] at j
 have d6':=zU j
 refine ⟨{ dN:=fun d b=>?_,dU:=i.2,cU:=d6'.2.1,fN:=fun f q=>(n f q).1,fU:=o,iN:=fun p r=>(i3 p r).1,iU:=i4 },d2,d3,m,i2⟩
 obtain ⟨t,u,_,_,v⟩:=d4 d (mcQ _ b)
 have g:∀x∈d.cons,x.name∉[oN,z1l]:=fun x g N=>d6'.2.2 x.name (by rw [uN];exact N)
  (List.mem_flatten.2 ⟨_,List.mem_map_of_mem (f:=fun d:Data=>d.cons.map Con.name) b,List.mem_map_of_mem g⟩)
 refine ⟨t,u,fun e=>i.1 (by rw [show truthsD.name=d.name from e.symm];exact List.mem_map_of_mem b),a d (mcQ _ b),fun x N=>⟨(v x N).1,fun e=>?_,fun e=>?_⟩⟩
 ·exact g x N (by rw [e];simp)
 ·exact g x N (by rw [e];simp)
theorem y7z (ds:List Data):∀{l:List Con} {seen:List Bs},uX ds l seen=true↔(∀x∈l,qC x.name=true/\x.name∉seen/\x.fields.all (jH ds)=true)/\(l.map Con.name).Nodup
 | [],seen=>by simp [uX]
 | x::l,seen=>by
  simp only [uX,baQ,y7z ds (l:=l),j3a,Bool.not_eq_true',List.map_cons,List.nodup_cons,List.mem_cons]
  have O:oR seen x.name=false↔x.name∉seen:=by rw [<- z4z (l:=seen)];simp
  rw [O]
  constructor
  ·rintro ⟨⟨⟨h1,f⟩,h⟩,i,j⟩
   refine ⟨fun y d=>?_,fun N=>?_,j⟩
   ·rcases d with rfl | d
    ·exact ⟨h1,f,h⟩
    ·obtain ⟨a,b,c⟩:=i y d
     exact ⟨a,fun g=>b (by simp [g]),c⟩
   ·obtain ⟨y,d,e⟩:=List.mem_map.1 N
    exact (i y d).2.1 (by simp [e])
  ·rintro ⟨h1,f,h⟩
   obtain ⟨a,b,c⟩:=h1 x (.inl rfl)
   refine ⟨⟨⟨a,b⟩,c⟩,fun y d=>?_,h⟩
   obtain ⟨a',b',c'⟩:=h1 y (.inr d)
   refine ⟨a',fun g=>?_,c'⟩
   rcases List.mem_append.1 g with g | g
   ·exact b' g
   ·simp only [List.mem_cons,List.not_mem_nil,or_false] at g
    exact f (by rw [<- g];exact List.mem_map_of_mem d)
theorem z3o (ds:List Data):∀{l:List Data} {names cons:List Bs},cB ds l names cons=true ↔
  (∀d∈l,qC d.name=true/\d.name∉names/\0 < d.cons.length/\∀x∈d.cons,qC x.name=true/\x.name∉cons/\x.fields.all (jH ds)=true)/\(l.map Data.name).Nodup/\((l.map fun d=>d.cons.map Con.name).flatten).Nodup
 | [],names,cons=>by simp [cB]
 | d::l,names,cons=>by
  simp only [cB,baQ,z3o ds (l:=l),y7z,j3a,Bool.not_eq_true',List.map_cons,List.nodup_cons,List.mem_cons,List.flatten_cons,decide_eq_true_eq]
  have O:oR names d.name=false↔d.name∉names:=by rw [<- z4z (l:=names)];simp
  rw [O,List.nodup_append]
  constructor
  ·rintro ⟨⟨⟨⟨h1,j⟩,r⟩,o,p⟩,i,s,t⟩
   refine ⟨fun e J=>?_,⟨fun N=>?_,s⟩,p,t,fun n u m N e=>?_⟩
   ·rcases J with rfl | J
    ·exact ⟨h1,j,by omega,o⟩
    ·obtain ⟨a,b,c,k⟩:=i e J
     exact ⟨a,fun g=>b (by simp [g]),c,fun x h=>⟨(k x h).1,fun g=>(k x h).2.1 (by simp [g]),(k x h).2.2⟩⟩
   ·obtain ⟨e,J,ee⟩:=List.mem_map.1 N
    exact (i e J).2.1 (by simp [ee])
   ·subst e
    obtain ⟨ns,q,h⟩:=List.mem_flatten.1 N
    obtain ⟨e,J,rfl⟩:=List.mem_map.1 q
    obtain ⟨y,v,rfl⟩:=List.mem_map.1 h
    exact ((i e J).2.2.2 y v).2.1 (List.mem_append.2 (.inr u))
  ·rintro ⟨h1,⟨j,r⟩,o,p,i⟩
   obtain ⟨a,b,c,k⟩:=h1 d (.inl rfl)
   refine ⟨⟨⟨⟨a,b⟩,by omega⟩,k,o⟩,fun e J=>?_,r,p⟩
   obtain ⟨a',b',c',k'⟩:=h1 e (.inr J)
   refine ⟨a',fun g=>?_,c',fun x h=>⟨(k' x h).1,fun g=>?_,(k' x h).2.2⟩⟩
   ·rcases List.mem_append.1 g with g | g
    ·exact b' g
    ·simp only [List.mem_cons,List.not_mem_nil,or_false] at g
     exact j (by rw [<- g];exact List.mem_map_of_mem J)
   ·rcases List.mem_append.1 g with g | g
    ·exact (k' x h).2.1 g
    ·exact i _ g _ (List.mem_flatten.2 ⟨_,List.mem_map_of_mem (f:=fun d:Data=>d.cons.map Con.name) J,List.mem_map_of_mem h⟩) rfl
def aV (e:Ex):Prop:=(e.kind≠7/\0 < e.arms.length)∨(e.kind≠1/\e.num≠0)
def tyR (c:Core) (e:Ex) (vars:List Param):Option (List Bs×Bs)->Bs×Bool
 | none=>noT
 | some w=>if w.1=(typesR c e.args vars).1 then (w.2,true) else noT
theorem dK (c:Core) (e:Ex) (vars:List Param):zQ c e vars =
  if (e.kind≠7/\0 < e.arms.length)∨(e.kind≠1/\e.num≠0) then noT
  else if e.kind=1 then (yA,decide (e.name=sNo)&&decide (e.args.length=0))
  else if e.kind=2 then (match dQ vars e.name with | some t=>(t,decide (e.args.length=0)) | none=>noT)
  else if e.kind=3 then (match z7j c.inputs e.name with | some t=>(t,decide (e.args.length=0)) | none=>noT)
  else if e.kind=6 then letR c e.name e.args vars
  else if e.kind=7 then (if e.args.length≠1∨e.name≠sNo then noT
   else if (firstR c e.args vars).2=false then noT
   else match yD c.datas (firstR c e.args vars).1 with
    | none=>noT
    | some d=>if d.cons.length≠e.arms.length then noT else armsR c e.arms d.cons true sNo vars)
  else if (typesR c e.args vars).2=false then noT
  else tyR c e vars (wG c e.kind e.name):=by cases e;rfl
def mW (c:Core) (e:Ex) (vars:List Param):Bs×Bool :=
 if e.args.length≠1∨e.name≠sNo then noT
 else if (firstR c e.args vars).2=false then noT
 else match yD c.datas (firstR c e.args vars).1 with
  | none=>noT
  | some d=>if d.cons.length≠e.arms.length then noT else armsR c e.arms d.cons true sNo vars
section
variable {c:Core} {e:Ex} {vars:List Param}
theorem y5k (h:aV e):zQ c e vars=noT:=by rw [dK];exact if_pos h
theorem j4l (O:¬aV e) (h:e.kind=1):zQ c e vars=(yA,decide (e.name=sNo)&&decide (e.args.length=0)):=by rw [dK,if_neg (show ¬((e.kind≠7/\0 < e.arms.length)∨(e.kind≠1/\e.num≠0)) from O),if_pos h]
theorem j4m (O:¬aV e) (h:e.kind=2):zQ c e vars=(match dQ vars e.name with | some t=>(t,decide (e.args.length=0)) | none=>noT):=by
 rw [dK,if_neg (show ¬((e.kind≠7/\0 < e.arms.length)∨(e.kind≠1/\e.num≠0)) from O),if_neg (by omega),if_pos h]
theorem j4n (O:¬aV e) (h:e.kind=3):zQ c e vars=(match z7j c.inputs e.name with | some t=>(t,decide (e.args.length=0)) | none=>noT):=by
 rw [dK,if_neg (show ¬((e.kind≠7/\0 < e.arms.length)∨(e.kind≠1/\e.num≠0)) from O),if_neg (by omega),if_neg (by omega),if_pos h]
theorem z6d (O:¬aV e) (h:e.kind=6):zQ c e vars=letR c e.name e.args vars:=by
 rw [dK,if_neg (show ¬((e.kind≠7/\0 < e.arms.length)∨(e.kind≠1/\e.num≠0)) from O),if_neg (by omega),if_neg (by omega),if_neg (by omega),if_pos h]
theorem typeR_7 (O:¬aV e) (h:e.kind=7):zQ c e vars=mW c e vars:=by
 rw [dK,if_neg (show ¬((e.kind≠7/\0 < e.arms.length)∨(e.kind≠1/\e.num≠0)) from O),if_neg (by omega),if_neg (by omega),if_neg (by omega),if_neg (by omega),if_pos h];rfl
theorem q2x (O:¬aV e) (h1:¬e.kind=1) (a:¬e.kind=2) (b:¬e.kind=3) (d:¬e.kind=6) (f:¬e.kind=7) :
  zQ c e vars=if (typesR c e.args vars).2=false then noT else tyR c e vars (wG c e.kind e.name):=by
 rw [dK,if_neg (show ¬((e.kind≠7/\0 < e.arms.length)∨(e.kind≠1/\e.num≠0)) from O),if_neg h1,if_neg a,if_neg b,if_neg d,if_neg f]
theorem j8j (O:¬aV e) (h1:¬e.kind=1) (a:¬e.kind=2) (b:¬e.kind=3) (d:¬e.kind=6) (f:¬e.kind=7) (h:(typesR c e.args vars).2=false):zQ c e vars=noT:=by
 rw [q2x O h1 a b d f,if_pos h]
theorem uO (O:¬aV e) (h1:¬e.kind=1) (a:¬e.kind=2) (b:¬e.kind=3) (d:¬e.kind=6) (f:¬e.kind=7) (h:wG c e.kind e.name=none):zQ c e vars=noT:=by
 rw [q2x O h1 a b d f,h];split <;> rfl
theorem z4a (O:¬aV e) (h1:¬e.kind=1) (b:¬e.kind=2) (d:¬e.kind=3) (f:¬e.kind=6) (g:¬e.kind=7) {wl ts:List Bs} {o:Bs} (h:wG c e.kind e.name=some (wl,o)) (a:typesR c e.args vars=(ts,true)):zQ c e vars=if wl=ts then (o,true) else noT:=by
 rw [q2x O h1 b d f g,h,a,if_neg (by simp)];simp only [tyR,a]
theorem want_4 (h:e.kind=4):wG c e.kind e.name=(nH c.datas e.name).map fun m=>(m.con.fields,m.data):=by rw [wG,if_pos h]
theorem want_5 (h:e.kind=5):wG c e.kind e.name=(match dZ c.funs e.name with | none=>none | some i=>(c.funs[i]?).map fun f=>(f.params.map Param.type,f.result)):=by rw [wG,if_neg (by omega),if_pos h];rfl
theorem q2z (h:e.kind=8):wG c e.kind e.name=(opR e.name).map fun t=>([yA,yA],t):=by rw [wG,if_neg (by omega),if_neg (by omega),if_pos h]
theorem want_no (a:¬e.kind=4) (b:¬e.kind=5) (d:¬e.kind=8):wG c e.kind e.name=none:=by rw [wG,if_neg a,if_neg b,if_neg d]
theorem letR_no {n:Bs} {l:List Ex} (h:¬l.length=2):letR c n l vars=noT:=by
 cases l with
 | nil=>rfl
 | cons a l=>simp only [letR];rw [if_pos (.inr (by simp only [lcQ] at h;omega))]
theorem pair_of {α:Type} {l:List α} (h:l.length=2) {x y:α} (b:l[0]? = some x) (c:l[1]? = some y):l=[x,y]:=by
 have a:l=x::l.drop 1:=zA b
 have h1:l.drop 1=y::l.drop 2:=zA c
 exact a.trans (by rw [h1,List.drop_of_length_le (by omega)])
theorem q1y {α:Type} {l:List α} {x:α} (a:l[0]? = some x):l=x::l.drop 1:=zA a
theorem j0b {n:Bs} {l:List Ex} {x:Ex} (a:l[0]? = some x) (h:(zQ c x vars).2=false):letR c n l vars=noT:=by
 rw [q1y a];simp only [letR];rw [if_pos (.inl h)]
theorem y3i {n:Bs} {l:List Ex} {x y:Ex} (h:l.length=2) (a:l[0]? = some x) (b:l[1]? = some y) (h1:(zQ c x vars).2=true):letR c n l vars=zQ c y (vars++[⟨n,(zQ c x vars).1⟩]):=by
 rw [pair_of h a b];simp only [letR,firstR];rw [if_neg (by simp [h1])]
theorem z9k (x:Ex) (xs:List Ex):typesR c (x::xs) vars=if (zQ c x vars).2=false then ([],false) else ((zQ c x vars).1::(typesR c xs vars).1,(typesR c xs vars).2):=rfl
theorem nD (a:Arm) (az:List Arm) (x:Con) (cs:List Con) (first:Bool) (out:Bs):armsR c (a::az) (x::cs) first out vars =
  if a.con≠x.name∨a.vars.length≠x.fields.length then noT
  else if (zQ c a.body (vars++jF a.vars x.fields)).2=false∨(first=false/\(zQ c a.body (vars++jF a.vars x.fields)).1≠out) then noT
  else armsR c az cs false (zQ c a.body (vars++jF a.vars x.fields)).1 vars:=by cases a;rfl
theorem q4a (h:e.args.length≠1∨e.name≠sNo):mW c e vars=noT:=if_pos h
theorem z6o {x:Ex} (h:¬(e.args.length≠1∨e.name≠sNo)) (f:e.args[0]? = some x) (h1:(zQ c x vars).2=false∨(yD c.datas (zQ c x vars).1).isSome=false∨((yD c.datas (zQ c x vars).1).getD nL).cons.length≠e.arms.length):mW c e vars=noT:=by
 have b:firstR c e.args vars=zQ c x vars:=by rw [q1y f];rfl
 unfold mW
 rw [if_neg h,b]
 by_cases g:(zQ c x vars).2=false
 ·rw [if_pos g]
 ·rw [if_neg g]
  have g:=h1.resolve_left g
  cases a:yD c.datas (zQ c x vars).1 with
  | none=>rfl
  | some d=>
   rw [a] at g
   exact if_pos (g.resolve_left (by simp))
theorem j9p {x:Ex} (h:¬(e.args.length≠1∨e.name≠sNo)) (j:e.args[0]? = some x) (h1:(zQ c x vars).2=true) (a:(yD c.datas (zQ c x vars).1).isSome=true) (b:((yD c.datas (zQ c x vars).1).getD nL).cons.length=e.arms.length) :
  mW c e vars=armsR c e.arms ((yD c.datas (zQ c x vars).1).getD nL).cons true sNo vars:=by
 have i:firstR c e.args vars=zQ c x vars:=by rw [q1y j];rfl
 unfold mW
 rw [if_neg h,i,if_neg (by simp [h1])]
 cases f:yD c.datas (zQ c x vars).1 with
 | none=>rw [f] at a;cases a
 | some d=>
  rw [f] at b
  exact if_neg (fun g=>g b)
end
theorem q7p {vs fs:List Bs} {k:Nat} {v f:Bs} (b:vs[k]? = some v) (a:fs[k]? = some f):jF (vs.take (k+1)) (fs.take (k+1))=jF (vs.take k) (fs.take k)++[⟨v,f⟩]:=by
 have h1:=(List.getElem?_eq_some_iff.1 b).1
 have c:=(List.getElem?_eq_some_iff.1 a).1
 rw [xD b,xD a]
 unfold jF
 rw [List.zip_append (by simp only [List.length_take];omega)]
 simp
theorem q4v {l:List Fun} {n:Bs} {j:Nat} (h:dZ l n=some j):j < l.length:=by
 have:∀(l:List Fun) (k:Nat),uZ l n k=some j->k<=j/\j < k+l.length:=by
  intro l
  induction l with
  | nil=>intro k h;cases h
  | cons f l a=>
   intro k h
   simp only [uZ] at h
   split at h
   ·cases h;simp
   ·have:=a _ h;simp only [lcQ];omega
 have:=this l 0 h
 omega
theorem z8u {fs:List Fun} {n:Bs} (h:¬aF fs n < 0):∃j,dZ fs n=some j:=by
 unfold aF at h
 cases a:dZ fs n with
 | none=>rw [a] at h;exact absurd (by decide) h
 | some j=>exact ⟨j,rfl⟩
theorem y0l:∀{es:List Ex} {x:Ex},x∈es->(zP x).length<=(bindPs es).length
 | e::es,x,h=>by
  simp only [bindPs,laQ]
  rcases List.mem_cons.1 h with rfl | h
  ·omega
  ·have:=y0l h;omega
theorem y0k:∀{es:List Arm} {a:Arm},a∈es->a.vars.length+(zP a.body).length<=(bindPa es).length
 | e::es,x,h=>by
  rw [qA]
  simp only [laQ]
  rcases List.mem_cons.1 h with rfl | h
  ·omega
  ·have:=y0k h;omega
theorem sS {e x:Ex} (h:x∈e.args):(zP x).length+(if e.kind=6 then 1 else 0)<=(zP e).length:=by
 have:=y0l h
 rw [kY e]
 simp only [laQ]
 split <;> simp only [lcQ,lnQ] <;> omega
theorem q3u {e:Ex} {a:Arm} (h:a∈e.arms):a.vars.length+(zP a.body).length<=(zP e).length:=by
 have:=y0k h
 rw [kY e]
 simp only [laQ];omega
def Lim (c:Core):Prop:=c.datas.length<=1000/\∀f∈c.funs,f.params.length<=1000
end Go.Sw
