import Derived.Test.YtgkhcfjooiekkaaGreatDoorX14
set_option linter.unusedVariables false
set_option linter.unusedSimpArgs false
namespace Go.Sw
open Go.Proofs
def Pos {α:Type} (f:Nat->Rd α):Prop:=∀i n,f i=.error n->0 < n
section
variable {ws:List Bs}
theorem Pos.bind {α β:Type} {f:Nat->Rd α} {g:α->Nat->Rd β} (a:Pos f) (b:∀x,Pos (g x)):Pos (fun i=>yS (f i) g):=fun i n h=>by
 cases hr:f i with
 | error m=>
  simp only [yS,hr] at h
  cases h;exact a i _ hr
 | ok y=>
  simp only [yS,hr] at h
  exact b _ _ n h
theorem Pos.ok {α:Type} (f:Nat->α×Nat):Pos (fun i=>(.ok (f i):Rd α)):=fun i n h=>by cases h
theorem Pos.ite {α:Type} {p:Nat->Prop} [∀i,Decidable (p i)] {f g:Nat->Rd α} (a:Pos f) (b:Pos g):Pos (fun i=>if p i then f i else g i):=fun i n h=>by
 simp only at h
 split at h
 ·exact a i n h
 ·exact b i n h
theorem Pos.next {α:Type} {f:Nat->Rd α} (a:Pos f):Pos (fun i=>f (i+1)):=fun i n h=>a (i+1) n h
theorem Pos.err {α:Type}:Pos (fun i=>(.error (i+1):Rd α)):=fun i n h=>by cases h;exact Nat.succ_pos _
theorem kN (p:Bs->Bool):Pos (nA ws p):=fun i n h=>by
 unfold nA at h
 split at h
 ·cases h;exact Nat.succ_pos _
 ·cases h
theorem aJ (w:Bs):Pos (wL ws w):=(kN _).bind fun _=>Pos.ok fun i=>((),i)
theorem y3j {ex:Nat->Rd Ex} (J:Pos ex):∀f least,Pos (wE ws ex f least)
 | 0,_=>Pos.err
 | f+1,least=>Pos.ite (p:=fun i=>0 < least∨zC ws i≠sCls) (J.bind fun e=>(y3j J f _).bind fun l=>Pos.ok fun i=>(e::l,i)) (Pos.ok fun i=>([],i))
theorem j4k {ex:Nat->Rd Ex} (J:Pos ex):Pos (z6c ex):=J.bind fun a=>J.bind fun b=>Pos.ok fun i=>([a,b],i)
theorem q7s:∀f,Pos (gC ws f)
 | 0=>Pos.err
 | f+1=>Pos.ite (p:=fun i=>zC ws i≠y4q) ((kN _).bind fun s=>(q7s f).bind fun l=>Pos.ok fun i=>(s::l,i)) (Pos.ok fun i=>([],i))
theorem arm_pos {ex:Nat->Rd Ex} (J:Pos ex):Pos (armP ws ex) :=
 (aJ _).bind fun _=>(kN _).bind fun c=>(q7s _).bind fun vs=>(aJ _).bind fun _=>J.bind fun b=>(aJ _).bind fun _=>Pos.ok fun i=>(Arm.mk c vs b,i)
theorem q3s {ex:Nat->Rd Ex} (J:Pos ex):∀f b,Pos (gY ws ex f b)
 | 0,_=>Pos.err
 | f+1,b=>Pos.ite (p:=fun i=>b=true∨zC ws i=gP) ((arm_pos J).bind fun a=>(q3s J f false).bind fun l=>Pos.ok fun i=>(a::l,i)) (Pos.ok fun i=>([],i))
theorem x1l {ex:Nat->Rd Ex} (J:Pos ex):Pos (yV ws ex):=fun i n h=>by
 unfold yV at h
 split at h
 ·exact (j4k J).bind (fun l=>Pos.ok fun j=>(Ex.mk 8 0 (zC ws i) l [],j)) (i+1) n h
 ·split at h
  ·exact (kN _).bind (fun x=>(j4k J).bind fun l=>Pos.ok fun j=>(Ex.mk 6 0 x l [],j)) (i+1) n h
  ·split at h
   ·exact J.bind (fun a=>(q3s J _ true).bind fun l=>Pos.ok fun j=>(Ex.mk 7 0 sNo [a] l,j)) (i+1) n h
   ·split at h
    ·exact (y3j J _ 1).bind (fun l=>Pos.ok fun j=>(Ex.mk 4 0 (zC ws i) l [],j)) (i+1) n h
    ·exact (kN _).bind (fun x=>(y3j J _ 0).bind fun l=>Pos.ok fun j=>(Ex.mk 5 0 x l [],j)) i n h
theorem q4p:∀d,Pos (zT ws d)
 | 0=>Pos.err
 | d+1=>fun i n h=>by
  simp only [zT] at h
  split at h
  ·cases h;exact Nat.succ_pos _
  ·split at h
   ·cases h
   ·split at h
    ·exact (x1l (q4p d)).bind (fun e=>(aJ _).bind fun _=>Pos.ok fun j=>(e,j)) (i+1) n h
    ·split at h
     ·cases h
     ·split at h
      ·cases h
      ·exact (kN _).bind (fun x=>Pos.ok fun j=>(Ex.mk 2 0 x [] [],j)) i n h
theorem y2i:∀f,Pos (kC ws f)
 | 0=>Pos.err
 | f+1=>Pos.ite (p:=fun i=>qC (zC ws i)=true) ((kN _).bind fun s=>(y2i f).bind fun l=>Pos.ok fun i=>(s::l,i)) (Pos.ok fun i=>([],i))
theorem q4g:∀f,Pos (hH ws f)
 | 0=>Pos.err
 | f+1=>(kN _).bind fun n=>(y2i _).bind fun l=>Pos.ite (p:=fun i=>zC ws i≠sBar) (Pos.ok fun i=>([(⟨n,l⟩:Con)],i)) ((q4g f).bind (fun cs=>Pos.ok fun i=>((⟨n,l⟩:Con)::cs,i))).next
theorem j9y:Pos (dD ws):=(kN _).bind fun n=>(aJ _).bind fun _=>(q4g _).bind fun l=>Pos.ok fun i=>((⟨n,l⟩:Data),i)
theorem q0b:Pos (wR ws):=(kN _).bind fun n=>(aJ _).bind fun _=>(kN _).bind fun t=>Pos.ok fun i=>((⟨n,t⟩:Param),i)
theorem y3y:∀f,Pos (kW ws f)
 | 0=>Pos.err
 | f+1=>Pos.ite (p:=fun i=>zC ws i=gP) ((q0b).bind (fun p=>(aJ _).bind fun _=>(y3y f).bind fun l=>Pos.ok fun i=>(p::l,i))).next (Pos.ok fun i=>([],i))
theorem fun_pos:Pos (oC ws):=(kN _).bind fun n=>(y3y _).bind fun ps=>(aJ _).bind fun _=>(kN _).bind fun r=>(aJ _).bind fun _=>(q4p _).bind fun b=>Pos.ok fun i=>((⟨n,ps,r,b⟩:Fun),i)
theorem sX:∀f c i n,jB ws f c i=.error n->0 < n
 | 0,_,_,_,h=>by cases h;exact Nat.succ_pos _
 | f+1,c,i,n,h=>by
  simp only [jB] at h
  split at h
  ·split at h
   ·split at h
    ·exact sX f _ _ n h
    ·rename_i a;cases h;exact j9y _ _ a
   ·split at h
    ·split at h
     ·exact sX f _ _ n h
     ·rename_i a;cases h;exact q0b _ _ a
    ·split at h
     ·split at h
      ·exact sX f _ _ n h
      ·rename_i a;cases h;exact fun_pos _ _ a
     ·split at h
      ·split at h
       ·exact sX f _ _ n h
       ·rename_i a;cases h;exact kN _ _ _ a
      ·cases h;exact Nat.succ_pos _
  ·cases h
end
theorem x3n {t:Bs} {n:Nat} (h:z0b t=.error n):0 < n:=sX _ _ _ _ h
def cL (t:Bs):Except (Nat×Int) Core:=if 60000 < t.size then .error (0,2) else match z0b t with
 | .error n=>.error (n,5)
 | .ok c=>if yP c=0 then .ok c else .error (0,yP c)
theorem j0r {t:Bs} (h:60000 < t.size):cL t=.error (0,2):=if_pos h
theorem j0t {t:Bs} {n:Nat} (h:¬60000 < t.size) (a:z0b t=.error n):cL t=.error (n,5):=by unfold cL;rw [if_neg h,a]
theorem q6i {t:Bs} {c:Core} (h:¬60000 < t.size) (a:z0b t=.ok c) (b:¬yP c=0):cL t=.error (0,yP c):=by unfold cL;rw [if_neg h,a];exact if_neg b
theorem y3z {t:Bs} {c:Core} (h:¬60000 < t.size) (a:z0b t=.ok c) (b:yP c=0):cL t=.ok c:=by unfold cL;rw [if_neg h,a];exact if_pos b
end Go.Sw

namespace Go.Sw
open Go.Proofs
mutual
def q0f:Val->Val->Bool
 | .mk c n l,v=>decide (c=v.con)&&decide (n=v.num)&&decide (l.length=v.args.length)&&sameVs l v.args
def sameVs:List Val->List Val->Bool
 | [],_=>true
 | _::_,[]=>true
 | x::xs,y::ys=>q0f x y&&sameVs xs ys
end
theorem q7c (x y:Val) (xs ys:List Val):sameVs (x::xs) (y::ys)=(q0f x y&&sameVs xs ys):=by simp only [sameVs]
def q2s:List Named->List Named->Bool
 | [],_=>true
 | _::_,[]=>true
 | x::xs,y::ys=>(decide (x.name=y.name)&&q0f x.value y.value)&&q2s xs ys
theorem q7a (x y:Named) (xs ys:List Named):q2s (x::xs) (y::ys)=((decide (x.name=y.name)&&q0f x.value y.value)&&q2s xs ys):=rfl
def cJ (fs:List Fun) (ds:List Bs):List Bs:=(fs.filter fun f=>has ds f.name).map Fun.name
theorem z7t {f:Fun} {fs:List Fun} {ds:List Bs} (h:has ds f.name=true):cJ (f::fs) ds=f.name::cJ fs ds:=by simp [cJ,h]
theorem q5x {f:Fun} {fs:List Fun} {ds:List Bs} (h:has ds f.name=false):cJ (f::fs) ds=cJ fs ds:=by simp [cJ,h]
theorem y9y {ds:List Bs}:cJ [] ds=[]:=rfl
end Go.Sw

namespace Go.Sw
open Go.Proofs.Tryz
open Go.Proofs
set_option maxRecDepth 20000
set_option maxHeartbeats 4000000
theorem x3g {V:Fz} {K:List Res} {w:World} {t:Bs} (G:Glob V) (n:AscB t) (N:Mem V K w) :
  Calls prog 25 #[.string t] w (fun ee w'=>Out (cL t)
   (fun C=>∃y:Fz×Value×Value×Value×Value,ee=.returned (.tuple #[.agg #[y.2.1,y.2.2.1,y.2.2.2.1,y.2.2.2.2],.int .i64 ((0:Nat):Int),.int .i64 ((0:Nat):Int)])/\(V.Le y.1/\SliceOf RData y.1 2 y.2.1 C.datas/\SliceOf RParam y.1 2 y.2.2.1 C.inputs/\SliceOf RFun y.1 8 y.2.2.2.1 C.funs)/\Mem y.1 (.gs y.2.2.2.2 9 1 (strs C.outputs)::K) w')
   (fun c=>ee=.returned (.tuple #[.agg #[.slice none 0 0,.slice none 0 0,.slice none 0 0,.slice none 0 0],.int .i64 ((c.1:Nat):Int),.int .i64 c.2])/\Mem V K w')):=by
 refine zM func25 ntmps25 fun Q s a J=>?_
 refine Alc J N fun U w N a J=>?_
 refine go J N fun a J=>?_
 by_cases r:60000 < t.size
 refine yE J N fun a J=>?_
 refine Sto 0 J N fun w N a J=>?_
 refine go J N fun a J=>?_
 have d:=N
 replace N:=N.dl [0]
 refine s _ _ _ (mE (i:=0) (cs:=[.slice none 0 0,.slice none 0 0,.slice none 0 0,.slice none 0 0]) J d.toSees results25 rfl rfl isAgg27 sizeOf27 rfl rfl rfl ?_)
 show Out (cL t) _ _
 rw [j0r r]
 exact ⟨rfl,N⟩
 refine go J N fun a J=>?_
 refine st J rfl rfl rfl (z6z J rfl call74 (read_ok G (by omega) n N) (fun g T w b m N a J=>?_) (fun g w b N a J=>?_))
 obtain ⟨B,W,X,Y,Z⟩:=T
 obtain ⟨e,u,v,z⟩:=m
 simp only at e u v z N J
 replace G:=G.mono e
 replace N:=N.nf
 obtain ⟨D,I,rfl,_,_⟩:=u.fm
 obtain ⟨E,L,rfl,_,_⟩:=v.fm
 obtain ⟨F,M,rfl,_,_⟩:=z.fm
 obtain ⟨H,m3,P,p,_,_⟩:=N.toSees.gsForm (i:=0) rfl
 subst p
 replace N:=N.nf
 refine Alc J N fun R w N a J=>?_
 refine Sto 0 J N fun w N a J=>?_
 refine Qq J N (fun a J=>?_) (o:=by exact fun _ _ _ J O=>q0v false J rfl rfl rfl)
 refine go J N fun a J=>?_
 have h:=N
 clear N
 obtain ⟨Ψ2,f,N,k,j⟩:=h.freezeRowT (i:=1) rfl
 clear h
 replace G:=G.mono f
 replace N:=N.nf
 have q:RCore Ψ2 [.slice D (g.datas).length I,.slice E (g.inputs).length L,.slice F (g.funs).length M,.slice H m3 P] g:=⟨_,_,_,_,rfl,u.mono RData.mono f,v.mono RParam.mono f,z.mono RFun.mono f,SliceOf.strs.2 k⟩
 refine zS call36 J N (fun w N a J=>?_) (c:=q4f q G N)
 refine go J N fun a J=>?_
 replace N:=j _ _ N
 replace N:=N.nf
 refine go J N fun a J=>?_
 by_cases l:yP g=0
 refine Sto 2 J N fun w N a J=>?_
 refine go J N fun a J=>?_
 have d:=N
 replace N:=N.dl [2,1]
 refine s _ _ _ (mE (i:=2) (cs:=[.slice D (g.datas).length I,.slice E (g.inputs).length L,.slice F (g.funs).length M,.slice H m3 P]) J d.toSees results25 rfl rfl isAgg27 sizeOf27 rfl rfl rfl ?_)
 show Out (cL t) _ _
 rw [y3z r b l]
 exact ⟨(B,_,_,_,_),rfl,⟨e,u,v,z⟩,N⟩
 refine yE J N fun a J=>?_
 refine Sto 2 J N fun w N a J=>?_
 refine go J N fun a J=>?_
 have d:=N
 replace N:=N.dl [2,1,0]
 refine s _ _ _ (mE (i:=2) (cs:=[.slice none 0 0,.slice none 0 0,.slice none 0 0,.slice none 0 0]) J d.toSees results25 rfl rfl isAgg27 sizeOf27 rfl rfl rfl ?_)
 show Out (cL t) _ _
 rw [q6i r b l]
 exact ⟨rfl,N.le (e)⟩
 replace N:=N.nf
 have A:=x3n b
 refine Alc J N fun S w N a J=>?_
 refine Sto 0 J N fun w N a J=>?_
 refine yE J N fun a J=>?_
 refine Sto 1 J N fun w N a J=>?_
 refine go J N fun a J=>?_
 have d:=N
 replace N:=N.dl [1,0]
 refine s _ _ _ (mE (i:=1) (cs:=[.slice none 0 0,.slice none 0 0,.slice none 0 0,.slice none 0 0]) J d.toSees results25 rfl rfl isAgg27 sizeOf27 rfl rfl rfl ?_)
 show Out (cL t) _ _
 rw [j0t r b]
 exact ⟨rfl,N⟩
def textB:Bs:=⟨#[100,97,116,97,32,76,105,115,116,32,61,32,78,105,108,32,124,32,67,111,110,115,32,73,110,116,32,76,105,115,116,10,105,110,112,117,116,32,120,115,32,58,32,76,105,115,116,10,102,117,110,32,115,117,109,32,40,108,32,58,32,76,105,115,116,41,32,58,32,73,110,116,32,61,32,40,99,97,115,101,32,108,32,40,78,105,108,32,45,62,32,48,41,32,40,67,111,110,115,32,104,32,116,32,45,62,32,40,43,32,104,32,40,115,117,109,32,116,41,41,41,41,10,102,117,110,32,116,111,116,97,108,32,58,32,73,110,116,32,61,32,40,115,117,109,32,33,120,115,41,10,102,117,110,32,108,101,115,115,32,40,97,32,58,32,73,110,116,41,32,40,98,32,58,32,73,110,116,41,32,58,32,73,110,116,32,61,32,40,99,97,115,101,32,40,60,32,97,32,98,41,32,40,70,97,108,115,101,32,45,62,32,48,41,32,40,84,114,117,101,32,45,62,32,49,41,41,10,111,117,116,112,117,116,32,116,111,116,97,108,10]⟩
theorem j4i {V:Fz} {K:List Res} {w:World} (N:Mem V K w):Calls prog 57 #[] w (fun ee w'=>ee=.returned (.string textB)/\Mem V K w'):=by
 refine zM func57 ntmps57 fun Q b a J=>?_
 refine zD b J N ?_
 exact ⟨rfl,N⟩
theorem z0u {V:Fz} {K:List Res} {w:World} {d h i j:Value} {ds:List Data} {name:Bs} (b:SliceOf RData V 2 d ds) (N:Mem V K w) :
  Calls prog 58 #[.agg #[d,h,i,j],.string name] w (fun ee w'=>ee=.returned (.bool (jC ds name))/\Mem V K w'):=by
 obtain ⟨l,m,rfl,f,g⟩:=b.fm
 refine zM func58 ntmps58 fun Q e a J=>?_
 refine Bx J N fun k w N a J=>?_
 refine zS call114 J N (fun w N a J=>?_) (c:=z5c b N)
 refine go J N fun a J=>?_
 replace N:=N.dl [0]
 refine zD e J N ?_
 exact ⟨rfl,N⟩
end Go.Sw

namespace Go.Sw
open Go.Proofs
set_option maxRecDepth 40000
set_option maxHeartbeats 4000000
def z_l:Bs:=⟨#[108]⟩
def z0d:Bs:=⟨#[78,105,108]⟩
def z_h:Bs:=⟨#[104]⟩
def z_t:Bs:=⟨#[116]⟩
def tM:Bs:=⟨#[115,117,109]⟩
def zPlus:Bs:=⟨#[43]⟩
def oQ:Bs:=⟨#[67,111,110,115]⟩
def z_xs:Bs:=⟨#[120,115]⟩
def z_a:Bs:=⟨#[97]⟩
def z_b:Bs:=⟨#[98]⟩
def j4x:Bs:=⟨#[60]⟩
def y0b:Bs:=⟨#[70,97,108,115,101]⟩
def q3k:Bs:=⟨#[84,114,117,101]⟩
def z_data:Bs:=⟨#[100,97,116,97]⟩
def sR:Bs:=⟨#[76,105,115,116]⟩
def zEq:Bs:=⟨#[61]⟩
def zBar:Bs:=⟨#[124]⟩
def nZ:Bs:=⟨#[73,110,116]⟩
def z_input:Bs:=⟨#[105,110,112,117,116]⟩
def z4f:Bs:=⟨#[58]⟩
def z_fun:Bs:=⟨#[102,117,110]⟩
def z8h:Bs:=⟨#[40]⟩
def z8g:Bs:=⟨#[41]⟩
def z_case:Bs:=⟨#[99,97,115,101]⟩
def q3j:Bs:=⟨#[45,62]⟩
def z_0:Bs:=⟨#[48]⟩
def aQ:Bs:=⟨#[116,111,116,97,108]⟩
def x5g:Bs:=⟨#[33,120,115]⟩
def cX:Bs:=⟨#[108,101,115,115]⟩
def z_1:Bs:=⟨#[49]⟩
def x5j:Bs:=⟨#[111,117,116,112,117,116]⟩
def saneWs:List Bs:=[z_data,sR,zEq,z0d,zBar,oQ,nZ,sR,z_input,z_xs,z4f,sR,z_fun,tM,z8h,z_l,z4f,sR,z8g,z4f,nZ,zEq,z8h,z_case,z_l,z8h,z0d,q3j,z_0,z8g,z8h,oQ,z_h,z_t,q3j,z8h,zPlus,z_h,z8h,tM,z_t,z8g,z8g,z8g,z8g,z_fun,aQ,z4f,nZ,zEq,z8h,tM,x5g,z8g,z_fun,cX,z8h,z_a,z4f,nZ,z8g,z8h,z_b,z4f,nZ,z8g,z4f,nZ,zEq,z8h,z_case,z8h,j4x,z_a,z_b,z8g,z8h,y0b,q3j,z_0,z8g,z8h,q3k,q3j,z_1,z8g,z8g,x5j,aQ]
def saneC:Core:=⟨[⟨sR,[⟨z0d,[]⟩,⟨oQ,[nZ,sR]⟩]⟩],
 [⟨z_xs,sR⟩],
 [⟨tM,[⟨z_l,sR⟩],nZ,(.mk 7 0 sNo [(.mk 2 0 z_l [] [])] [(.mk z0d [] (.mk 1 0 sNo [] [])),(.mk oQ [z_h,z_t] (.mk 8 0 zPlus [(.mk 2 0 z_h [] []),(.mk 5 0 tM [(.mk 2 0 z_t [] [])] [])] []))])⟩,
  ⟨aQ,[],nZ,(.mk 5 0 tM [(.mk 3 0 z_xs [] [])] [])⟩,
  ⟨cX,[⟨z_a,nZ⟩,⟨z_b,nZ⟩],nZ,(.mk 7 0 sNo [(.mk 8 0 j4x [(.mk 2 0 z_a [] []),(.mk 2 0 z_b [] [])] [])] [(.mk y0b [] (.mk 1 0 sNo [] [])),(.mk q3k [] (.mk 1 1 sNo [] []))])⟩],
 [aQ]⟩
def y4s:List Named:=[⟨z_xs,.mk oQ 0 [.mk sNo 3 [],.mk oQ 0 [.mk sNo 4 [],(.mk z0d 0 [])]]⟩]
def q7d:List Val:=[.mk sNo 2 [],.mk sNo 3 []]
def saneO:Outcome:=⟨[⟨aQ,.mk sNo 7 []⟩],17⟩
theorem j2f:sP textB=saneWs:=by kernel_rfl
theorem j7p:z0b textB=.ok saneC:=by
 unfold z0b;rw [j2f];kernel_rfl
theorem z7q:yP saneC=0:=by kernel_rfl
theorem j0s:cL textB=.ok saneC:=y3z (by decide) j7p z7q
theorem j9h:AscB textB:=by
 intro j b h
 have a:textB.data.toList.all (fun b=>decide (b.toNat < 128))=true:=by kernel_rfl
 exact of_decide_eq_true (List.all_eq_true.1 a b (mgQ h))
theorem j1m:z0f saneC y4s 17=(saneO,0):=by kernel_rfl
theorem j1l:z0f saneC y4s 16=(y7c,4):=by kernel_rfl
theorem j0v:uG saneC=(textB,0):=by kernel_rfl
theorem q5h:jC saneC.datas sR=true:=by kernel_rfl
theorem q5z:jC saneC.datas vS=false:=by kernel_rfl
theorem j5e:jK (zH saneC) tM=[tM]:=by kernel_rfl
theorem z8q:jK (zH saneC) aQ=[tM]:=by kernel_rfl
theorem q8s:jK (zH saneC) cX=[]:=by kernel_rfl
theorem j1b {x:Bs} (h:Reach (zH saneC) cX x):x=cX:=by
 induction h with
 | refl=>rfl
 | step h1 a b=>subst b;rw [q8s] at a;cases a
theorem j0x:¬wZ (zH saneC) cX:=by
 rintro ⟨x,b,hr⟩
 rw [j1b b] at hr
 have a:xO (sY (zH saneC) cX)=false:=by kernel_rfl
 rw [a] at hr
 cases hr
theorem j6t:zN (zH saneC).funs cX=some ⟨cX,[⟨z_a,nZ⟩,⟨z_b,nZ⟩],nZ,(.mk 7 0 sNo [(.mk 8 0 j4x [(.mk 2 0 z_a [] []),(.mk 2 0 z_b [] [])] [])] [(.mk y0b [] (.mk 1 0 sNo [] [])),(.mk q3k [] (.mk 1 1 sNo [] []))])⟩:=by kernel_rfl
theorem q9n:dO (zH saneC) q7d [⟨z_a,nZ⟩,⟨z_b,nZ⟩]=true:=by kernel_rfl
theorem q1h:kU (xY (qM ⟨(zH saneC).funs,[]⟩) ⟨cX,[⟨z_a,nZ⟩,⟨z_b,nZ⟩],nZ,(.mk 7 0 sNo [(.mk 8 0 j4x [(.mk 2 0 z_a [] []),(.mk 2 0 z_b [] [])] [])] [(.mk y0b [] (.mk 1 0 sNo [] [])),(.mk q3k [] (.mk 1 1 sNo [] []))])⟩ q7d) 9=.ok (.mk sNo 1 [],3):=by kernel_rfl
theorem j5d:qB saneC cX q7d 9=(.mk sNo 1 [],6,0):=by
 unfold qB
 rw [if_neg (not_not_intro z7q),if_neg (by decide),j6t]
 simp only
 rw [if_neg (by rw [q9n];decide),if_neg j0x,show (9:Int).toNat=9 from rfl,q1h]
 rfl
theorem j0i {ds:List Bs} (h:Reached (zH saneC) saneC.outputs ds):cJ saneC.funs ds=[tM,aQ]:=by
 have h1:=h.starts aQ (by simp [saneC])
 have c:=h.closed _ h1 tM (by rw [z8q];simp)
 have d:¬cX∈ds:=fun N=>by
  have:=h.least (fun x=>x=aQ∨x=tM) (fun x b=>.inl (by simpa [saneC] using b)) (fun x b y a=>by
   rcases b with rfl | rfl
   ·rw [z8q] at a;exact .inr (by simpa using a)
   ·rw [j5e] at a;exact .inr (by simpa using a)) _ N
  rcases this with h | h <;> exact absurd h (by decide)
 show cJ [_,_,_] ds=_
 rw [z7t (has_mem.2 c),z7t (has_mem.2 h1),q5x (Bool.eq_false_iff.2 fun h=>d (has_mem.1 h)),y9y]
end Go.Sw

namespace Go.Sw
open Go.Proofs.Tryz
open Go.Proofs
set_option maxRecDepth 20000
set_option maxHeartbeats 4000000
theorem x3k {V:Fz} {K:List Res} {w:World} {d0:List Value} {c:Core} (P:RCore V d0 c) (G:Glob V) (T_:Tabs V) (N:Mem V K w) :
  Calls prog 23 #[.agg d0.toArray] w (fun ee w'=>ee=.returned (.tuple #[.string (uG c).1,.int .i64 (uG c).2])/\Mem V K w'):=by
 obtain ⟨p3,c4,p9,g2,n2,i2,o2,c22,rfl,h2,h8,P0,Q0,m2,o1,I1,A0,J1,B0,K1,C0⟩:=RCore.fm P
 refine zM func23 ntmps23 fun Q hQ a J=>?_
 refine Bx J N fun d2 w N a J=>?_
 refine zS call36 J N (fun w N a J=>?_) (c:=q4f P G N)
 refine go J N fun a J=>?_
 by_cases B:yP c=0
 refine Alc J N fun e w N a J=>?_
 refine go J N fun a J=>?_
 replace N:=N.nilRow 5 1
 replace N:=N.nf
 have D:=nK B
 have M:=(mC B).1
 have O1:=j0w B (y8d P)
 refine go J N fun a J=>?_
 refine zV (J.ks [1,5,25,26]) N (fun R mm a w=>∃(i:Nat) (bp:Option Addr) (bv:Value) (acc:Bs),mm=c.datas.length - i/\R V [(27,.int .i64 ((i:Nat):Int))] [(0,.gs (bv) 5 1 (Lib.strCells acc)),(1,.blk e (ob [.pointer bp,bv] 130))] a w/\((bp=none∨bp=some ⟨e,0,none⟩)/\acc++(pI ((c.datas.drop i).map y8h)++(pI (c.inputs.map z3r)++(pI (c.funs.map y2o)++pI (c.outputs.map y7d))))=dS c)) (c.datas.length - 0) ⟨0,none,.slice none 0 0,⟨#[]⟩,rfl,⟨J.pk,N⟩,⟨.inl rfl,z7e _⟩⟩ ?_
 clear N J
 rintro mm a w ⟨i,bp,bv,acc,h,⟨J,N⟩,q⟩ Z1 x0
 replace N:=N.nf
 obtain ⟨k,q⟩:=q
 refine go J N fun a J=>?_
 by_cases q0:i < c.datas.length
 refine go J N fun a J=>?_
 obtain ⟨r2,rfl,z,m,z1,G1,E1,F0⟩:=h2.el o1 q0
 obtain ⟨u2,rfl,s0⟩:=id F0
 obtain ⟨p2,j2,rfl,L1,D0⟩:=s0.fm
 refine Alc J N fun e2 w N a J=>?_
 refine Sto 0 J N fun w N a J=>?_
 refine go J N fun a J=>?_
 replace N:=N.nilRow 9 1
 replace N:=N.nf
 refine go J N fun a J=>?_
 refine zV (J.ks [1,5,7,25,26,27,32,33]) N (fun R mm a w=>∃(j:Nat) (u:Value) (ac:List Bs),mm=z.cons.length - j/\R V [(8,u),(34,.int .i64 ((j:Nat):Int))] [(0,.gs (u) 9 1 (strs ac))] a w/\(ac=(z.cons.map z8r).take j)) (z.cons.length - 0) ⟨0,.slice none 0 0,[],rfl,⟨J.pk,N⟩,rfl⟩ ?_
 clear N J
 rintro mm a w ⟨j,u,ac,h,⟨J,N⟩,C⟩ a2 y0
 replace N:=N.nf
 refine go J N fun a J=>?_
 by_cases t0:j < z.cons.length
 refine go J N fun a J=>?_
 obtain ⟨s2,rfl,p0,I,A1,H1,F1,G0⟩:=s0.el D0 t0
 obtain ⟨v2,rfl,u0⟩:=id G0
 obtain ⟨q2,c76,rfl,M1,N1⟩:=u0.fm
 refine Alc J N fun f2 w N a J=>?_
 refine Sto 0 J N fun w N a J=>?_
 refine qG J N fun v80 w N a J=>?_
 refine qN 0 wM J N (fun w2 w N a J=>?_) (hr:=(SliceOf.strs.1 u0).rowIn N.toSees) (h1:=cP _) (hb:=by have h_:=y0x D M (mgQ m) (mgQ I);have g0:(⟨#[32]⟩:Bs).size=1:=rfl;rw [g0] at h_;simp only [lcQ,lnQ,yF] at h_ ⊢;omega)
 refine zS call67 J N (fun w N a J=>?_) (c:=y3d (l:=p0.name::p0.fields) (sep:=⟨#[32]⟩) (by have h_:=y0x D M (mgQ m) (mgQ I);omega) N)
 replace N:=N.nf
 refine qG J N fun x2 w N a J=>?_
 refine qN 2 wM J N (fun p1 w N a J=>?_) (hb:=by have h_:=z6v D M (mgQ m);have g0:(⟨#[32,124,32]⟩:Bs).size=3:=rfl;rw [g0] at h_;have r0:=congrArg List.length C;rw [List.length_take] at r0;simp only [lcQ,lnQ,yF] at r0 ⊢;omega)
 first | rw [jJ] at N | rw [<- yQ] at N
 refine go J N fun a J=>?_
 replace N:=N.dl [1,0]
 refine y0 _ _ _ (by subst h;omega) ⟨(j+1),(p1),(ac++[z8r p0]),rfl,⟨J.pk,by exact N⟩,?_⟩
 rw [C];exact (y7a I).symm
 refine Reg [1,2,1,1,1,0,1,1,0] [1,4] J N fun w N a J=>?_
 have E:ac=z.cons.map z8r:=by rw [C];exact q2d t0
 have f:=z4l m q
 simp only [y8h,zJ,<- E] at f
 refine Qq J N (fun a J=>?_) (o:=by exact fun _ _ _ J O=>vW J rfl rfl (by (try simp only [zJ]);omega))
 refine Qq J N (fun a J=>?_) (o:=by exact fun _ _ _ J O=>vW J rfl rfl (by (try simp only [zJ]);omega))
 refine zS call67 J N (fun w N a J=>?_) (c:=y3d (l:=ac) (sep:=⟨#[32,124,32]⟩) (by have h_:=z6v D M (mgQ m);rw [<- E] at h_;omega) N)
 replace N:=N.nf
 refine Qq J N (fun a J=>?_) (o:=by exact fun _ _ _ J O=>vW J rfl rfl (by (try simp only [zJ]);omega))
 refine Qq J N (fun a J=>?_) (o:=by exact fun _ _ _ J O=>vW J rfl rfl (by (try simp only [zJ]);omega))
 replace N:=N.ar [] [1,2]
 refine qH call68 J N (fun q1 w D1 N a J=>?_) (c:=yJ (t:=acc) (s:=(((((⟨#[100,97,116,97,32]⟩:Bs)++z.name)++(⟨#[32,61,32]⟩:Bs))++(mB (⟨#[32,124,32]⟩:Bs) ac))++(⟨#[10]⟩:Bs))) k (by (try simp only [zJ]);omega) N)
 replace N:=N.nf
 refine go J N fun a J=>?_
 replace N:=N.ar [2] [2,1,2]
 refine x0 _ _ _ (by subst h;omega) ⟨(i+1),((some ⟨e,0,none⟩)),(q1),((acc++(((((⟨#[100,97,116,97,32]⟩:Bs)++z.name)++(⟨#[32,61,32]⟩:Bs))++(mB (⟨#[32,124,32]⟩:Bs) ac))++(⟨#[10]⟩:Bs)))),rfl,⟨J.pk,by exact N⟩,?_⟩
 rw [E];exact ⟨.inr rfl,z4m m q⟩
 refine go J N fun a J=>?_
 refine zV (J.ks [1,5,60,61]) N (fun R mm a w=>∃(i:Nat) (bp:Option Addr) (bv:Value) (acc:Bs),mm=c.inputs.length - i/\R V [(62,.int .i64 ((i:Nat):Int))] [(0,.gs (bv) 5 1 (Lib.strCells acc)),(1,.blk e (ob [.pointer bp,bv] 130))] a w/\((bp=none∨bp=some ⟨e,0,none⟩)/\acc++(pI ((c.inputs.drop i).map z3r)++(pI (c.funs.map y2o)++pI (c.outputs.map y7d)))=dS c)) (c.inputs.length - 0) ⟨0,bp,bv,acc,rfl,⟨J.pk,N⟩,⟨k,z0m q0 q⟩⟩ ?_
 clear N J
 rintro mm a w ⟨i,bp,bv,acc,h,⟨J,N⟩,r⟩ b2 z0
 replace N:=N.nf
 obtain ⟨k,r⟩:=r
 refine go J N fun a J=>?_
 by_cases w0:i < c.inputs.length
 refine go J N fun a J=>?_
 obtain ⟨t2,rfl,S,c0,M0,e1,Z0,l0⟩:=h8.el A0 w0
 obtain rfl:=id l0
 refine Alc J N fun u1 w N a J=>?_
 refine Sto 0 J N fun w N a J=>?_
 refine go J N fun a J=>?_
 have f:=z4l c0 r
 simp only [z3r,zJ] at f
 refine Qq J N (fun a J=>?_) (o:=by exact fun _ _ _ J O=>vW J rfl rfl (by (try simp only [zJ]);omega))
 refine Qq J N (fun a J=>?_) (o:=by exact fun _ _ _ J O=>vW J rfl rfl (by (try simp only [zJ]);omega))
 refine Qq J N (fun a J=>?_) (o:=by exact fun _ _ _ J O=>vW J rfl rfl (by (try simp only [zJ]);omega))
 refine Qq J N (fun a J=>?_) (o:=by exact fun _ _ _ J O=>vW J rfl rfl (by (try simp only [zJ]);omega))
 replace N:=N.ar [] [1,2]
 refine qH call68 J N (fun H0 w R0 N a J=>?_) (c:=yJ (t:=acc) (s:=(((((⟨#[105,110,112,117,116,32]⟩:Bs)++S.name)++(⟨#[32,58,32]⟩:Bs))++S.type)++(⟨#[10]⟩:Bs))) k (by (try simp only [zJ]);omega) N)
 replace N:=N.nf
 refine go J N fun a J=>?_
 replace N:=N.ar [2] [2,1,2]
 refine z0 _ _ _ (by subst h;omega) ⟨(i+1),((some ⟨e,0,none⟩)),(H0),((acc++(((((⟨#[105,110,112,117,116,32]⟩:Bs)++S.name)++(⟨#[32,58,32]⟩:Bs))++S.type)++(⟨#[10]⟩:Bs)))),rfl,⟨J.pk,by exact N⟩,?_⟩
 exact ⟨.inr rfl,z4m c0 r⟩
 refine go J N fun a J=>?_
 refine zV (J.ks [1,5,77,78]) N (fun R mm a w=>∃(i:Nat) (bp:Option Addr) (bv:Value) (acc:Bs),mm=c.funs.length - i/\R V [(79,.int .i64 ((i:Nat):Int))] [(0,.gs (bv) 5 1 (Lib.strCells acc)),(1,.blk e (ob [.pointer bp,bv] 130))] a w/\((bp=none∨bp=some ⟨e,0,none⟩)/\acc++(pI ((c.funs.drop i).map y2o)++pI (c.outputs.map y7d))=dS c)) (c.funs.length - 0) ⟨0,bp,bv,acc,rfl,⟨J.pk,N⟩,⟨k,z0m w0 r⟩⟩ ?_
 clear N J
 rintro mm a w ⟨i,bp,bv,acc,h,⟨J,N⟩,n⟩ r1 h0
 replace N:=N.nf
 obtain ⟨k,n⟩:=n
 refine go J N fun a J=>?_
 by_cases T:i < c.funs.length
 refine go J N fun a J=>?_
 obtain ⟨T1,rfl,b,y,N0,f1,a1,m0⟩:=P0.el B0 T
 obtain ⟨W1,v1,rfl,U,W⟩:=id m0
 obtain ⟨Q1,c127,rfl,j1,k0⟩:=U.fm
 obtain ⟨R1,c135,S1,y1,rfl,d1,B1,C1,k1,m1,l1,n1⟩:=REx.fm W
 refine Alc J N fun w1 w N a J=>?_
 refine Sto 0 J N fun w N a J=>?_
 refine go J N fun a J=>?_
 have a0:=j6d y n
 have f:=congrArg ByteArray.size a0
 simp only [zJ] at f
 refine Qq J N (fun a J=>?_) (o:=by exact fun _ _ _ J O=>vW J rfl rfl (by (try simp only [zJ]);omega))
 replace N:=N.ar [] [1,2]
 refine qH call68 J N (fun I0 w S0 N a J=>?_) (c:=yJ (t:=acc) (s:=((⟨#[102,117,110,32]⟩:Bs)++b.name)) k (by (try simp only [zJ]);omega) N)
 replace N:=N.nf
 refine go J N fun a J=>?_
 refine zV (J.ks [1,5,14,77,78,79,88,89]) N (fun R mm a w=>∃(j:Nat) (e0:Value) (d:Bs),mm=b.params.length - j/\R V [(90,.int .i64 ((j:Nat):Int))] [(0,.blk e (ob [.pointer (some ⟨e,0,none⟩),e0] 130)),(1,.gs (e0) 5 1 (Lib.strCells d))] a w/\(d++(pI ((b.params.drop j).map z3w)++((((⟨#[32,58,32]⟩:Bs)++b.result)++⟨#[32,61,32]⟩)++((wB b.body++⟨#[10]⟩)++(pI ((c.funs.drop (i+1)).map y2o)++pI (c.outputs.map y7d)))))=dS c)) (b.params.length - 0) ⟨0,I0,(acc++((⟨#[102,117,110,32]⟩:Bs)++b.name)),rfl,⟨J.pk,N⟩,a0⟩ ?_
 clear N J
 rintro mm a w ⟨j,e0,d,h,⟨J,N⟩,v⟩ s1 i0
 replace N:=N.nf
 refine go J N fun a J=>?_
 by_cases X:j < b.params.length
 refine go J N fun a J=>?_
 obtain ⟨U1,rfl,A,F,O0,g1,b1,n0⟩:=U.el k0 X
 obtain rfl:=id n0
 refine Alc J N fun x1 w N a J=>?_
 refine Sto 0 J N fun w N a J=>?_
 refine go J N fun a J=>?_
 have f:=z4l F v
 simp only [z3w,zJ] at f
 refine Qq J N (fun a J=>?_) (o:=by exact fun _ _ _ J O=>vW J rfl rfl (by (try simp only [zJ]);omega))
 refine Qq J N (fun a J=>?_) (o:=by exact fun _ _ _ J O=>vW J rfl rfl (by (try simp only [zJ]);omega))
 refine Qq J N (fun a J=>?_) (o:=by exact fun _ _ _ J O=>vW J rfl rfl (by (try simp only [zJ]);omega))
 refine Qq J N (fun a J=>?_) (o:=by exact fun _ _ _ J O=>vW J rfl rfl (by (try simp only [zJ]);omega))
 replace N:=N.ar [] [2,2]
 refine qH call68 J N (fun J0 w T0 N a J=>?_) (c:=yJ (t:=d) (s:=(((((⟨#[32,40]⟩:Bs)++A.name)++(⟨#[32,58,32]⟩:Bs))++A.type)++(⟨#[41]⟩:Bs))) (.inr rfl) (by (try simp only [zJ]);omega) N)
 replace N:=N.nf
 refine go J N fun a J=>?_
 replace N:=N.dl [2]
 refine i0 _ _ _ (by subst h;omega) ⟨(j+1),(J0),((d++(((((⟨#[32,40]⟩:Bs)++A.name)++(⟨#[32,58,32]⟩:Bs))++A.type)++(⟨#[41]⟩:Bs)))),rfl,⟨J.pk,by exact N⟩,?_⟩
 exact z4m F v
 refine go J N fun a J=>?_
 have b0:=z0m X v
 have E0:=congrArg ByteArray.size b0
 simp only [zJ] at E0
 have P1:=jR b.body
 refine Qq J N (fun a J=>?_) (o:=by exact fun _ _ _ J O=>vW J rfl rfl (by (try simp only [zJ]);omega))
 refine Qq J N (fun a J=>?_) (o:=by exact fun _ _ _ J O=>vW J rfl rfl (by (try simp only [zJ]);omega))
 replace N:=N.ar [] [1,1]
 refine qH call68 J N (fun X1 w U0 N a J=>?_) (c:=yJ (t:=d) (s:=(((⟨#[32,58,32]⟩:Bs)++b.result)++(⟨#[32,61,32]⟩:Bs))) (.inr rfl) (by (try simp only [zJ]);omega) N)
 replace N:=N.nf
 replace N:=N.ar [] [1,1]
 refine qH call69 J N (fun Y1 w V0 N a J=>?_) (c:=x5d (t:=(d++(((⟨#[32,58,32]⟩:Bs)++b.result)++(⟨#[32,61,32]⟩:Bs)))) (j4t D (mgQ y) (y8d P _ (mgQ y))) W (.inr rfl) T_ (by (try simp only [zJ]);omega) N)
 replace N:=N.nf
 replace N:=N.ar [] [1,1]
 refine qH call70 J N (fun K0 w W0 N a J=>?_) (c:=aN (t:=((d++(((⟨#[32,58,32]⟩:Bs)++b.result)++(⟨#[32,61,32]⟩:Bs)))++wB b.body)) (c:=10) (.inr rfl) (by (try simp only [zJ]);omega) N)
 replace N:=N.nf
 refine go J N fun a J=>?_
 replace N:=N.ar [2] [2,1,2]
 refine h0 _ _ _ (by subst h;omega) ⟨(i+1),((some ⟨e,0,none⟩)),(K0),((((d++(((⟨#[32,58,32]⟩:Bs)++b.result)++(⟨#[32,61,32]⟩:Bs)))++wB b.body)++⟨#[10]⟩)),rfl,⟨J.pk,by exact N⟩,?_⟩
 exact ⟨.inr rfl,x1o b0⟩
 refine go J N fun a J=>?_
 refine zV (J.ks [5,115,116]) N (fun R mm a w=>∃(i:Nat) (bp:Option Addr) (bv:Value) (acc:Bs),mm=c.outputs.length - i/\R V [(117,.int .i64 ((i:Nat):Int))] [(0,.gs (bv) 5 1 (Lib.strCells acc)),(1,.blk e (ob [.pointer bp,bv] 130))] a w/\((bp=none∨bp=some ⟨e,0,none⟩)/\acc++(pI ((c.outputs.drop i).map y7d)++⟨#[]⟩)=dS c)) (c.outputs.length - 0) ⟨0,bp,bv,acc,rfl,⟨J.pk,N⟩,⟨k,by have h_:=z0m T n;rw [<- h_,y7n];rfl⟩⟩ ?_
 clear N J
 rintro mm a w ⟨i,bp,bv,acc,h,⟨J,N⟩,g⟩ t1 j0
 replace N:=N.nf
 obtain ⟨k,g⟩:=g
 refine go J N fun a J=>?_
 by_cases Y:i < c.outputs.length
 refine go J N fun a J=>?_
 obtain ⟨V1,rfl,L,H,f0,i1,c1,o0⟩:=Q0.el C0 Y
 obtain rfl:f0=[.string L]:=o0
 refine go J N fun a J=>?_
 have f:=z4l H g
 simp only [y7d,zJ] at f
 refine Qq J N (fun a J=>?_) (o:=by exact fun _ _ _ J O=>vW J rfl rfl (by (try simp only [zJ]);omega))
 refine Qq J N (fun a J=>?_) (o:=by exact fun _ _ _ J O=>vW J rfl rfl (by (try simp only [zJ]);omega))
 replace N:=N.pl 1
 refine qH call68 J N (fun L0 w X0 N a J=>?_) (c:=yJ (t:=acc) (s:=(((⟨#[111,117,116,112,117,116,32]⟩:Bs)++L)++(⟨#[10]⟩:Bs))) k (by (try simp only [zJ]);omega) N)
 replace N:=N.nf
 refine go J N fun a J=>?_
 replace N:=N.ar [] [2,1,2]
 refine j0 _ _ _ (by subst h;omega) ⟨(i+1),((some ⟨e,0,none⟩)),(L0),((acc++(((⟨#[111,117,116,112,117,116,32]⟩:Bs)++L)++(⟨#[10]⟩:Bs)))),rfl,⟨J.pk,by exact N⟩,?_⟩
 exact ⟨.inr rfl,z4m H g⟩
 refine go J N fun a J=>?_
 have p:=z0m Y g
 rw [y7n] at p
 replace N:=N.pl 1
 refine zS call71 J N (fun w N a J=>?_) (c:=y6a (t:=acc) N)
 by_cases Z:60000 < acc.size
 refine go J N fun a J=>?_
 replace N:=N.dl [2,1,0]
 refine jV hQ J N ?_
 exact ⟨by rw [q6o B (p▸Z)],N⟩
 replace N:=N.ar [] [1,1]
 refine zS call72 J N (fun w N a J=>?_) (c:=aZ (t:=acc) N)
 replace N:=N.nf
 refine go J N fun a J=>?_
 replace N:=N.dl [0]
 refine jV hQ J N ?_
 exact ⟨by rw [j7k B (p▸Z),p],N⟩
 refine go J N fun a J=>?_
 replace N:=N.dl [0]
 refine jV hQ J N ?_
 exact ⟨by rw [q6p B],N⟩
end Go.Sw

namespace Go.Sw
def j4p (c:Core):List Bs:=c.outputs++c.funs.flatMap fun f=>qI f.body
theorem j0e {c:Core} (h:yP c=0):c.outputs.length<=1000:=by
 obtain ⟨hl,_⟩:=mC h
 simp only [xS,Bool.or_eq_false_iff,decide_eq_false_iff_not] at hl
 omega
theorem j0d {c:Core} (h:yP c=0):c.funs.length<=1000000:=by
 obtain ⟨hl,_⟩:=mC h
 simp only [xS,Bool.or_eq_false_iff,decide_eq_false_iff_not] at hl
 omega
theorem z1d {c:Core} (h:yP c=0):(∀x,(jK (zH c) x).length<=6000)/\(∀x,∀y∈jK (zH c) x,y∈j4p c)/\(j4p c).length<=2000000:=by
 obtain ⟨hl,hr⟩:=mC h
 have e:wV c=true:=by simp only [qR,baQ] at hr;exact hr.1.1.1.1.1
 have d:c.funs.length<=300/\c.outputs.length<=6:=by
  simp only [xS,Bool.or_eq_false_iff,decide_eq_false_iff_not] at hl
  omega
 refine ⟨(tZ h).1,fun x y b=>?_,?_⟩
 ·unfold jK sY at b
  cases a:zN (zH c).funs x with
  | none=>rw [a] at b;simp [ex0,qI,calledPs,calledPa] at b
  | some f=>
   rw [a] at b
   exact List.mem_append.2 (.inr (List.mem_flatMap.2 ⟨f,dJ e a,b⟩))
 ·have:=y2k (l:=c.funs) (f:=fun f=>qI f.body) (M:=6000) (fun f a=>uL (cH hl a))
  simp only [j4p,laQ]
  have:c.funs.length * 6000<=300 * 6000:=Nat.mul_le_mul_right _ d.1
  omega
end Go.Sw

namespace Go.Sw
open Go.Proofs
set_option maxRecDepth 20000
set_option maxHeartbeats 4000000
end Go.Sw

namespace Go.Sw
open Go.Proofs.Tryz
open Go.Proofs
set_option maxRecDepth 20000
set_option maxHeartbeats 4000000
theorem x2w {V:Fz} {K:List Res} {w:World} {p:Addr} {T:Table} {mb:Nat} {ds:List Bs} (rT:RTableW V p T) (hl:T.core.funs.length<=1000000) (N:Mem V (.mp mb (jD ds)::K) w) :
  Calls prog 92 #[.pointer (some p),.map (some mb)] w (fun ee w'=>∃y:Value,ee=.returned y/\True/\Mem V (.gs y 9 1 (strs (cJ T.core.funs ds))::K) w'):=by
 obtain ⟨z1,z2,z3,z4,m5,m6,m7,m8,d9,t,d,P,S⟩:=rT.ex
 obtain ⟨f0,Z,rfl,v,m⟩:=d.fm
 refine zM func92 ntmps92 fun Q hQ a J=>?_
 refine go J N fun a J=>?_
 replace N:=N.nilRow 9 1
 replace N:=N.nf
 refine zV (J.ks [1,12,13]) N (fun R mm a w=>∃(i:Nat) (u:Value) (ns:List Bs),mm=T.core.funs.length - i/\R V [(5,u),(14,.int .i64 ((i:Nat):Int))] [(0,.gs (u) 9 1 (strs ns))] a w/\(cJ T.core.funs ds=ns++cJ (T.core.funs.drop i) ds/\ns.length<=i)) (T.core.funs.length - 0) ⟨0,.slice none 0 0,[],rfl,⟨J.pk,N⟩,⟨rfl,Nat.zero_le _⟩⟩ ?_
 clear N J
 rintro mm a w ⟨i,u,ns,l,⟨J,N⟩,k⟩ W f
 replace N:=N.nf
 obtain ⟨h,M⟩:=k
 refine go J N fun a J=>?_
 by_cases j:i < T.core.funs.length
 refine go J N fun a J=>?_
 obtain ⟨j0,rfl,e,g,A,D,B,n⟩:=d.el m j
 obtain ⟨k0,X,rfl,r,s⟩:=id n
 obtain ⟨g0,a0,rfl,E,H⟩:=r.fm
 obtain ⟨h0,b0,i0,c53,rfl,C,c0,d0,F,I,G,L⟩:=REx.fm s
 refine Alc J N fun Y w N a J=>?_
 refine Sto 0 J N fun w N a J=>?_
 refine go J N fun a J=>?_
 rcases c:yO ((jD ds)) e.name with _ | U
 have b:=congrArg (zK false (.bool false)) c
 refine Qq J N (fun a J=>?_) (o:=by exact fun _ _ _ J O=>Ok.cast (qF 2 runUnderlying121 runUnderlying9 zeroValue4 J O rfl rfl rfl) (show zK false (.bool false) (yO ((jD ds)) e.name)=.bool false from b))
 refine go J N fun a J=>?_
 replace N:=N.dl [0]
 refine f _ _ _ (by subst l;omega) ⟨(i+1),(u),(ns),rfl,⟨J.pk,N⟩,?_⟩
 exact ⟨by rw [h,zA g,q5x (z5w c)],by omega⟩
 obtain ⟨rfl,q⟩:=z5x c
 have b:=congrArg (zK false (.bool false)) c
 refine Qq J N (fun a J=>?_) (o:=by exact fun _ _ _ J O=>Ok.cast (qF 2 runUnderlying121 runUnderlying9 zeroValue4 J O rfl rfl rfl) (show zK false (.bool false) (yO ((jD ds)) e.name)=.bool true from b))
 refine qG J N fun l0 w N a J=>?_
 refine qN 2 wM J N (fun z w N a J=>?_)
 refine go J N fun a J=>?_
 first | rw [jJ] at N | rw [<- yQ] at N
 replace N:=N.dl [1,0]
 refine f _ _ _ (by subst l;omega) ⟨(i+1),(z),(ns++[e.name]),rfl,⟨J.pk,N⟩,?_⟩
 exact ⟨by rw [h,zA g,z7t q,List.append_assoc];rfl,by simp only [laQ,lcQ,lnQ];omega⟩
 refine go J N fun a J=>?_
 replace N:=N.dl [1]
 refine zD hQ J N ?_
 rw [h,zE j,y9y,List.append_nil];exact ⟨_,rfl,trivial,N⟩
theorem y7f {V:Fz} {K:List Res} {w:World} {d0:List Value} {c:Core} {v:Value} (t:RCoreX V d0 c v) (f:yP c=0) (F:c.outputs≠[]) (G:Glob V) (N:Mem V (.gs v 9 1 (strs c.outputs)::K) w) :
  Calls prog 37 #[.agg d0.toArray] w (fun ee w'=>∃y:Fz×Value×List Bs,ee=.returned (.tuple #[y.2.1,.int .i64 ((0:Nat):Int)])/\(V.Le y.1/\Reached (zH c) c.outputs y.2.2)/\Mem y.1 (.gs y.2.1 9 1 (strs (cJ c.funs y.2.2))::K) w'):=by
 obtain ⟨s1,s2,s3,q4,m,rfl,rfl,h6,h7,h8⟩:=id t
 obtain ⟨p9,B,rfl,Y,b0⟩:=h6.fm
 obtain ⟨I,C,rfl,Z,c0⟩:=h7.fm
 obtain ⟨L,D,rfl,a0,e0⟩:=h8.fm
 refine zM func37 ntmps37 fun Q hQ a J=>?_
 refine Bx J N fun A w N a J=>?_
 replace N:=N.pl 1
 refine qH call43 J N (fun M w p N a J=>?_) (c:=q5t (R:=[.gs (.slice q4 c.outputs.length m) 9 1 (strs c.outputs)]) (K:=.blk A (ob [.slice p9 c.datas.length B,.slice I c.inputs.length C,.slice L c.funs.length D,.slice q4 c.outputs.length m] 27)::K) t Thaw.own G N)
 obtain ⟨u,m0⟩:=M
 obtain ⟨e,h⟩:=p
 simp only at e h N J
 rw [if_pos f,f] at J
 obtain ⟨j,r⟩:=h f
 replace G:=G.mono e
 replace N:=N.nf
 refine Qq J N (fun a J=>?_) (o:=by exact fun _ _ _ J O=>cV false J rfl rfl rfl)
 refine go J N fun a J=>?_
 have k:=N
 clear N
 obtain ⟨W,E,z,H,s,N⟩:=y2p (l:=c.outputs) (i:=0) k rfl F
 clear k
 have d:=N
 have b:=J
 clear N J
 rw [H] at b d
 have N:=d
 have J:=b
 clear d b
 replace N:=N.nf
 refine qH call62 J N (fun P w q N a J=>?_) (c:=q6r (U:=j4p c) (j).weak s (j0e f) (fun x hx=>List.mem_append.2 (.inl hx)) (z1d f).2.2 (z1d f).1 (z1d f).2.1 N)
 obtain ⟨T,n⟩:=P
 have g:=q
 simp only at g N J
 replace N:=N.nf
 refine qH call92 J N (fun S w X N a J=>?_) (c:=x2w (j).weak (j0d f) N)
 replace N:=N.nf
 refine go J N fun a J=>?_
 replace N:=N.dl [1]
 refine jV hQ J N ?_
 exact ⟨(u,S,n),rfl,⟨e,g⟩,N⟩
end Go.Sw

namespace Go.Sw
open Go.Proofs.Tryz
open Go.Proofs
set_option maxRecDepth 100000
theorem z5v {V:Fz} {s:Bs} {n:Int} (h:-9223372036854775808<=n/\n<=9223372036854775807):RVal V [.string s,.int .i64 n,.slice none 0 0] (.mk s n []):=RVal.iff.2 ⟨_,rfl,h,SliceOf.nil 3⟩
theorem j4a {V:Fz} {s:Bs} {n:Int} {v:Value} {l:List Val} (h:-9223372036854775808<=n/\n<=9223372036854775807) (hl:SliceOf RVal V 3 v l):RVal V [.string s,.int .i64 n,v] (.mk s n l):=RVal.iff.2 ⟨v,rfl,h,hl⟩
theorem y5j {V:Fz} {a c2:List Value} {x y:Val} (h1:RVal V a x) (c:a.length=3) (b:RVal V c2 y) (d:c2.length=3):Chunks (RVal V) 3 (a++(c2++[])) [x,y] :=
 ⟨a,_,rfl,c,h1,c2,_,rfl,d,b,rfl⟩
theorem j7e {V:Fz} {c:List Value} {s:Bs} {x:Val} (h:RVal V c x) (l:c.length=3):Chunks (RNamed V) 4 ((.string s::c)++[]) [⟨s,x⟩] :=
 ⟨.string s::c,_,rfl,by simp [l],⟨c,rfl,h⟩,rfl⟩
section
variable {V:Fz} {K:List Res} {w:World} {d0:List Value} {va v:Value}
theorem j7h (G:Glob V) (N:Mem V K w) :
  Calls prog 25 #[.string textB] w (fun ee w'=>∃y:Fz×List Value×Value,ee=.returned (.tuple #[.agg y.2.1.toArray,.int .i64 ((0:Nat):Int),.int .i64 ((0:Nat):Int)])/\(V.Le y.1/\RCoreX y.1 y.2.1 saneC y.2.2)/\Mem y.1 (.gs y.2.2 9 1 (strs saneC.outputs)::K) w'):=by
 have h1:=x3g G j9h N
 rw [j0s] at h1
 refine h1.mono fun ee w' h=>?_
 obtain ⟨⟨Ψ,v0,b,v2,v3⟩,h1,⟨d,e,f,g⟩,a⟩:=h
 obtain ⟨p,m,c,rfl,hl,_⟩:=a.toSees.gsForm (i:=0) rfl
 have hm':m=saneC.outputs.length:=by simpa [strs] using hl.symm
 subst hm'
 exact ⟨(Ψ,[v0,b,v2,.slice p saneC.outputs.length c],.slice p saneC.outputs.length c),h1,⟨d,⟨v0,b,v2,p,c,rfl,rfl,e,f,g⟩⟩,a⟩
theorem j7w (f:RCore V d0 saneC) (rl:SliceOf RNamed V 4 va y4s) (G:Glob V) (N:Mem V K w) :
  Calls prog 15 #[.agg d0.toArray,va,.int .i64 ((17:Nat):Int)] w (fun ee w'=>∃y:Fz×Addr×Nat×Value,ee=.returned (.tuple #[.agg #[.slice (some y.2.1) 1 y.2.2.1,.int .i64 ((17:Nat):Int)],.int .i64 ((0:Nat):Int)]) /\
   (V.Le y.1/\NewRow V (.slice (some y.2.1) 1 y.2.2.1)/\At y.1 (y.2.1.add (0 * 4)) [.string aQ,.string sNo,.int .i64 ((7:Nat):Int),y.2.2.2])/\Mem y.1 K w'):=by
 refine (y4n (fuel:=17) f rl G N).mono fun ee w' h=>?_
 rw [j1m] at h
 obtain ⟨⟨Ψ,d⟩,h1,⟨g,i,j⟩,k⟩:=h
 obtain ⟨s,rfl,O⟩:=i
 obtain ⟨cs,hr,l⟩:=O
 obtain ⟨o,rest,rfl,n,⟨b,rfl,hb⟩,rfl⟩:=l
 obtain ⟨s2,rfl,_,_⟩:=RVal.iff.1 hb
 rcases hr with ⟨_,J⟩ | ⟨q,m,c,rfl,hl,_,a⟩
 ·cases J
 ·have e:m=1:=by simp at hl;omega
  subst e
  exact ⟨(Ψ,q,c,s2),h1,⟨g,j _ _ rfl,a (by simp)⟩,k⟩
theorem j7v (a:RCore V d0 saneC) (rl:SliceOf RNamed V 4 va y4s) (G:Glob V) (N:Mem V K w) :
  Calls prog 15 #[.agg d0.toArray,va,.int .i64 ((16:Nat):Int)] w (fun ee w'=>∃y:Fz×Option Addr×Nat,ee=.returned (.tuple #[.agg #[.slice y.2.1 0 y.2.2,.int .i64 ((0:Nat):Int)],.int .i64 ((4:Nat):Int)])/\V.Le y.1/\Mem y.1 K w'):=by
 refine (j7u (fuel:=16) a rl G N).mono fun ee w' h=>?_
 rw [j1l] at h
 obtain ⟨⟨Ψ,d⟩,h1,⟨b,e⟩,f⟩:=h
 obtain ⟨s,rfl,O⟩:=e
 obtain ⟨p,c,rfl,_⟩:=O.form (by decide)
 exact ⟨(Ψ,p,c),h1,b,f⟩
theorem j7l (a:RCore V d0 saneC) (G:Glob V) (b:Tabs V) (N:Mem V K w) :
  Calls prog 23 #[.agg d0.toArray] w (fun ee w'=>ee=.returned (.tuple #[.string textB,.int .i64 ((0:Nat):Int)])/\Mem V K w'):=by
 refine (x3k a G b N).mono fun ee w' h=>?_
 rw [j0v] at h
 exact h
theorem j9o (a:RCore V d0 saneC) (rl:SliceOf RVal V 3 va q7d) (G:Glob V) (N:Mem V K w) :
  Calls prog 20 #[.agg d0.toArray,.string cX,va,.int .i64 ((9:Nat):Int)] w (fun ee w'=>∃y:Fz×Option Addr×Nat,ee=.returned (.tuple #[.agg #[.string sNo,.int .i64 ((1:Nat):Int),.slice y.2.1 0 y.2.2],.int .i64 ((6:Nat):Int),.int .i64 ((0:Nat):Int)])/\V.Le y.1/\Mem y.1 K w'):=by
 refine (q8q (fuel:=9) a rl (fun h=>j5c h _ _) G N).mono fun ee w' h=>?_
 rw [j5d] at h
 obtain ⟨⟨Ψ,d⟩,h1,⟨b,e⟩,f⟩:=h
 obtain ⟨s,rfl,_,O⟩:=RVal.iff.1 e
 obtain ⟨p,c,rfl,_⟩:=O.form (by decide)
 exact ⟨(Ψ,p,c),h1,b,f⟩
theorem j7n (a:RCoreX V d0 saneC v) (G:Glob V) (N:Mem V (.gs v 9 1 (strs saneC.outputs)::K) w) :
  Calls prog 37 #[.agg d0.toArray] w (fun ee w'=>∃y:Fz×Value,ee=.returned (.tuple #[y.2,.int .i64 ((0:Nat):Int)])/\V.Le y.1/\Mem y.1 (.gs y.2 9 1 (strs [tM,aQ])::K) w'):=by
 refine (y7f a z7q (by simp [saneC]) G N).mono fun ee w' h=>?_
 obtain ⟨⟨Ψ,v',ds⟩,h1,⟨c,d⟩,b⟩:=h
 rw [j0i d] at b
 exact ⟨(Ψ,v'),h1,c,b⟩
theorem q9w {b d f g:Value} (a:RCoreX V [b,d,f,g] saneC v) (N:Mem V K w) :
  Calls prog 58 #[.agg #[b,d,f,g],.string sR] w (fun ee w'=>ee=.returned (.bool true)/\Mem V K w'):=by
 obtain ⟨s,t,u,q,c,_,e,h1,_,_⟩:=a
 injection e with i _
 subst i
 refine (z0u h1 N).mono fun ee w' h=>?_
 rw [q5h] at h
 exact h
theorem j0m {b d f g:Value} (a:RCoreX V [b,d,f,g] saneC v) (N:Mem V K w) :
  Calls prog 58 #[.agg #[b,d,f,g],.string vS] w (fun ee w'=>ee=.returned (.bool false)/\Mem V K w'):=by
 obtain ⟨s,t,u,q,c,_,e,h1,_,_⟩:=a
 injection e with i _
 subst i
 refine (z0u h1 N).mono fun ee w' h=>?_
 rw [q5z] at h
 exact h
end
end Go.Sw

namespace Go.Sw
open Go.Proofs.Tryz
open Go.Proofs
set_option maxRecDepth 20000
set_option maxHeartbeats 4000000
theorem j4b {V:Fz} {K:List Res} {w:World} (G:Glob V) (p:Tabs V) (N:Mem V K w) :
  Calls prog 18 #[] w (fun ee w'=>ee=.returned (.bool true)/\Mem V K w'):=by
 refine zM func18 ntmps18 fun Q hQ a J=>?_
 refine zS call57 J N (fun w N a J=>?_) (c:=j4i N)
 refine qH call25 J N (fun y3 w i0 N a J=>?_) (c:=j7h G N)
 obtain ⟨q1,d6,v7⟩:=y3
 obtain ⟨P,l⟩:=i0
 simp only at P l N J
 replace G:=G.mono P
 replace p:=Tabs.mono p P
 obtain ⟨h1,i1,j1,g1,r0,rfl,rfl,f0,g0,h0⟩:=id l
 obtain ⟨Y0,S0,rfl,s0,A0⟩:=f0.fm
 obtain ⟨Z0,c23,rfl,t0,B0⟩:=g0.fm
 obtain ⟨a1,c27,rfl,u0,C0⟩:=h0.fm
 replace N:=N.nf
 refine Alc J N fun O0 w N a J=>?_
 refine Sto 0 J N fun w N a J=>?_
 refine yE J N fun a J=>?_
 refine Alc J N fun P0 w N a J=>?_
 refine Sto 0 J N fun w N a J=>?_
 refine yE J N fun a J=>?_
 refine yE J N fun a J=>?_
 refine qG J N fun l1 w N a J=>?_
 have f:=N
 clear N
 obtain ⟨a0,A,N,F⟩:=f.freezeRow (i:=0) rfl
 clear f
 replace G:=G.mono A
 replace p:=Tabs.mono p A
 replace l:=l.mono A
 replace N:=N.nf
 have q:SliceOf RVal a0 3 _ ([(Val.mk sNo 4 []),(Val.mk z0d 0 [])]):=⟨_,F,(show Chunks (RVal _) 3 ([.string ⟨#[]⟩,.int .i64 ((4:Nat):Int),.slice none 0 0]++([.string ⟨#[78,105,108]⟩,.int .i64 ((0:Nat):Int),.slice none 0 0]++[])) [(Val.mk sNo 4 []),(Val.mk z0d 0 [])] from y5j (z5v (by decide)) rfl (z5v (by decide)) rfl)⟩
 obtain ⟨k0,c40,z,w0,D0⟩:=q.form (by decide)
 have g:=N
 clear N
 subst z
 have N:=g
 clear g
 refine yE J N fun a J=>?_
 refine qG J N fun m1 w N a J=>?_
 have f:=N
 clear N
 obtain ⟨b0,u,N,H⟩:=f.freezeRow (i:=0) rfl
 clear f
 replace G:=G.mono u
 replace p:=Tabs.mono p u
 replace l:=l.mono u
 replace q:=q.up u
 replace N:=N.nf
 have r:SliceOf RVal b0 3 _ ([(Val.mk sNo 3 []),(Val.mk oQ 0 [(Val.mk sNo 4 []),(Val.mk z0d 0 [])])]):=⟨_,H,(show Chunks (RVal _) 3 ([.string ⟨#[]⟩,.int .i64 ((3:Nat):Int),.slice none 0 0]++([.string ⟨#[67,111,110,115]⟩,.int .i64 ((0:Nat):Int),.slice k0 ([(Val.mk sNo 4 []),(Val.mk z0d 0 [])]).length c40]++[])) [(Val.mk sNo 3 []),(Val.mk oQ 0 [(Val.mk sNo 4 []),(Val.mk z0d 0 [])])] from y5j (z5v (by decide)) rfl (j4a (by decide) q) rfl)⟩
 obtain ⟨l0,e0,z,x0,E0⟩:=r.form (by decide)
 have g:=N
 clear N
 subst z
 have N:=g
 clear g
 refine yE J N fun a J=>?_
 refine z3h J N fun a J=>?_
 refine qG J N fun n1 w N a J=>?_
 have f:=N
 clear N
 obtain ⟨c0,v,N,I⟩:=f.freezeRow (i:=0) rfl
 clear f
 replace G:=G.mono v
 replace p:=Tabs.mono p v
 replace l:=l.mono v
 replace r:=r.up v
 replace N:=N.nf
 have h:SliceOf RNamed c0 4 _ (y4s):=⟨_,I,(show Chunks (RNamed _) 4 ([.string ⟨#[120,115]⟩,.string ⟨#[67,111,110,115]⟩,.int .i64 ((0:Nat):Int),.slice l0 ([(Val.mk sNo 3 []),(Val.mk oQ 0 [(Val.mk sNo 4 []),(Val.mk z0d 0 [])])]).length e0]++[]) [⟨z_xs,(Val.mk oQ 0 [(Val.mk sNo 3 []),(Val.mk oQ 0 [(Val.mk sNo 4 []),(Val.mk z0d 0 [])])])⟩] from j7e (j4a (by decide) r) rfl)⟩
 obtain ⟨b1,c58,z,y0,F0⟩:=h.form (by decide)
 have g:=N
 clear N
 subst z
 have N:=g
 clear g
 refine go J N fun a J=>?_
 have j0:=l
 have G0:=G
 obtain ⟨J0,T,t,L,j⟩:=N.freezeRowD (i:=2) rfl (by simp [saneC,strs])
 have N:=t
 clear t
 replace G:=G.mono j.le
 replace p:=Tabs.mono p j.le
 replace l:=l.mono j.le
 replace h:=h.mono RNamed.mono j.le
 replace N:=N.nf
 have d:=l.full (SliceOf.strs.2 L)
 refine qH call15 J N (fun m0 w U N a J=>?_) (c:=j7w d h G N)
 obtain ⟨K0,c1,T0,k1⟩:=m0
 obtain ⟨m,D,e⟩:=U
 simp only at m D e N J
 have Y:=j.ne (Fz.Le.refl _) D rfl
 replace G:=G.mono m
 replace p:=Tabs.mono p m
 replace h:=h.up m
 replace d:=RCore.mono _ _ _ _ m d
 replace N:=N.nf
 refine Alc J N fun Q0 w N a J=>?_
 refine Sto 0 J N fun w N a J=>?_
 refine qH call15 J N (fun n0 w W N a J=>?_) (c:=j7v d h G N)
 obtain ⟨L0,d1,U0⟩:=n0
 have n:=W
 simp only at n N J
 replace G:=G.mono n
 replace p:=Tabs.mono p n
 replace d:=RCore.mono _ _ _ _ n d
 replace e:=e.mono n
 replace N:=N.nf
 refine Alc J N fun R0 w N a J=>?_
 refine Sto 0 J N fun w N a J=>?_
 refine zS call23 J N (fun w N a J=>?_) (c:=j7l d G p N)
 refine yE J N fun a J=>?_
 refine yE J N fun a J=>?_
 refine qG J N fun o1 w N a J=>?_
 have f:=N
 clear N
 obtain ⟨d0,y,N,M⟩:=f.freezeRow (i:=0) rfl
 clear f
 replace G:=G.mono y
 replace p:=Tabs.mono p y
 replace d:=RCore.mono _ _ _ _ y d
 replace e:=e.mono y
 replace N:=N.nf
 have E:SliceOf RVal d0 3 _ (q7d):=⟨_,M,(show Chunks (RVal _) 3 ([.string ⟨#[]⟩,.int .i64 ((2:Nat):Int),.slice none 0 0]++([.string ⟨#[]⟩,.int .i64 ((3:Nat):Int),.slice none 0 0]++[])) [(Val.mk sNo 2 []),(Val.mk sNo 3 [])] from y5j (z5v (by decide)) rfl (z5v (by decide)) rfl)⟩
 obtain ⟨e1,V0,z,z0,H0⟩:=E.form (by decide)
 have g:=N
 clear N
 subst z
 have N:=g
 clear g
 refine qH call20 J N (fun o0 w X N a J=>?_) (c:=j9o d E G N)
 obtain ⟨M0,f1,W0⟩:=o0
 have k:=X
 simp only at k N J
 replace G:=G.mono k
 replace p:=Tabs.mono p k
 replace d:=RCore.mono _ _ _ _ k d
 replace e:=e.mono k
 replace N:=N.nf
 refine Alc J N fun q0 w N a J=>?_
 refine Sto 0 J N fun w N a J=>?_
 refine go J N fun a J=>?_
 obtain ⟨C,t⟩:=j.back _ _ _ ((((m).trans n).trans y).trans k) N
 have N:=t
 clear t
 have B:=j0.mono C
 have GZ:=G0.mono C
 have R:=e.del (b:=T) Y
 replace N:=N.nf
 refine qH call37 J N (fun Z w S N a J=>?_) (c:=j7n B GZ N)
 obtain ⟨p0,I0⟩:=Z
 have s:=S
 simp only at s N J
 replace B:=B.mono s
 replace R:=R.mono s
 replace N:=N.nf
 refine Qq J N (fun a J=>?_) (o:=by exact fun _ _ _ J O=>xK true J rfl rfl rfl)
 refine Qq J N (fun a J=>?_) (o:=by exact fun _ _ _ J O=>xK true J rfl rfl rfl)
 refine Qq J N (fun a J=>?_) (o:=by exact fun _ _ _ J O=>xK true J rfl rfl rfl)
 refine Qq J N (fun a J=>?_) (o:=by exact fun _ _ _ J O=>xK true J rfl rfl rfl)
 refine Qq J N (fun a J=>?_) (o:=by exact fun _ _ _ J O=>xK true J rfl rfl rfl)
 refine Qq J N (fun a J=>?_) (o:=by exact fun _ _ _ J O=>xK true J rfl rfl rfl)
 refine Qq J N (fun a J=>?_) (o:=by exact fun _ _ _ J O=>xK true J rfl rfl rfl)
 refine Qq J N (fun a J=>?_) (o:=by exact fun _ _ _ J O=>xK true J rfl rfl rfl)
 refine Qq J N (fun a J=>?_) (o:=by exact fun _ _ _ J O=>z1y 0 J rfl rfl runUnderlying28 sizeOf62 (by decide))
 refine Qq J N (fun a J=>?_) (o:=by exact fun _ _ _ J O=>xK true J rfl rfl rfl)
 refine Qq J N (fun a J=>?_) (o:=by exact fun _ _ _ J O=>xK true J rfl rfl rfl)
 refine zS call57 J N (fun w N a J=>?_) (c:=j4i N)
 refine Qq J N (fun a J=>?_) (o:=by exact fun _ _ _ J O=>q3g true J rfl rfl (decide_eq_true rfl))
 refine Qq J N (fun a J=>?_) (o:=by exact fun _ _ _ J O=>xK true J rfl rfl rfl)
 refine Qq J N (fun a J=>?_) (o:=by exact fun _ _ _ J O=>xK true J rfl rfl rfl)
 refine Qq J N (fun a J=>?_) (o:=by exact fun _ _ _ J O=>y5x 0 (2) J O rfl rfl (rfl) (by decide) runUnderlying25)
 refine Qq J N (fun a J=>?_) (o:=by exact fun _ _ _ J O=>xK true J rfl rfl rfl)
 refine zS call58 J N (fun w N a J=>?_) (c:=q9w B N)
 refine zS call58 J N (fun w N a J=>?_) (c:=j0m B N)
 refine go J N fun a J=>?_
 replace N:=N.le ((((((P).trans A).trans u).trans v).trans C).trans s)
 replace N:=N.dl [5,4,3,2,1,0]
 refine zD hQ J N ?_
 exact ⟨by rfl,N⟩
end Go.Sw

namespace Go.Sw
open Go.Proofs
section
variable {P:Program} {n:Nat} {E:List (Nat×Value)} {D:List Deferred} {a:Act} {w:World} {ty:TypeId}
end
mutual
theorem y4r:∀v:Val,q0f v v=true
 | .mk c n l=>by simp only [q0f,Val.con,Val.num,Val.args,decide_true,Bool.true_and];exact sameVs_refl l
theorem sameVs_refl:∀l:List Val,sameVs l l=true
 | []=>by simp only [sameVs]
 | x::xs=>by rw [q7c,y4r x,sameVs_refl xs];rfl
end
theorem q7b:∀l:List Named,q2s l l=true
 | []=>rfl
 | x::xs=>by rw [q7a,y4r,q7b xs];simp
end Go.Sw

namespace Go.Sw
open Go.Proofs.Tryz
open Go.Proofs
set_option maxRecDepth 20000
set_option maxHeartbeats 4000000
variable {V:Fz} {K:List Res} {w:World}
theorem y7e {l:List Bs} {v:Value} {d1:List Value} {e:Ex} (l1:REx V d1 e) (hb:l.length+(zP e).length<=8796093000000) (ih:∀x:Ex,x.sz < e.sz->∀{V:Fz} {K:List Res} {w:World} {d:List Value} {v:Value} {l:List Bs},l.length+(zP x).length<=8796093000000->REx V d x->Mem V (.gs v 9 1 (strs l)::K) w->Calls prog 147 #[v,.agg d.toArray] w (fun ee w'=>∃v,ee=.returned v/\Mem V (.gs v 9 1 (strs (l++zP x))::K) w')) (N:Mem V (.gs v 9 1 (strs l)::K) w) :
  Calls prog 147 #[v,.agg d1.toArray] w (fun ee w'=>∃v,ee=.returned v/\Mem V (.gs v 9 1 (strs (l++zP e))::K) w'):=by
 obtain ⟨X,c4,p9,t,rfl,O1,h2,h8,H2,j0,U1,G⟩:=REx.fm l1
 refine zM func147 ntmps147 fun Q hQ a J=>?_
 refine Bx J N fun f w N a J=>?_
 refine go J N fun a J=>?_
 by_cases C2:e.kind=6
 refine qG J N fun W w N a J=>?_
 refine qN 2 wM J N (fun v20 w N a J=>?_) (hb:=by simp [yF];omega)
 first | rw [jJ] at N | rw [<- yQ] at N
 refine go J N fun a J=>?_
 refine mR (fun mm a w=>∃(i:Nat) (u:Value) (m:List Bs),mm=e.args.length - i/\EnvR 53 [(0,u),(3,.pointer (some ⟨f,0,none⟩)),(5,.int .i64 ((i:Nat):Int))] [] a/\Mem V (.gs (W) 9 1 [.string e.name]::.blk f (ob [.int .i64 (e.kind),.int .i64 (e.num),.string e.name,.slice X e.args.length c4,.slice p9 e.arms.length t] 66)::.gs (u) 9 1 (strs m)::K) w/\(l++zP e=m++bindPs (e.args.drop i)++bindPa e.arms)) (e.args.length - 0) ⟨0,v20,(l++[e.name]),rfl,J.pk,N,by rw [kY];simp [*]⟩ ?_
 clear N J
 rintro mm a w ⟨i,u,m,q,J,N,z⟩ s2 g0
 refine go J N fun a J=>?_
 by_cases e0:i < e.args.length
 refine go J N fun a J=>?_
 obtain ⟨O2,rfl,o1,s,z1,R1,M1,H⟩:=h2.el j0 e0
 obtain ⟨I2,w2,J2,x2,rfl,P1,D2,E2,V1,b2,W1,c2⟩:=REx.fm H
 refine go J N fun a J=>?_
 replace N:=N.pl 2
 refine st J rfl rfl rfl (wC J rfl call147 (ih _ (by first | exact Ex.lt_args (mgQ s) | exact Ex.lt_arms (mgQ s)) (l:=m) (by have hq:=congrArg List.length z;rw [zA s] at hq;simp only [bindPs,qA,laQ] at hq hb ⊢;omega) H N) fun m1 w N a J=>?_)
 replace N:=N.nf
 refine go J N fun a J=>?_
 replace N:=N.ar [] [2,2]
 refine g0 _ _ _ (by subst q;omega) ⟨(i+1),(m1),((m++zP o1)),rfl,J.pk,N,?_⟩
 rw [z,zA s];simp [bindPs]
 refine go J N fun a J=>?_
 refine mR (fun mm a w=>∃(j:Nat) (U:Value) (m2:List Bs),mm=e.arms.length - j/\EnvR 53 [(0,U),(3,.pointer (some ⟨f,0,none⟩)),(6,.int .i64 ((j:Nat):Int))] [] a/\Mem V (.gs (W) 9 1 [.string e.name]::.blk f (ob [.int .i64 (e.kind),.int .i64 (e.num),.string e.name,.slice X e.args.length c4,.slice p9 e.arms.length t] 66)::.gs (U) 9 1 (strs m2)::K) w/\(l++zP e=m2++bindPa (e.arms.drop j))) (e.arms.length - 0) ⟨0,u,m,rfl,J.pk,N,by rw [z,zE e0];simp [bindPs]⟩ ?_
 clear N J
 rintro mm a w ⟨j,U,m2,q,J,N,r⟩ t2 h0
 refine go J N fun a J=>?_
 by_cases L:j < e.arms.length
 refine go J N fun a J=>?_
 obtain ⟨k1,rfl,p1,I,A1,S1,N1,k0⟩:=h8.el G L
 obtain ⟨P2,v2,rfl,f0,D0⟩:=RArm.iff.1 k0
 obtain ⟨K2,y2,rfl,X1,d2⟩:=f0.fm
 obtain ⟨L2,z2,M2,A2,rfl,Q1,F2,G2,Y1,e2,Z1,f2⟩:=REx.fm D0
 refine qN 2 wM J N (fun n1 w N a J=>?_) (hr:=(SliceOf.strs.1 f0).rowIn N.toSees) (h1:=cP _) (hb:=by have hq:=congrArg List.length r;rw [zA I,qA] at hq;simp only [laQ,yF] at hq hb ⊢;omega)
 first | rw [jJ] at N | rw [<- yQ] at N
 refine go J N fun a J=>?_
 obtain ⟨g,h⟩:=qX L
 obtain ⟨B1,T1,i0,l0⟩:=h8.elem h
 obtain ⟨Q2,s1,rfl,E0,C⟩:=RArm.iff.1 l0
 obtain ⟨N2,B2,rfl,a2,g2⟩:=E0.fm
 obtain ⟨m0,Y,n0,Z,rfl,H0,C1,D1,O0,Y0,P0,Z0⟩:=REx.fm C
 refine Qq J N (fun a J=>?_) (o:=by exact fun _ _ _ J O=>xW 2 (vs:=[.int .i64 (g.body.kind),.int .i64 (g.body.num),.string g.body.name,.slice m0 g.body.args.length Y,.slice n0 g.body.arms.length Z]) J O rfl i0 isAgg66 sizeOf66 rfl rfl)
 replace N:Mem V (.gs (W) 9 1 [.string e.name]::.blk f (ob [.int .i64 (e.kind),.int .i64 (e.num),.string e.name,.slice X e.args.length c4,.slice (some k1) e.arms.length t] 66)::.gs (n1) 9 1 (strs (m2++g.vars))::K) w:=by rw [show g=p1 from Option.some.inj (h.symm.trans I)];exact N
 replace N:=N.pl 2
 refine st J rfl rfl rfl (wC J rfl call147 (ih _ (by first | exact Ex.lt_args (mgQ h) | exact Ex.lt_arms (mgQ h)) (l:=m2++g.vars) (by have hq:=congrArg List.length r;rw [zA h] at hq;simp only [bindPs,qA,laQ] at hq hb ⊢;omega) C N) fun r0 w N a J=>?_)
 replace N:=N.nf
 refine go J N fun a J=>?_
 replace N:=N.ar [] [2,2]
 refine h0 _ _ _ (by subst q;omega) ⟨(j+1),(r0),((m2++g.vars++zP g.body)),rfl,J.pk,N,?_⟩
 rw [r,zA h,qA];simp
 refine go J N fun a J=>?_
 replace N:=N.dl [1,0]
 refine zD hQ J N ?_
 refine ⟨_,rfl,?_⟩
 rw [show (strs (l++zP e))=(strs m2) by rw [r,zE L];simp [bindPa]];exact N
 refine go J N fun a J=>?_
 refine mR (fun mm a w=>∃(i:Nat) (u:Value) (m:List Bs),mm=e.args.length - i/\EnvR 53 [(0,u),(3,.pointer (some ⟨f,0,none⟩)),(5,.int .i64 ((i:Nat):Int))] [] a/\Mem V (.blk f (ob [.int .i64 (e.kind),.int .i64 (e.num),.string e.name,.slice X e.args.length c4,.slice p9 e.arms.length t] 66)::.gs (u) 9 1 (strs m)::K) w/\(l++zP e=m++bindPs (e.args.drop i)++bindPa e.arms)) (e.args.length - 0) ⟨0,v,l,rfl,J.pk,N,by rw [kY];simp [*]⟩ ?_
 clear N J
 rintro mm a w ⟨i,u,m,q,J,N,p⟩ q1 M
 refine go J N fun a J=>?_
 by_cases D:i < e.args.length
 refine go J N fun a J=>?_
 obtain ⟨p2,rfl,u0,n,A0,L0,F0,A⟩:=h2.el j0 D
 obtain ⟨i2,c135,j2,v1,rfl,I0,E1,F1,Q0,a1,R0,b1⟩:=REx.fm A
 refine go J N fun a J=>?_
 replace N:=N.pl 1
 refine st J rfl rfl rfl (wC J rfl call147 (ih _ (by first | exact Ex.lt_args (mgQ n) | exact Ex.lt_arms (mgQ n)) (l:=m) (by have hq:=congrArg List.length p;rw [zA n] at hq;simp only [bindPs,qA,laQ] at hq hb ⊢;omega) A N) fun v145 w N a J=>?_)
 replace N:=N.nf
 refine go J N fun a J=>?_
 replace N:=N.pl 1
 refine M _ _ _ (by subst q;omega) ⟨(i+1),(v145),((m++zP u0)),rfl,J.pk,N,?_⟩
 rw [p,zA n];simp [bindPs]
 refine go J N fun a J=>?_
 refine mR (fun mm a w=>∃(j:Nat) (U:Value) (m2:List Bs),mm=e.arms.length - j/\EnvR 53 [(0,U),(3,.pointer (some ⟨f,0,none⟩)),(6,.int .i64 ((j:Nat):Int))] [] a/\Mem V (.blk f (ob [.int .i64 (e.kind),.int .i64 (e.num),.string e.name,.slice X e.args.length c4,.slice p9 e.arms.length t] 66)::.gs (U) 9 1 (strs m2)::K) w/\(l++zP e=m2++bindPa (e.arms.drop j))) (e.arms.length - 0) ⟨0,u,m,rfl,J.pk,N,by rw [p,zE D];simp [bindPs]⟩ ?_
 clear N J
 rintro mm a w ⟨j,U,m2,q,J,N,k⟩ r1 P
 refine go J N fun a J=>?_
 by_cases y:j < e.arms.length
 refine go J N fun a J=>?_
 obtain ⟨q0,rfl,w0,B,B0,M0,G0,S⟩:=h8.el G y
 obtain ⟨q2,t1,rfl,E,c0⟩:=RArm.iff.1 S
 obtain ⟨k2,w1,rfl,S0,c1⟩:=E.fm
 obtain ⟨l2,c173,n2,x1,rfl,J0,G1,H1,T0,e1,U0,f1⟩:=REx.fm c0
 refine qN 1 wM J N (fun s0 w N a J=>?_) (hr:=(SliceOf.strs.1 E).rowIn N.toSees) (h1:=cP _) (hb:=by have hq:=congrArg List.length k;rw [zA B,qA] at hq;simp only [laQ,yF] at hq hb ⊢;omega)
 first | rw [jJ] at N | rw [<- yQ] at N
 refine go J N fun a J=>?_
 obtain ⟨b,c⟩:=qX y
 obtain ⟨C0,N0,R,T⟩:=h8.elem c
 obtain ⟨r2,u1,rfl,d0,F⟩:=RArm.iff.1 T
 obtain ⟨o2,y1,rfl,V0,g1⟩:=d0.fm
 obtain ⟨o0,a0,p0,b0,rfl,K0,I1,K1,W0,i1,X0,j1⟩:=REx.fm F
 refine Qq J N (fun a J=>?_) (o:=by exact fun _ _ _ J O=>xW 2 (vs:=[.int .i64 (b.body.kind),.int .i64 (b.body.num),.string b.body.name,.slice o0 b.body.args.length a0,.slice p0 b.body.arms.length b0]) J O rfl R isAgg66 sizeOf66 rfl rfl)
 replace N:Mem V (.blk f (ob [.int .i64 (e.kind),.int .i64 (e.num),.string e.name,.slice X e.args.length c4,.slice (some q0) e.arms.length t] 66)::.gs (s0) 9 1 (strs (m2++b.vars))::K) w:=by rw [show b=w0 from Option.some.inj (c.symm.trans B)];exact N
 replace N:=N.pl 1
 refine st J rfl rfl rfl (wC J rfl call147 (ih _ (by first | exact Ex.lt_args (mgQ c) | exact Ex.lt_arms (mgQ c)) (l:=m2++b.vars) (by have hq:=congrArg List.length k;rw [zA c] at hq;simp only [bindPs,qA,laQ] at hq hb ⊢;omega) F N) fun t0 w N a J=>?_)
 replace N:=N.nf
 refine go J N fun a J=>?_
 replace N:=N.pl 1
 refine P _ _ _ (by subst q;omega) ⟨(j+1),(t0),((m2++b.vars++zP b.body)),rfl,J.pk,N,?_⟩
 rw [k,zA c,qA];simp
 refine go J N fun a J=>?_
 replace N:=N.dl [0]
 refine zD hQ J N ?_
 refine ⟨_,rfl,?_⟩
 rw [show (strs (l++zP e))=(strs m2) by rw [k,zE y];simp [bindPa]];exact N
theorem q6q {d:List Value} {e:Ex} {v:Value} {l:List Bs} (hb:l.length+(zP e).length<=8796093000000) (re:REx V d e) (N:Mem V (.gs v 9 1 (strs l)::K) w) :
  Calls prog 147 #[v,.agg d.toArray] w (fun ee w'=>∃v,ee=.returned v/\Mem V (.gs v 9 1 (strs (l++zP e))::K) w'):=by
 suffices H:∀n (e:Ex),e.sz < n->∀{V:Fz} {K:List Res} {w:World} {d:List Value} {v:Value} {l:List Bs},l.length+(zP e).length<=8796093000000->REx V d e->Mem V (.gs v 9 1 (strs l)::K) w->Calls prog 147 #[v,.agg d.toArray] w (fun ee w'=>∃v,ee=.returned v/\Mem V (.gs v 9 1 (strs (l++zP e))::K) w') from H _ e (Nat.lt_succ_self _) hb re N
 intro n
 induction n with
 | zero=>intro e h;omega
 | succ n b=>intro e h V K w d v l hb re N;exact y7e re hb (fun x c _ _ _ _ _ _ a r m=>b x (by omega) a r m) N
theorem z9x {v0:Value} {l:List Bs} {s:Bs} (f:SliceOf RStr V 1 v0 l) (N:Mem V K w) :
  Calls prog 87 #[v0,.string s] w (fun ee w'=>ee=.returned (.bool (oR l s))/\Mem V K w'):=by
 obtain ⟨v,c0,rfl,r,k⟩:=f.fm
 refine zM func87 ntmps87 fun Q n a J=>?_
 refine go J N fun a J=>?_
 refine zV (J.ks [0,1]) N (fun R mm a w=>∃(i:Nat),mm=l.length - i/\R V [(5,.int .i64 ((i:Nat):Int))] [] a w/\(oR l s=oR (l.drop i) s)) (l.length - 0) ⟨0,rfl,⟨J.pk,N⟩,rfl⟩ ?_
 clear N J
 rintro mm a w ⟨i,j,⟨J,N⟩,c⟩ u h
 refine go J N fun a J=>?_
 by_cases m:i < l.length
 refine go J N fun a J=>?_
 obtain ⟨t,rfl,g,b,d,p,o,e⟩:=f.el k m
 obtain rfl:d=[.string g]:=e
 refine go J N fun a J=>?_
 by_cases q:g=s
 refine zD n J N ?_
 exact zL N (by rw [c,zA b,z7i];simp [*])
 refine go J N fun a J=>?_
 refine h _ _ _ (by subst j;omega) ⟨(i+1),rfl,⟨J.pk,N⟩,?_⟩
 rw [c,zA b,z7i];simp [*]
 refine zD n J N ?_
 exact zL N (by rw [c,zE m];rfl)
end Go.Sw

namespace Go.Sw
open Go.Proofs
set_option maxRecDepth 20000
set_option maxHeartbeats 4000000
theorem j9j {V:Fz} {K:List Res} {w:World} {d0:List Value} {f:Fun} (n:RFun V d0 f) (hb:f.params.length+(zP f.body).length<=8796093000000) (N:Mem V K w) :
  Calls Tryz.prog 88 #[.agg d0.toArray] w (fun ee w'=>∃v,ee=.returned v/\Mem V (.gs v 9 1 (strs (f.params.map Param.name++zP f.body))::K) w'):=by
 obtain ⟨s1,Y,rfl,r,s⟩:=id n
 obtain ⟨Z,c4,rfl,P,k⟩:=r.fm
 obtain ⟨S,G,T,H,rfl,y,I,L,A,C,B,D⟩:=REx.fm s
 refine zM Tryz.func88 Tryz.ntmps88 fun Q M a J=>?_
 refine Bx J N fun F w N a J=>?_
 refine go J N fun a J=>?_
 replace N:=N.nilRow 9 1
 replace N:=N.nf
 refine go J N fun a J=>?_
 refine zV (J.ks [1]) N (fun R mm a w=>∃(i:Nat) (u:Value) (nl:List Bs),mm=f.params.length - i/\R V [(3,u),(4,.int .i64 ((i:Nat):Int))] [(0,.gs (u) 9 1 (strs nl))] a w/\(f.params.map Param.name=nl++(f.params.drop i).map Param.name)) (f.params.length - 0) ⟨0,.slice none 0 0,[],rfl,⟨J.pk,N⟩,rfl⟩ ?_
 clear N J
 rintro mm a w ⟨i,u,nl,j,⟨J,N⟩,b⟩ E e
 replace N:=N.nf
 refine go J N fun a J=>?_
 by_cases d:i < f.params.length
 refine go J N fun a J=>?_
 obtain ⟨U,rfl,p,h,q,z,t,g⟩:=r.el k d
 obtain rfl:=id g
 refine qG J N fun W w N a J=>?_
 refine qN 1 wM J N (fun o w N a J=>?_) (hb:=by have m:=congrArg List.length (b);simp only [List.length_map,laQ,yF,lcQ,lnQ] at m ⊢;omega)
 first | rw [jJ] at N | rw [<- yQ] at N
 refine go J N fun a J=>?_
 replace N:=N.dl [0]
 refine e _ _ _ (by subst j;omega) ⟨(i+1),(o),(nl++[p.name]),rfl,⟨J.pk,N⟩,?_⟩
 rw [b,zA h];simp
 refine go J N fun a J=>?_
 have c:=b
 rw [zE d] at c
 simp only [List.map_nil,List.append_nil] at c
 rw [<- c] at N
 refine go J N fun a J=>?_
 refine st J rfl rfl rfl (wC J rfl Tryz.call147 (q6q (l:=(f.params.map Param.name)) (by simp only [List.length_map];omega) s N) fun X w N a J=>?_)
 replace N:=N.nf
 refine go J N fun a J=>?_
 replace N:=N.dl [1]
 refine zD M J N ?_
 refine ⟨_,rfl,?_⟩
 rw [show (strs (f.params.map Param.name++zP f.body))=(strs ((f.params.map Param.name)++zP f.body)) by rfl];exact N
end Go.Sw

namespace Go.Sw
open Go.Proofs.Tryz
open Go.Proofs
set_option maxRecDepth 20000
set_option maxHeartbeats 4000000
variable {V:Fz} {K:List Res} {w:World}
theorem z6g {s:Bs} {lo a:Nat} (h:s.size < 1∨24 < s.size∨zG s 0 < lo∨a < zG s 0):z0c s lo a=false:=if_pos h
theorem j8l {s:Bs} {lo a:Nat} (h:¬(s.size < 1∨24 < s.size∨zG s 0 < lo∨a < zG s 0)) (h1:xC s=s.size):z0c s lo a=true:=by unfold z0c;rw [if_neg h,if_pos h1]
theorem q0q {s:Bs} {lo c i:Nat} (h1:xC s=i) (a:i≠s.size) (b:zG s i≠39∨i+1=s.size):z0c s lo c=false:=by
 subst h1;unfold z0c;rw [if_neg a,if_pos b];split <;> rfl
theorem z8c {s:Bs} {lo a i:Nat} (h:¬(s.size < 1∨24 < s.size∨zG s 0 < lo∨a < zG s 0)) (h1:xC s=i) (b:i≠s.size) (c:¬(zG s i≠39∨i+1=s.size)):z0c s lo a=decide (i+1+yL zZ s s.size (i+1)=s.size):=by
 subst h1;unfold z0c;rw [if_neg h,if_neg b,if_neg c]
theorem j7j {c:Nat}  (N:Mem V K w) :
  Calls prog 207 #[.int .u8 ((c:Nat):Int)] w (fun ee w'=>ee=.returned (.bool (yK c))/\Mem V K w'):=by
 refine zM func207 ntmps207 fun Q b a J=>?_
 refine go J N fun a J=>?_
 by_cases m:97<=c
 refine go J N fun a J=>?_
 by_cases n:c<=122
 refine zD b J N ?_
 exact zL N (by unfold yK qK qQ zZ;simp <;> omega)
 refine go J N fun a J=>?_
 by_cases p:65<=c
 refine go J N fun a J=>?_
 by_cases q:c<=90
 refine zD b J N ?_
 exact zL N (by unfold yK qK qQ zZ;simp <;> omega)
 refine go J N fun a J=>?_
 by_cases r:48<=c
 refine go J N fun a J=>?_
 by_cases s:c<=57
 refine zD b J N ?_
 exact zL N (by unfold yK qK qQ zZ;simp <;> omega)
 refine Qq J N (fun a J=>?_) (o:=by exact fun _ _ _ J O=>wX (i:=c) (j:=95) J rfl rfl)
 refine zD b J N ?_
 exact zL N (by unfold yK qK qQ zZ;simp <;> omega)
 refine Qq J N (fun a J=>?_) (o:=by exact fun _ _ _ J O=>wX (i:=c) (j:=95) J rfl rfl)
 refine zD b J N ?_
 exact zL N (by unfold yK qK qQ zZ;simp <;> omega)
 refine go J N fun a J=>?_
 by_cases t:48<=c
 refine go J N fun a J=>?_
 by_cases d:c<=57
 refine zD b J N ?_
 exact zL N (by unfold yK qK qQ zZ;simp <;> omega)
 refine Qq J N (fun a J=>?_) (o:=by exact fun _ _ _ J O=>wX (i:=c) (j:=95) J rfl rfl)
 refine zD b J N ?_
 exact zL N (by unfold yK qK qQ zZ;simp <;> omega)
 refine Qq J N (fun a J=>?_) (o:=by exact fun _ _ _ J O=>wX (i:=c) (j:=95) J rfl rfl)
 refine zD b J N ?_
 exact zL N (by unfold yK qK qQ zZ;simp <;> omega)
 refine go J N fun a J=>?_
 by_cases e:65<=c
 refine go J N fun a J=>?_
 by_cases f:c<=90
 refine zD b J N ?_
 exact zL N (by unfold yK qK qQ zZ;simp <;> omega)
 refine go J N fun a J=>?_
 by_cases g:48<=c
 refine go J N fun a J=>?_
 by_cases h:c<=57
 refine zD b J N ?_
 exact zL N (by unfold yK qK qQ zZ;simp <;> omega)
 refine Qq J N (fun a J=>?_) (o:=by exact fun _ _ _ J O=>wX (i:=c) (j:=95) J rfl rfl)
 refine zD b J N ?_
 exact zL N (by unfold yK qK qQ zZ;simp <;> omega)
 refine Qq J N (fun a J=>?_) (o:=by exact fun _ _ _ J O=>wX (i:=c) (j:=95) J rfl rfl)
 refine zD b J N ?_
 exact zL N (by unfold yK qK qQ zZ;simp <;> omega)
 refine go J N fun a J=>?_
 by_cases k:48<=c
 refine go J N fun a J=>?_
 by_cases l:c<=57
 refine zD b J N ?_
 exact zL N (by unfold yK qK qQ zZ;simp <;> omega)
 refine Qq J N (fun a J=>?_) (o:=by exact fun _ _ _ J O=>wX (i:=c) (j:=95) J rfl rfl)
 refine zD b J N ?_
 exact zL N (by unfold yK qK qQ zZ;simp <;> omega)
 refine Qq J N (fun a J=>?_) (o:=by exact fun _ _ _ J O=>wX (i:=c) (j:=95) J rfl rfl)
 refine zD b J N ?_
 exact zL N (by unfold yK qK qQ zZ;simp <;> omega)
theorem q7y {s:Bs} {lo:Nat} {hi:Nat}  (N:Mem V K w) :
  Calls prog 182 #[.string s,.int .u8 ((lo:Nat):Int),.int .u8 ((hi:Nat):Int)] w (fun ee w'=>ee=.returned (.bool (z0c s lo hi))/\Mem V K w'):=by
 refine zM func182 ntmps182 fun Q r a J=>?_
 refine sq fun L1 t0=>?_
 refine go0 J N fun a J=>?_
 apply t0
 refine sq fun L2 u0=>?_
 refine sq fun L3 g=>?_
 refine go0 J N fun a J=>?_
 by_cases h4:s.size < 1
 refine go0 J N fun a J=>?_
 apply g
 refine go0 J N fun a J=>?_
 refine sq fun L5 w0=>?_
 refine go0 J N fun a J=>?_
 apply w0
 refine go0 J N fun a J=>?_
 refine zD r J N ?_
 exact zL N (by exact (z6g (by omega)).symm)
 refine go0 J N fun a J=>?_
 by_cases h6:24 < s.size
 refine go0 J N fun a J=>?_
 apply g
 refine go0 J N fun a J=>?_
 refine sq fun L7 x0=>?_
 refine go0 J N fun a J=>?_
 apply x0
 refine go0 J N fun a J=>?_
 refine zD r J N ?_
 exact zL N (by exact (z6g (by omega)).symm)
 refine go0 J N fun a J=>?_
 have o0:0 < s.size:=by omega
 obtain ⟨c9,l⟩:=kP o0
 refine Qq J N (fun a J=>?_) (o:=by exact fun _ _ _ J O=>vH 0 c9 J rfl rfl runUnderlying9 l)
 have z0:=yU l
 refine go0 J N fun a J=>?_
 by_cases Y0:c9.toNat < lo
 refine go0 J N fun a J=>?_
 have m0:=yU l
 refine go0 J N fun a J=>?_
 apply g
 refine go0 J N fun a J=>?_
 refine sq fun B0 S=>?_
 refine go0 J N fun a J=>?_
 apply S
 refine go0 J N fun a J=>?_
 refine zD r J N ?_
 exact zL N (by exact (z6g (by omega)).symm)
 refine go0 J N fun a J=>?_
 obtain ⟨G,z⟩:=kP o0
 refine Qq J N (fun a J=>?_) (o:=by exact fun _ _ _ J O=>vH 0 G J rfl rfl runUnderlying9 z)
 have m0:=yU z
 refine go0 J N fun a J=>?_
 by_cases Z0:hi < G.toNat
 refine go0 J N fun a J=>?_
 apply g
 refine go0 J N fun a J=>?_
 refine sq fun C0 T=>?_
 refine go0 J N fun a J=>?_
 apply T
 refine go0 J N fun a J=>?_
 refine zD r J N ?_
 exact zL N (by exact (z6g (by omega)).symm)
 refine go0 J N fun a J=>?_
 apply g
 refine go0 J N fun a J=>?_
 apply u0
 refine sq fun D0 U=>?_
 refine go0 J N fun a J=>?_
 apply U
 refine sq fun q0 W=>?_
 have u:∀a w,(∃(i:Nat),EnvR 74 [(0,.string s),(7,.int .i64 ((i:Nat):Int))] [] a/\Mem V (K) w/\(xC s=i/\1<=i/\i<=s.size/\¬(s.size < 1∨24 < s.size∨zG s 0 < lo∨hi < zG s 0)))->q0 a w:=by
  clear N J
  rintro a w ⟨i,J,N,L⟩
  apply W
  obtain ⟨q,C,D,b⟩:=L
  refine sq fun E0 X=>?_
  refine sq fun F0 v=>?_
  refine go0 J N fun a J=>?_
  by_cases a1:i=s.size
  refine go0 J N fun a J=>?_
  apply v
  refine go0 J N fun a J=>?_
  refine sq fun G0 Y=>?_
  refine go0 J N fun a J=>?_
  apply Y
  refine go0 J N fun a J=>?_
  refine zD r J N ?_
  exact zL N (by exact (j8l b (by omega)).symm)
  refine go0 J N fun a J=>?_
  apply v
  refine go0 J N fun a J=>?_
  apply X
  refine sq fun H0 Z=>?_
  refine sq fun I0 f=>?_
  refine go0 J N fun a J=>?_
  have n0:i < s.size:=by omega
  obtain ⟨H,A⟩:=kP n0
  refine Qq J N (fun a J=>?_) (o:=by exact fun _ _ _ J O=>vH i H J rfl rfl runUnderlying9 A)
  have A0:=yU A
  by_cases b1:H.toNat=39
  refine go0 J N fun a J=>?_
  by_cases c1:(i+1)=s.size
  refine go0 J N fun a J=>?_
  apply f
  refine go0 J N fun a J=>?_
  refine sq fun J0 a0=>?_
  refine go0 J N fun a J=>?_
  apply a0
  refine go0 J N fun a J=>?_
  refine zD r J N ?_
  exact zL N (by exact (q0q q (by omega) (by omega)).symm)
  refine go0 J N fun a J=>?_
  apply f
  refine go0 J N fun a J=>?_
  apply Z
  refine sq fun K0 b0=>?_
  refine sq fun L0 c0=>?_
  refine go0 J N fun a J=>?_
  apply c0
  refine go0 J N fun a J=>?_
  refine zV (J.ks [0]) N (fun R mm a w=>∃(k:Nat),mm=s.size - k/\R V [(8,.int .i64 ((k:Nat):Int))] [] a w/\(k<=s.size/\i+1+yL zZ s s.size (i+1)=k+yL zZ s s.size k)) (s.size - (i+1)) ⟨i+1,rfl,⟨J.pk,N⟩,by exact ⟨by omega,rfl⟩⟩ ?_
  clear N J
  rintro mm a w ⟨k,F,⟨J,N⟩,M⟩ M0 d0
  obtain ⟨f1,t⟩:=M
  refine sq fun N0 e0=>?_
  refine sq fun O0 y=>?_
  refine go0 J N fun a J=>?_
  by_cases I:k < s.size
  refine go0 J N fun a J=>?_
  apply y
  refine go0 J N fun a J=>?_
  apply e0
  refine sq fun P0 f0=>?_
  refine go0 J N fun a J=>?_
  refine sq fun Q0 h=>?_
  refine go0 J N fun a J=>?_
  obtain ⟨c42,m⟩:=kP I
  refine Qq J N (fun a J=>?_) (o:=by exact fun _ _ _ J O=>vH k c42 J rfl rfl runUnderlying9 m)
  have y0:=yU m
  by_cases d1:c42.toNat < 48
  refine go0 J N fun a J=>?_
  have B:=yU m
  refine go0 J N fun a J=>?_
  apply h
  refine go0 J N fun a J=>?_
  refine sq fun R0 g0=>?_
  refine go0 J N fun a J=>?_
  apply g0
  refine go0 J N fun a J=>?_
  refine zD r J N ?_
  exact zL N (by rw [z8c b q (by omega) (by omega),t,xJ,if_neg (by rintro ⟨_,d⟩;simp [zZ] at d;omega)];exact (decide_eq_false (by omega)).symm)
  refine go0 J N fun a J=>?_
  obtain ⟨c46,n⟩:=kP I
  refine Qq J N (fun a J=>?_) (o:=by exact fun _ _ _ J O=>vH k c46 J rfl rfl runUnderlying9 n)
  have B:=yU n
  by_cases e1:57 < c46.toNat
  refine go0 J N fun a J=>?_
  apply h
  refine go0 J N fun a J=>?_
  refine sq fun S0 h0=>?_
  refine go0 J N fun a J=>?_
  apply h0
  refine go0 J N fun a J=>?_
  refine zD r J N ?_
  exact zL N (by rw [z8c b q (by omega) (by omega),t,xJ,if_neg (by rintro ⟨_,d⟩;simp [zZ] at d;omega)];exact (decide_eq_false (by omega)).symm)
  refine go0 J N fun a J=>?_
  apply h
  refine go0 J N fun a J=>?_
  apply f0
  refine go0 J N fun a J=>?_
  refine d0 _ _ _ (by subst F;omega) ⟨(k+1),rfl,⟨J.pk,N⟩,?_⟩
  exact ⟨by omega,by rw [t,xJ zZ s k,if_pos ⟨by omega,by rw [yU n];simp [zZ];omega⟩];omega⟩
  refine go0 J N fun a J=>?_
  apply y
  refine go0 J N fun a J=>?_
  apply b0
  refine sq fun T0 i0=>?_
  refine go0 J N fun a J=>?_
  apply i0
  refine go0 J N fun a J=>?_
  refine zD r J N ?_
  exact zL N (by rw [z8c b q (by omega) (by omega),t,xJ,if_neg (by omega)];exact (decide_eq_true (by omega)).symm)
  refine go0 J N fun a J=>?_
  apply f
  refine go0 J N fun a J=>?_
  refine sq fun U0 j0=>?_
  refine go0 J N fun a J=>?_
  apply j0
  refine go0 J N fun a J=>?_
  refine zD r J N ?_
  exact zL N (by exact (q0q q (by omega) (by omega)).symm)
 refine go0 J N fun a J=>?_
 refine zV (J.ks [0]) N (fun R mm a w=>∃(i:Nat),mm=s.size - i/\R V [(7,.int .i64 ((i:Nat):Int))] [] a w/\(1<=i/\i<=s.size/\xC s=i+yL yK s s.size i/\¬(s.size < 1∨24 < s.size∨zG s 0 < lo∨hi < zG s 0))) (s.size - 1) ⟨1,rfl,⟨J.pk,N⟩,by exact ⟨by omega,by omega,rfl,by omega⟩⟩ ?_
 clear N J
 rintro mm a w ⟨i,F,⟨J,N⟩,P⟩ V0 k0
 obtain ⟨C,D,E,b⟩:=P
 refine sq fun W0 l0=>?_
 refine sq fun X0 j=>?_
 refine go0 J N fun a J=>?_
 by_cases s0:i < s.size
 refine go0 J N fun a J=>?_
 obtain ⟨r0,p⟩:=kP s0
 refine Qq J N (fun a J=>?_) (o:=by exact fun _ _ _ J O=>vH i r0 J rfl rfl runUnderlying9 p)
 refine zW call207 J N (fun e w N a J=>?_) (fun e w N a J=>?_) (c:=j7j N)
 refine go0 J N fun a J=>?_
 apply j
 refine go0 J N fun a J=>?_
 apply l0
 refine go0 J N fun a J=>?_
 refine k0 _ _ _ (by subst F;omega) ⟨(i+1),rfl,⟨J.pk,N⟩,?_⟩
 exact ⟨by omega,by omega,by rw [E,xJ yK s i,if_pos ⟨by omega,by rw [yU p];exact e⟩];omega,b⟩
 refine go0 J N fun a J=>?_
 apply j
 refine go0 J N fun a J=>?_
 exact u _ _ ⟨i,J.pk,N,⟨by rw [E,xJ yK s i,if_neg (by rintro ⟨_,d⟩;rw [yU p,e] at d;cases d)];rfl,C,D,b⟩⟩
 refine go0 J N fun a J=>?_
 apply j
 refine go0 J N fun a J=>?_
 exact u _ _ ⟨i,J.pk,N,⟨by rw [E,xJ yK s i,if_neg (by omega)];rfl,C,D,b⟩⟩
theorem x2v {s:Bs}  (N:Mem V K w) :
  Calls prog 197 #[.string s] w (fun ee w'=>ee=.returned (.bool (z3d s))/\Mem V K w'):=by
 refine zM func197 ntmps197 fun Q l a J=>?_
 refine qG J N fun v3 w N a J=>?_
 refine zW call182 J N (fun g w N a J=>?_) (fun g w N a J=>?_) (c:=q7y (s:=s) N)
 refine go J N fun a J=>?_
 have b:=N
 clear N
 obtain ⟨k,j,N,f⟩:=b.freezeRow (i:=0) rfl
 clear b
 replace N:=N.nf
 have e:SliceOf RStr k 1 _ (wordsL):=SliceOf.strs.2 f
 obtain ⟨p,o,h,m,n⟩:=e.form (by decide)
 have d:=N
 clear N
 subst h
 have N:=d
 clear d
 refine zS call87 J N (fun w N a J=>?_) (c:=z9x e N)
 refine go J N fun a J=>?_
 replace N:=N.le (j)
 refine zD l J N ?_
 exact zL N (by simp [z3d, *])
 refine go J N fun a J=>?_
 replace N:=N.dl [0]
 refine zD l J N ?_
 exact zL N (by simp [z3d, *])
theorem j6n {s:Bs}  (N:Mem V K w) :
  Calls prog 161 #[.string s] w (fun ee w'=>ee=.returned (.bool (z3d s))/\Mem V K w'):=by
 refine zM func161 ntmps161 fun Q b a J=>?_
 refine zS call197 J N (fun w N a J=>?_) (c:=x2v N)
 refine zD b J N ?_
 exact zL N (by rfl)
theorem y9f {s:Bs}  (N:Mem V K w) :
  Calls prog 134 #[.string s] w (fun ee w'=>ee=.returned (.bool (conR s))/\Mem V K w'):=by
 refine zM func134 ntmps134 fun Q b a J=>?_
 refine zS call182 J N (fun w N a J=>?_) (c:=q7y (s:=s) N)
 refine zD b J N ?_
 exact zL N (by rfl)
theorem z8o (N:Mem V K w) :
  Calls prog 169 #[] w (fun ee w'=>∃y:Fz×List Value,ee=.returned (.agg y.2.toArray)/\(V.Le y.1/\RData y.1 y.2 truthsD)/\Mem y.1 K w'):=by
 refine zM func169 ntmps169 fun Q n a J=>?_
 refine Alc J N fun o w N a J=>?_
 refine yE J N fun a J=>?_
 refine yE J N fun a J=>?_
 refine qG J N fun v4 w N a J=>?_
 have b:=N
 clear N
 obtain ⟨f,j,N,e⟩:=b.freezeRow (i:=0) rfl
 clear b
 replace N:=N.nf
 have d:SliceOf RCon f 2 _ (truthsD.cons):=⟨_,e,⟨[_,_],[_,_],rfl,rfl,⟨_,rfl,SliceOf.nil 1⟩,[_,_],[],rfl,rfl,⟨_,rfl,SliceOf.nil 1⟩,rfl⟩⟩
 obtain ⟨p,m,h,k,l⟩:=d.form (by decide)
 have c:=N
 clear N
 subst h
 have N:=c
 clear c
 refine yE J N fun a J=>?_
 refine Sto 0 J N fun w N a J=>?_
 refine go J N fun a J=>?_
 have g:=N
 replace N:=N.dl [0]
 refine jS n J g ?_
 exact ⟨(f,_),rfl,⟨j,_,rfl,d⟩,N⟩
theorem z3m {d0:List Value} {c:Core} {name:Bs} (l:RCore V d0 c) (N:Mem V K w) :
  Calls prog 118 #[.agg d0.toArray,.string name] w (fun ee w'=>∃y:Fz×List Value,ee=.returned (.tuple #[.agg y.2.toArray,.bool (yD c.datas name).isSome])/\(V.Le y.1/\RData y.1 y.2 ((yD c.datas name).getD nL))/\Mem y.1 K w'):=by
 obtain ⟨p3,c4,p9,f0,l0,g0,m0,c22,rfl,v,h8,i0,j0,k0,D,M,W,P,X,S,Y⟩:=RCore.fm l
 refine zM func118 ntmps118 fun Q B a J=>?_
 refine Bx J N fun c0 w N a J=>?_
 refine Alc J N fun e0 w N a J=>?_
 refine go J N fun a J=>?_
 by_cases n:name=(⟨#[66,111,111,108]⟩:Bs)
 refine qH call169 J N (fun G w q N a J=>?_) (c:=z8o N)
 obtain ⟨t,h0⟩:=G
 obtain ⟨b,e⟩:=q
 simp only at b e N J
 replace v:=v.up b
 replace l:=RCore.mono _ _ _ _ b l
 replace N:=N.nf
 obtain ⟨o0,rfl,z⟩:=id e
 obtain ⟨E,u,rfl,T,Z⟩:=z.fm
 refine Sto 0 J N fun w N a J=>?_
 refine go J N fun a J=>?_
 have d:=N
 replace N:=N.dl [1,0]
 refine B _ _ _ (uI (i:=0) (cs:=[.string truthsD.name,.slice E truthsD.cons.length u]) J d.toSees results118 rfl rfl isAgg133 sizeOf133 rfl rfl ?_)
 have m:=show yD c.datas name=some truthsD from if_pos n
 rw [m];exact ⟨(t,_),rfl,⟨b,e⟩,N⟩
 refine go J N fun a J=>?_
 refine zV (J.ks [1,2,4]) N (fun R mm a w=>∃(i:Nat),mm=c.datas.length - i/\R V [(6,.int .i64 ((i:Nat):Int))] [] a w/\(¬name=vS/\vO c.datas name=vO (c.datas.drop i) name)) (c.datas.length - 0) ⟨0,rfl,⟨J.pk,N⟩,⟨n,rfl⟩⟩ ?_
 clear N J
 rintro mm a w ⟨i,C,⟨J,N⟩,r⟩ b0 s
 obtain ⟨j,k⟩:=r
 refine go J N fun a J=>?_
 by_cases o:i < c.datas.length
 refine go J N fun a J=>?_
 obtain ⟨n0,rfl,f,h,H,L,I,g⟩:=v.el D o
 obtain ⟨p0,rfl,A⟩:=id g
 obtain ⟨F,c63,rfl,U,a0⟩:=A.fm
 refine go J N fun a J=>?_
 by_cases p:f.name=name
 refine Sto 0 J N fun w N a J=>?_
 refine go J N fun a J=>?_
 have d:=N
 replace N:=N.dl [1,0]
 refine B _ _ _ (uI (i:=0) (cs:=[.string f.name,.slice F f.cons.length c63]) J d.toSees results118 rfl rfl isAgg133 sizeOf133 rfl rfl ?_)
 have m:=show yD c.datas name=some f by rw [yD,if_neg j,k,zA h,vO,if_pos p]
 rw [m];exact ⟨(V,_),rfl,⟨Fz.Le.refl _,g⟩,N⟩
 refine go J N fun a J=>?_
 refine s _ _ _ (by subst C;omega) ⟨(i+1),rfl,⟨J.pk,N⟩,?_⟩
 exact ⟨j,by rw [k,zA h,vO,if_neg p]⟩
 refine yE J N fun a J=>?_
 refine Sto 0 J N fun w N a J=>?_
 refine go J N fun a J=>?_
 have d:=N
 replace N:=N.dl [1,0]
 refine B _ _ _ (uI (i:=0) (cs:=[.string ⟨#[]⟩,.slice none 0 0]) J d.toSees results118 rfl rfl isAgg133 sizeOf133 rfl rfl ?_)
 have m:=show yD c.datas name=none by rw [yD,if_neg j,k,zE o,vO]
 rw [m];exact ⟨(V,_),rfl,⟨Fz.Le.refl _,⟨_,rfl,SliceOf.nil 2⟩⟩,N⟩
theorem tV {d0:List Value} {c:Core} {name:Bs} (d:RCore V d0 c) (N:Mem V K w) :
  Calls prog 81 #[.agg d0.toArray,.string name] w (fun ee w'=>ee=.returned (.bool (jH c.datas name))/\Mem V K w'):=by
 obtain ⟨R,c4,S,z,G,A,H,c22,rfl,M,P,C,D,E,F,l,q,m,r,n,s⟩:=RCore.fm d
 refine zM func81 ntmps81 fun Q j a J=>?_
 refine Bx J N fun v w N a J=>?_
 refine qH call118 J N (fun i w g N a J=>?_) (c:=z3m d N)
 obtain ⟨u,B⟩:=i
 obtain ⟨b,e⟩:=g
 simp only at b e N J
 replace d:=RCore.mono _ _ _ _ b d
 replace N:=N.nf
 obtain ⟨L,rfl,h⟩:=id e
 obtain ⟨I,c37,rfl,p,t⟩:=h.fm
 refine Alc J N fun y w N a J=>?_
 refine Sto 0 J N fun w N a J=>?_
 refine go J N fun a J=>?_
 generalize k:(yD c.datas name).isSome=f at J
 cases f
 refine Qq J N (fun a J=>?_) (o:=by exact fun _ _ _ J O=>z6j J rfl rfl)
 refine go J N fun a J=>?_
 replace N:=N.le (b)
 replace N:=N.dl [1,0]
 refine zD j J N ?_
 exact zL N (by simp [jH,yA, *] <;> rfl)
 refine go J N fun a J=>?_
 replace N:=N.le (b)
 replace N:=N.dl [1,0]
 refine zD j J N ?_
 exact zL N (by simp [jH,yA, *] <;> rfl)
theorem y8w {d0:List Value} {c:Core} {name:Bs} (o:RCore V d0 c) (N:Mem V K w) :
  Calls prog 55 #[.agg d0.toArray,.string name] w (fun ee w'=>ee=.returned (.int .i64 (aF c.funs name))/\Mem V K w'):=by
 obtain ⟨p3,c4,p9,P,b0,S,c0,c22,rfl,h2,h8,k,W,Z,a0,v,D,y,h,z,E⟩:=RCore.fm o
 refine zM func55 ntmps55 fun Q r a J=>?_
 refine Bx J N fun L w N a J=>?_
 refine go J N fun a J=>?_
 refine zV (J.ks [1,2]) N (fun R mm a w=>∃(i:Nat),mm=c.funs.length - i/\R V [(5,.int .i64 ((i:Nat):Int))] [] a w/\(dZ c.funs name=uZ (c.funs.drop i) name i)) (c.funs.length - 0) ⟨0,rfl,⟨J.pk,N⟩,rfl⟩ ?_
 clear N J
 rintro mm a w ⟨i,n,⟨J,N⟩,b⟩ I g
 refine go J N fun a J=>?_
 by_cases e:i < c.funs.length
 refine go J N fun a J=>?_
 obtain ⟨h0,rfl,p,d,q,u,s,j⟩:=k.el h e
 obtain ⟨i0,M,rfl,l,m⟩:=id j
 obtain ⟨e0,c46,rfl,A,F⟩:=l.fm
 obtain ⟨f0,T,g0,U,rfl,t,X,Y,B,G,C,H⟩:=REx.fm m
 refine go J N fun a J=>?_
 by_cases f:p.name=name
 refine go J N fun a J=>?_
 replace N:=N.dl [0]
 refine zD r J N ?_
 exact jG N (by rw [aF,b,zA d,uZ,if_pos f])
 refine go J N fun a J=>?_
 refine g _ _ _ (by subst n;omega) ⟨(i+1),rfl,⟨J.pk,N⟩,?_⟩
 rw [b,zA d,uZ,if_neg f]
 refine go J N fun a J=>?_
 replace N:=N.dl [0]
 refine zD r J N ?_
 exact jG N (by rw [aF,b,zE e,uZ])
theorem j5f {d0:List Value} {c:Core} {name:Bs} (p:RCore V d0 c) (m0:c.datas.length<=1000) (N:Mem V K w) :
  Calls prog 163 #[.agg d0.toArray,.string name] w (fun ee w'=>∃y:Fz×List Value,ee=.returned (.tuple #[.agg y.2.toArray,.string (((nH c.datas name).map Maker.data).getD sNo),.bool (nH c.datas name).isSome])/\(V.Le y.1/\RCon y.1 y.2 (((nH c.datas name).map Maker.con).getD z9e))/\Mem y.1 K w'):=by
 obtain ⟨p3,c4,p9,F0,N0,G0,O0,c22,rfl,X,h8,J0,K0,L0,M0,n0,u0,o0,w0,p0,x0⟩:=RCore.fm p
 refine zM func163 ntmps163 fun Q hQ a J=>?_
 refine Bx J N fun D0 w N a J=>?_
 refine Alc J N fun E0 w N a J=>?_
 refine go J N fun a J=>?_
 refine yZ [0,0,1,2,0,1] (.q 2 (.q 3 (.e 0 (.e 1 (.e 4 (.q 5 (.done))))))) [0,1] J N fun w N=>?_
 refine qH call169 J N (fun c0 w I N a J=>?_) (c:=z8o N)
 obtain ⟨A0,I0⟩:=c0
 obtain ⟨f,d⟩:=I
 simp only at f d N J
 replace X:=X.up f
 replace p:=RCore.mono _ _ _ _ f p
 replace N:=N.nf
 obtain ⟨U0,rfl,Y⟩:=id d
 obtain ⟨P0,c38,rfl,q0,y0⟩:=Y.fm
 refine qG J N fun X0 w N a J=>?_
 obtain ⟨e0,s,b⟩:=id X
 refine qN 0 rt_22 J N (fun Y0 w N a J=>?_) (hr:=s.rowIn N.toSees) (h1:=b.ones RData.ones) (hb:=by have h_:=b.length;simp only [lcQ,lnQ];omega)
 refine go J N fun a J=>?_
 have u:=N
 clear N
 obtain ⟨l,g,N,t⟩:=u.freezeRow (i:=0) rfl
 clear u
 replace p:=RCore.mono _ _ _ _ g p
 replace d:=RData.mono _ _ _ _ g d
 replace b:=b.mono fun _ _ h=>RData.mono _ _ _ _ g h
 replace N:=N.nf
 have o:SliceOf RData l 2 _ (truthsD::c.datas):=⟨_,t,⟨_,_,rfl,rfl,d,b⟩⟩
 obtain ⟨Q0,c53,a0,r0,P⟩:=o.form (by decide)
 have v:=N
 clear N
 subst a0
 have N:=v
 clear v
 refine go J N fun a J=>?_
 refine zV (J.ks [1,4,7]) N (fun R mm a w=>∃(i:Nat),mm=(truthsD::c.datas).length - i/\R l [(8,.int .i64 ((i:Nat):Int))] [] a w/\(wQ (truthsD::c.datas) name=wQ ((truthsD::c.datas).drop i) name)) ((truthsD::c.datas).length - 0) ⟨0,rfl,⟨J.pk,N⟩,rfl⟩ ?_
 clear N J
 rintro mm a w ⟨i,D,⟨J,N⟩,m⟩ B0 L
 refine go J N fun a J=>?_
 by_cases E:i < (truthsD::c.datas).length
 refine go J N fun a J=>?_
 obtain ⟨S0,rfl,j,A,f0,k0,i0,T⟩:=o.el P E
 obtain ⟨V0,rfl,F⟩:=id T
 obtain ⟨R0,H0,rfl,s0,S⟩:=F.fm
 refine zV (J.ks [1,4,7,8]) N (fun R mm a w=>∃(k:Nat),mm=j.cons.length - k/\R l [(9,.int .i64 ((k:Nat):Int))] [] a w/\(xN j.cons name=xN (j.cons.drop k) name)) (j.cons.length - 0) ⟨0,rfl,⟨J.pk,N⟩,rfl⟩ ?_
 clear N J
 rintro mm a w ⟨k,D,⟨J,N⟩,n⟩ C0 M
 refine go J N fun a J=>?_
 by_cases G:k < j.cons.length
 refine go J N fun a J=>?_
 obtain ⟨T0,rfl,r,B,g0,l0,j0,z⟩:=F.el S G
 obtain ⟨W0,rfl,Z⟩:=id z
 obtain ⟨b0,U,rfl,t0,z0⟩:=Z.fm
 refine go J N fun a J=>?_
 by_cases H:r.name=name
 refine Reg [1,1,1,1,2,1,1,2,1,1,1,1,2,0,1,1] [1] J N fun w N a J=>?_
 refine Sto 0 J N fun w N a J=>?_
 refine go J N fun a J=>?_
 have C:=N
 replace N:=N.dl [1,0]
 refine hQ _ _ _ (mE (i:=0) (cs:=[.string r.name,.slice b0 r.fields.length U]) J C.toSees results163 rfl rfl isAgg135 sizeOf135 rfl rfl rfl ?_)
 have W:=show nH c.datas name=some ⟨j.name,r⟩ by show wQ (truthsD::c.datas) name=_;rw [m,zA A,wQ,show xN j.cons name=some r by rw [n,zA B,xN,if_pos H]]
 rw [W];exact ⟨(l,_),rfl,⟨(f).trans g,z⟩,N⟩
 refine go J N fun a J=>?_
 refine M _ _ _ (by subst D;omega) ⟨(k+1),rfl,⟨J.pk,N⟩,?_⟩
 rw [n,zA B,xN,if_neg H]
 refine go J N fun a J=>?_
 refine L _ _ _ (by subst D;omega) ⟨(i+1),rfl,⟨J.pk,N⟩,?_⟩
 rw [m,zA A,wQ,show xN j.cons name=none by rw [n,zE G,xN]]
 refine yE J N fun a J=>?_
 refine Sto 0 J N fun w N a J=>?_
 refine go J N fun a J=>?_
 have C:=N
 replace N:=N.dl [1,0]
 refine hQ _ _ _ (mE (i:=0) (cs:=[.string ⟨#[]⟩,.slice none 0 0]) J C.toSees results163 rfl rfl isAgg135 sizeOf135 rfl rfl rfl ?_)
 have W:=show nH c.datas name=none by show wQ (truthsD::c.datas) name=_;rw [m,zE E,wQ]
 rw [W];exact ⟨(l,_),rfl,⟨(f).trans g,⟨_,rfl,SliceOf.nil 1⟩⟩,N⟩
theorem z8m {name:Bs} {d:Data} {l:List Data} (h:¬d.name=name):kX name (d::l)=kX name l/\kA name (d::l)=kA name l:=by
 simp only [kX,kA,List.any_cons,List.filter_cons,h,decide_false,Bool.false_and,Bool.false_or,Bool.false_eq_true,if_false,and_self]
theorem z0h {name:Bs} {d:Data} {l:List Data} (h:d.name=name):kX name (d::l)=(mO name d.cons || kX name l)/\kA name (d::l)=kA name l+1:=by
 simp only [kX,kA,List.any_cons,List.filter_cons,h,decide_true,Bool.true_and,if_true,lcQ,and_self]
theorem z4i (name:Bs) (x:Con) (l:List Con):mO name (x::l)=(x.fields.any (inF name) || mO name l):=rfl
theorem q9q {ds:List Data} {name:Bs} (a:¬name=yA) (h:kX name ds=true):jY ds name=false:=by rw [jY,if_neg a,h];rfl
theorem y2w {ds:List Data} {name:Bs} {n:Nat} (a:¬name=yA) (h:kX name ds=false) (h1:kA name ds=n):jY ds name=(decide (n=1) && !decide (name=vS)):=by rw [jY,if_neg a,h,h1];rfl
theorem z9t {d0:List Value} {c:Core} {name:Bs} (U:RCore V d0 c) (N:Mem V K w) :
  Calls prog 109 #[.agg d0.toArray,.string name] w (fun ee w'=>ee=.returned (.bool (jY c.datas name))/\Mem V K w'):=by
 obtain ⟨p3,c4,p9,r0,D0,s0,E0,c22,rfl,h2,h8,u0,x0,C0,T,f0,k0,g0,l0,h0,m0⟩:=RCore.fm U
 refine zM func109 ntmps109 fun Q S a J=>?_
 refine Bx J N fun q0 w N a J=>?_
 refine go J N fun a J=>?_
 by_cases A:name=(⟨#[73,110,116]⟩:Bs)
 refine go J N fun a J=>?_
 replace N:=N.dl [0]
 refine zD S J N ?_
 exact zL N (by rw [jY];exact (if_pos A).symm)
 refine go J N fun a J=>?_
 refine zV (J.ks [1,2]) N (fun R mm a w=>∃(i:Nat) (n:Nat),mm=c.datas.length - i/\R V [(5,.int .i64 ((n:Nat):Int)),(6,.int .i64 ((i:Nat):Int))] [] a w/\(¬name=yA/\n<=i/\kX name c.datas=kX name (c.datas.drop i)/\kA name c.datas=n+kA name (c.datas.drop i))) (c.datas.length - 0) ⟨0,0,rfl,⟨J.pk,N⟩,⟨A,Nat.le_refl _,rfl,by rw [Nat.zero_add];rfl⟩⟩ ?_
 clear N J
 rintro mm a w ⟨i,n,e,⟨J,N⟩,F⟩ n0 u
 obtain ⟨p,B0,q,t⟩:=F
 refine go J N fun a J=>?_
 by_cases h:i < c.datas.length
 refine go J N fun a J=>?_
 obtain ⟨H0,rfl,d,b,W,b0,Y,L⟩:=h2.el T h
 obtain ⟨K0,rfl,B⟩:=id L
 obtain ⟨F0,t0,rfl,i0,H⟩:=B.fm
 refine go J N fun a J=>?_
 by_cases l:d.name=name
 refine go J N fun a J=>?_
 refine zV (J.ks [1,2,5,6]) N (fun R mm a w=>∃(k:Nat),mm=d.cons.length - k/\R V [(7,.int .i64 ((k:Nat):Int))] [] a w/\(mO name d.cons=mO name (d.cons.drop k))) (d.cons.length - 0) ⟨0,rfl,⟨J.pk,N⟩,rfl⟩ ?_
 clear N J
 rintro mm a w ⟨k,e,⟨J,N⟩,m⟩ o0 G
 refine go J N fun a J=>?_
 by_cases C:k < d.cons.length
 refine go J N fun a J=>?_
 obtain ⟨I0,rfl,f,y,X,c0,Z,M⟩:=B.el H C
 obtain ⟨L0,rfl,D⟩:=id M
 obtain ⟨G0,c75,rfl,j0,I⟩:=D.fm
 refine go J N fun a J=>?_
 refine zV (J.ks [1,2,5,6,7,8]) N (fun R mm a w=>∃(j:Nat),mm=f.fields.length - j/\R V [(9,.int .i64 ((j:Nat):Int))] [] a w/\(f.fields.any (inF name)=(f.fields.drop j).any (inF name))) (f.fields.length - 0) ⟨0,rfl,⟨J.pk,N⟩,rfl⟩ ?_
 clear N J
 rintro mm a w ⟨j,e,⟨J,N⟩,g⟩ p0 v
 refine go J N fun a J=>?_
 by_cases E:j < f.fields.length
 refine go J N fun a J=>?_
 obtain ⟨J0,rfl,s,r,z,e0,a0,P⟩:=D.el I E
 obtain rfl:z=[.string s]:=P
 refine go J N fun a J=>?_
 by_cases y0:s=(⟨#[73,110,116]⟩:Bs)
 refine go J N fun a J=>?_
 refine v _ _ _ (by subst e;omega) ⟨(j+1),rfl,⟨J.pk,N⟩,?_⟩
 rw [g,zA r,List.any_cons,show inF name s=false by simp [inF,yA, *],Bool.false_or]
 refine go J N fun a J=>?_
 by_cases z0:s=name
 refine go J N fun a J=>?_
 refine v _ _ _ (by subst e;omega) ⟨(j+1),rfl,⟨J.pk,N⟩,?_⟩
 rw [g,zA r,List.any_cons,show inF name s=false by simp [inF,yA, *],Bool.false_or]
 refine go J N fun a J=>?_
 replace N:=N.dl [0]
 refine zD S J N ?_
 exact zL N (by exact (q9q p (by rw [q,zA b,(z0h l).1,show mO name d.cons=true by rw [m,zA y,z4i,show f.fields.any (inF name)=true by rw [g,zA r,List.any_cons];simp [inF,yA, *]];rfl];rfl)).symm)
 refine go J N fun a J=>?_
 refine G _ _ _ (by subst e;omega) ⟨(k+1),rfl,⟨J.pk,N⟩,?_⟩
 rw [m,zA y,z4i,show f.fields.any (inF name)=false by rw [g,zE E];rfl,Bool.false_or]
 refine go J N fun a J=>?_
 refine u _ _ _ (by subst e;omega) ⟨(i+1),((n+1)),rfl,⟨J.pk,N⟩,?_⟩
 exact ⟨p,by omega,by rw [q,zA b,(z0h l).1,show mO name d.cons=false by rw [m,zE C];rfl,Bool.false_or],by rw [t,zA b,(z0h l).2];omega⟩
 refine go J N fun a J=>?_
 refine u _ _ _ (by subst e;omega) ⟨(i+1),(n),rfl,⟨J.pk,N⟩,?_⟩
 exact ⟨p,by omega,by rw [q,zA b,(z8m l).1],by rw [t,zA b,(z8m l).2]⟩
 refine go J N fun a J=>?_
 by_cases A0:n=1
 refine Qq J N (fun a J=>?_) (o:=by exact fun _ _ _ J O=>j4w J rfl rfl)
 refine go J N fun a J=>?_
 replace N:=N.dl [0]
 refine zD S J N ?_
 exact zL N (by rw [y2w (n:=n) p (by rw [q,zE h];rfl) (by rw [t,zE h];rfl)];simp [vS, *] <;> rfl)
 refine go J N fun a J=>?_
 replace N:=N.dl [0]
 refine zD S J N ?_
 exact zL N (by rw [y2w (n:=n) p (by rw [q,zE h];rfl) (by rw [t,zE h];rfl)];simp [vS, *] <;> rfl)
end Go.Sw
