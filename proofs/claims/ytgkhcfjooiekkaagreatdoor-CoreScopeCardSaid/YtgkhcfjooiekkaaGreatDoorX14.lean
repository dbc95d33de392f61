import Derived.Test.YtgkhcfjooiekkaaGreatDoorProg
import Derived.Test.YtgkhcfjooiekkaaGreatDoorX01
import Derived.Test.YtgkhcfjooiekkaaGreatDoorX03
import Derived.Test.YtgkhcfjooiekkaaGreatDoorX04
import Derived.Test.YtgkhcfjooiekkaaGreatDoorX08
import Derived.Test.YtgkhcfjooiekkaaGreatDoorX09
import Derived.Test.YtgkhcfjooiekkaaGreatDoorX10
import Derived.Test.YtgkhcfjooiekkaaGreatDoorX11
import Derived.Test.YtgkhcfjooiekkaaGreatDoorX12
import Derived.Test.YtgkhcfjooiekkaaGreatDoorX13
set_option linter.unusedVariables false
set_option linter.unusedSimpArgs false
namespace Go.Sw
open Go.Proofs
def Pos {α:Type} (f:Nat→Rd α):Prop:=∀i n,f i=.error n→0 < n
section
variable {ws:List Bs}
theorem Pos.bind {α β:Type} {f:Nat→Rd α} {g:α→Nat→Rd β} (hf:Pos f) (hg:∀x,Pos (g x)):Pos (fun i=>z1t (f i) g):=fun i n h=>by
 cases hr:f i with
 | error m =>
  simp only [z1t,hr] at h
  cases h;exact hf i _ hr
 | ok y =>
  simp only [z1t,hr] at h
  exact hg _ _ n h
theorem Pos.ok {α:Type} (f:Nat→α×Nat):Pos (fun i=>(.ok (f i):Rd α)):=fun i n h=>by cases h
theorem Pos.ite {α:Type} {p:Nat→Prop} [∀i,Decidable (p i)] {f g:Nat→Rd α} (hf:Pos f) (hg:Pos g):Pos (fun i=>if p i then f i else g i):=fun i n h=>by
 simp only at h
 split at h
 ·exact hf i n h
 ·exact hg i n h
theorem Pos.next {α:Type} {f:Nat→Rd α} (hf:Pos f):Pos (fun i=>f (i+1)):=fun i n h=>hf (i+1) n h
theorem Pos.err {α:Type}:Pos (fun i=>(.error (i+1):Rd α)):=fun i n h=>by cases h;exact Nat.succ_pos _
theorem z4i (p:Bs→Bool):Pos (z9l ws p):=fun i n h=>by
 unfold z9l at h
 split at h
 ·cases h;exact Nat.succ_pos _
 ·cases h
theorem z7o (w:Bs):Pos (z7a ws w):=(z4i _).bind fun _=>Pos.ok fun i=>((),i)
theorem list_pos {ex:Nat→Rd Ex} (he:Pos ex):∀f least,Pos (z6q ws ex f least)
 | 0,_=>Pos.err
 | f+1,least=>Pos.ite (p:=fun i=>0 < least∨z0e ws i≠sCls) (he.bind fun e=>(list_pos he f _).bind fun l=>Pos.ok fun i=>(e::l,i)) (Pos.ok fun i=>([],i))
theorem two_pos {ex:Nat→Rd Ex} (he:Pos ex):Pos (twoP ex):=he.bind fun a=>he.bind fun b=>Pos.ok fun i=>([a,b],i)
theorem vars_pos:∀f,Pos (varsP ws f)
 | 0=>Pos.err
 | f+1=>Pos.ite (p:=fun i=>z0e ws i≠sArrow) ((z4i _).bind fun s=>(vars_pos f).bind fun l=>Pos.ok fun i=>(s::l,i)) (Pos.ok fun i=>([],i))
theorem arm_pos {ex:Nat→Rd Ex} (he:Pos ex):Pos (armP ws ex) :=
 (z7o _).bind fun _=>(z4i _).bind fun c=>(vars_pos _).bind fun vs=>(z7o _).bind fun _=>he.bind fun b=>(z7o _).bind fun _=>Pos.ok fun i=>(Arm.mk c vs b,i)
theorem arms_pos {ex:Nat→Rd Ex} (he:Pos ex):∀f b,Pos (armsP ws ex f b)
 | 0,_=>Pos.err
 | f+1,b=>Pos.ite (p:=fun i=>b=true∨z0e ws i=sOpn) ((arm_pos he).bind fun a=>(arms_pos he f false).bind fun l=>Pos.ok fun i=>(a::l,i)) (Pos.ok fun i=>([],i))
theorem form_pos {ex:Nat→Rd Ex} (he:Pos ex):Pos (z1z ws ex):=fun i n h=>by
 unfold z1z at h
 split at h
 ·exact (two_pos he).bind (fun l=>Pos.ok fun j=>(Ex.mk 8 0 (z0e ws i) l [],j)) (i+1) n h
 ·split at h
  ·exact (z4i _).bind (fun x=>(two_pos he).bind fun l=>Pos.ok fun j=>(Ex.mk 6 0 x l [],j)) (i+1) n h
  ·split at h
   ·exact he.bind (fun a=>(arms_pos he _ true).bind fun l=>Pos.ok fun j=>(Ex.mk 7 0 sNo [a] l,j)) (i+1) n h
   ·split at h
    ·exact (list_pos he _ 1).bind (fun l=>Pos.ok fun j=>(Ex.mk 4 0 (z0e ws i) l [],j)) (i+1) n h
    ·exact (z4i _).bind (fun x=>(list_pos he _ 0).bind fun l=>Pos.ok fun j=>(Ex.mk 5 0 x l [],j)) i n h
theorem expr_pos:∀d,Pos (z0q ws d)
 | 0=>Pos.err
 | d+1=>fun i n h=>by
  simp only [z0q] at h
  split at h
  ·cases h;exact Nat.succ_pos _
  ·split at h
   ·cases h
   ·split at h
    ·exact (form_pos (expr_pos d)).bind (fun e=>(z7o _).bind fun _=>Pos.ok fun j=>(e,j)) (i+1) n h
    ·split at h
     ·cases h
     ·split at h
      ·cases h
      ·exact (z4i _).bind (fun x=>Pos.ok fun j=>(Ex.mk 2 0 x [] [],j)) i n h
theorem fields_pos:∀f,Pos (z4l ws f)
 | 0=>Pos.err
 | f+1=>Pos.ite (p:=fun i=>z2k (z0e ws i)=true) ((z4i _).bind fun s=>(fields_pos f).bind fun l=>Pos.ok fun i=>(s::l,i)) (Pos.ok fun i=>([],i))
theorem cons_pos:∀f,Pos (consP ws f)
 | 0=>Pos.err
 | f+1=>(z4i _).bind fun n=>(fields_pos _).bind fun l=>Pos.ite (p:=fun i=>z0e ws i≠sBar) (Pos.ok fun i=>([(⟨n,l⟩:Con)],i)) ((cons_pos f).bind (fun cs=>Pos.ok fun i=>((⟨n,l⟩:Con)::cs,i))).next
theorem data_pos:Pos (dataP ws):=(z4i _).bind fun n=>(z7o _).bind fun _=>(cons_pos _).bind fun l=>Pos.ok fun i=>((⟨n,l⟩:Data),i)
theorem param_pos:Pos (z6f ws):=(z4i _).bind fun n=>(z7o _).bind fun _=>(z4i _).bind fun t=>Pos.ok fun i=>((⟨n,t⟩:Param),i)
theorem params_pos:∀f,Pos (z5g ws f)
 | 0=>Pos.err
 | f+1=>Pos.ite (p:=fun i=>z0e ws i=sOpn) ((param_pos).bind (fun p=>(z7o _).bind fun _=>(params_pos f).bind fun l=>Pos.ok fun i=>(p::l,i))).next (Pos.ok fun i=>([],i))
theorem fun_pos:Pos (funP ws):=(z4i _).bind fun n=>(params_pos _).bind fun ps=>(z7o _).bind fun _=>(z4i _).bind fun r=>(z7o _).bind fun _=>(expr_pos _).bind fun b=>Pos.ok fun i=>((⟨n,ps,r,b⟩:Fun),i)
theorem decls_pos:∀f c i n,z2n ws f c i=.error n→0 < n
 | 0,_,_,_,h=>by cases h;exact Nat.succ_pos _
 | f+1,c,i,n,h=>by
  simp only [z2n] at h
  split at h
  ·split at h
   ·split at h
    ·exact decls_pos f _ _ n h
    ·rename_i hd;cases h;exact data_pos _ _ hd
   ·split at h
    ·split at h
     ·exact decls_pos f _ _ n h
     ·rename_i hd;cases h;exact param_pos _ _ hd
    ·split at h
     ·split at h
      ·exact decls_pos f _ _ n h
      ·rename_i hd;cases h;exact fun_pos _ _ hd
     ·split at h
      ·split at h
       ·exact decls_pos f _ _ n h
       ·rename_i hd;cases h;exact z4i _ _ _ hd
      ·cases h;exact Nat.succ_pos _
  ·cases h
end
theorem read_pos {t:Bs} {n:Nat} (h:readP t=.error n):0 < n:=decls_pos _ _ _ _ h
def z9z (t:Bs):Except (Nat×Int) Core:=if 60000 < t.size then .error (0,2) else match readP t with
 | .error n=>.error (n,5)
 | .ok c=>if z1g c=0 then .ok c else .error (0,z1g c)
theorem parse_long {t:Bs} (h:60000 < t.size):z9z t=.error (0,2):=if_pos h
theorem parse_text {t:Bs} {n:Nat} (h:¬60000 < t.size) (h2:readP t=.error n):z9z t=.error (n,5):=by unfold z9z;rw [if_neg h,h2]
theorem parse_wrong {t:Bs} {c:Core} (h:¬60000 < t.size) (h2:readP t=.ok c) (h3:¬z1g c=0):z9z t=.error (0,z1g c):=by unfold z9z;rw [if_neg h,h2];exact if_neg h3
theorem parse_fine {t:Bs} {c:Core} (h:¬60000 < t.size) (h2:readP t=.ok c) (h3:z1g c=0):z9z t=.ok c:=by unfold z9z;rw [if_neg h,h2];exact if_pos h3
end Go.Sw

namespace Go.Sw
open Go.Proofs
mutual
def sameV:Val→Val→Bool
 | .mk c n l,v=>decide (c=v.con)&&decide (n=v.num)&&decide (l.length=v.args.length)&&sameVs l v.args
def sameVs:List Val→List Val→Bool
 | [],_=>true
 | _::_,[]=>true
 | x::xs,y::ys=>sameV x y&&sameVs xs ys
end
theorem sameV_eq (v u:Val):sameV v u=(decide (v.con=u.con)&&decide (v.num=u.num)&&decide (v.args.length=u.args.length)&&sameVs v.args u.args):=by
 cases v;cases u;simp only [sameV,Val.con,Val.num,Val.args];rfl
theorem sameVs_cons (x y:Val) (xs ys:List Val):sameVs (x::xs) (y::ys)=(sameV x y&&sameVs xs ys):=by simp only [sameVs]
theorem sameVs_nil (ys:List Val):sameVs [] ys=true:=by simp only [sameVs]
def sameNs:List Named→List Named→Bool
 | [],_=>true
 | _::_,[]=>true
 | x::xs,y::ys=>(decide (x.name=y.name)&&sameV x.value y.value)&&sameNs xs ys
theorem sameNs_cons (x y:Named) (xs ys:List Named):sameNs (x::xs) (y::ys)=((decide (x.name=y.name)&&sameV x.value y.value)&&sameNs xs ys):=rfl
theorem sameNs_nil (ys:List Named):sameNs [] ys=true:=rfl
def sameO (v u:Outcome):Bool:=(decide (v.steps=u.steps)&&decide (v.outputs.length=u.outputs.length))&&sameNs v.outputs u.outputs
def z9y (fs:List Fun) (ds:List Bs):List Bs:=(fs.filter fun f=>has ds f.name).map Fun.name
theorem named_yes {f:Fun} {fs:List Fun} {ds:List Bs} (h:has ds f.name=true):z9y (f::fs) ds=f.name::z9y fs ds:=by simp [z9y,h]
theorem named_no {f:Fun} {fs:List Fun} {ds:List Bs} (h:has ds f.name=false):z9y (f::fs) ds=z9y fs ds:=by simp [z9y,h]
theorem named_nil {ds:List Bs}:z9y [] ds=[]:=rfl
end Go.Sw

namespace Go.Sw
open Go.Proofs.Tryz
open Go.Proofs
set_option maxRecDepth 20000
set_option maxHeartbeats 4000000
theorem parse_ok {Φ:Fz} {K:List Res} {w:World} {t:Bs} (G:Glob Φ) (hasc:AscB t) (hm:Mem Φ K w) :
  Calls Tryz.prog 25 (List.toArray [.string t]) w (fun ee w'=>Out (z9z t)
   (fun C=>∃y:Fz×Value×Value×Value×Value,ee=.returned (.tuple (List.toArray [.agg (List.toArray [y.2.1,y.2.2.1,y.2.2.2.1,y.2.2.2.2]),.int .i64 ((0:Nat):Int),.int .i64 ((0:Nat):Int)]))∧(Φ.Le y.1∧SliceOf RData y.1 2 y.2.1 C.datas∧SliceOf RParam y.1 2 y.2.2.1 C.inputs∧SliceOf RFun y.1 8 y.2.2.2.1 C.funs)∧Mem y.1 (.gs y.2.2.2.2 9 1 (strs C.outputs)::K) w')
   (fun c=>ee=.returned (.tuple (List.toArray [.agg (List.toArray [.slice none 0 0,.slice none 0 0,.slice none 0 0,.slice none 0 0]),.int .i64 ((c.1:Nat):Int),.int .i64 c.2]))∧Mem Φ K w')):=by
 refine z0l func25 ntmps25 fun Q hQ a he =>?_
 refine Alc he hm fun b2 w hm a he =>?_
 refine go he hm fun a he =>?_
 by_cases h5:60000 < t.size
 refine z1h he hm fun a he =>?_
 refine Sto 0 he hm fun w hm a he =>?_
 refine go he hm fun a he =>?_
 have hmr:=hm
 replace hm:=hm.dl [0]
 refine hQ _ _ _ (z8l (i:=0) (cs:=[.slice none 0 0,.slice none 0 0,.slice none 0 0,.slice none 0 0]) he hmr.toSees results25 rfl rfl isAgg27 sizeOf27 rfl rfl rfl ?_)
 show Out (z9z t) _ _
 rw [parse_long h5]
 exact ⟨rfl,hm⟩
 refine go he hm fun a he =>?_
 refine st he rfl rfl rfl (eff_callW he rfl call74 (read_ok G (by omega) hasc hm) (fun q8 y9 w hq10 hG11 hm a he =>?_) (fun q8 w hq10 hm a he =>?_))
 obtain ⟨Ψ1,u0,u1,u2,u3⟩:=y9
 obtain ⟨le1,r0,r1,r2⟩:=hG11
 simp only at le1 r0 r1 r2 hm he
 replace G:=G.mono le1
 replace hm:=hm.nf
 obtain ⟨p0,q0,rfl,_,_⟩:=r0.fm
 obtain ⟨p1,q1,rfl,_,_⟩:=r1.fm
 obtain ⟨p2,q2,rfl,_,_⟩:=r2.fm
 obtain ⟨p3,m3,q3,hu3_,_,_⟩:=hm.toSees.gsForm (i:=0) rfl
 subst hu3_
 replace hm:=hm.nf
 refine Alc he hm fun b12 w hm a he =>?_
 refine Sto 0 he hm fun w hm a he =>?_
 refine Qq he hm (fun a he =>?_) (o:=by exact fun _ _ _ he hs=>y_gtr false he rfl rfl rfl)
 refine go he hm fun a he =>?_
 have hm0_:=hm
 clear hm
 obtain ⟨Ψ2,le2,hm,hrow2,back2⟩:=hm0_.freezeRowT (i:=1) rfl
 clear hm0_
 replace G:=G.mono le2
 replace hm:=hm.nf
 have rpc_:RCore Ψ2 [.slice p0 (q8.datas).length q0,.slice p1 (q8.inputs).length q1,.slice p2 (q8.funs).length q2,.slice p3 m3 q3] q8:=⟨_,_,_,_,rfl,r0.mono RData.mono le2,r1.mono RParam.mono le2,r2.mono RFun.mono le2,SliceOf.strs.2 hrow2⟩
 refine z0y call36 he hm (fun w hm a he =>?_) (c:=check_ok rpc_ G hm)
 refine go he hm fun a he =>?_
 replace hm:=back2 _ _ hm
 replace hm:=hm.nf
 refine go he hm fun a he =>?_
 by_cases h18:z1g q8=0
 refine Sto 2 he hm fun w hm a he =>?_
 refine go he hm fun a he =>?_
 have hmr:=hm
 replace hm:=hm.dl [2,1]
 refine hQ _ _ _ (z8l (i:=2) (cs:=[.slice p0 (q8.datas).length q0,.slice p1 (q8.inputs).length q1,.slice p2 (q8.funs).length q2,.slice p3 m3 q3]) he hmr.toSees results25 rfl rfl isAgg27 sizeOf27 rfl rfl rfl ?_)
 show Out (z9z t) _ _
 rw [parse_fine h5 hq10 h18]
 exact ⟨(Ψ1,_,_,_,_),rfl,⟨le1,r0,r1,r2⟩,hm⟩
 refine z1h he hm fun a he =>?_
 refine Sto 2 he hm fun w hm a he =>?_
 refine go he hm fun a he =>?_
 have hmr:=hm
 replace hm:=hm.dl [2,1,0]
 refine hQ _ _ _ (z8l (i:=2) (cs:=[.slice none 0 0,.slice none 0 0,.slice none 0 0,.slice none 0 0]) he hmr.toSees results25 rfl rfl isAgg27 sizeOf27 rfl rfl rfl ?_)
 show Out (z9z t) _ _
 rw [parse_wrong h5 hq10 h18]
 exact ⟨rfl,hm.le (le1)⟩
 replace hm:=hm.nf
 have hpos_:=read_pos hq10
 refine Alc he hm fun b21 w hm a he =>?_
 refine Sto 0 he hm fun w hm a he =>?_
 refine z1h he hm fun a he =>?_
 refine Sto 1 he hm fun w hm a he =>?_
 refine go he hm fun a he =>?_
 have hmr:=hm
 replace hm:=hm.dl [1,0]
 refine hQ _ _ _ (z8l (i:=1) (cs:=[.slice none 0 0,.slice none 0 0,.slice none 0 0,.slice none 0 0]) he hmr.toSees results25 rfl rfl isAgg27 sizeOf27 rfl rfl rfl ?_)
 show Out (z9z t) _ _
 rw [parse_text h5 hq10]
 exact ⟨rfl,hm⟩
end Go.Sw

namespace Go.Sw
open Go.Proofs
set_option maxRecDepth 20000
set_option maxHeartbeats 4000000
def textB:Bs:=⟨#[100,97,116,97,32,76,105,115,116,32,61,32,78,105,108,32,124,32,67,111,110,115,32,73,110,116,32,76,105,115,116,10,105,110,112,117,116,32,120,115,32,58,32,76,105,115,116,10,102,117,110,32,115,117,109,32,40,108,32,58,32,76,105,115,116,41,32,58,32,73,110,116,32,61,32,40,99,97,115,101,32,108,32,40,78,105,108,32,45,62,32,48,41,32,40,67,111,110,115,32,104,32,116,32,45,62,32,40,43,32,104,32,40,115,117,109,32,116,41,41,41,41,10,102,117,110,32,116,111,116,97,108,32,58,32,73,110,116,32,61,32,40,115,117,109,32,33,120,115,41,10,102,117,110,32,108,101,115,115,32,40,97,32,58,32,73,110,116,41,32,40,98,32,58,32,73,110,116,41,32,58,32,73,110,116,32,61,32,40,99,97,115,101,32,40,60,32,97,32,98,41,32,40,70,97,108,115,101,32,45,62,32,48,41,32,40,84,114,117,101,32,45,62,32,49,41,41,10,111,117,116,112,117,116,32,116,111,116,97,108,10]⟩
theorem text_ok {Φ:Fz} {K:List Res} {w:World} (hm:Mem Φ K w):Calls Tryz.prog 57 (List.toArray []) w (fun ee w'=>ee=.returned (.string textB)∧Mem Φ K w'):=by
 refine z0l Tryz.func57 Tryz.ntmps57 fun Q hQ a he =>?_
 refine Ret1 hQ he hm ?_
 exact ⟨rfl,hm⟩
theorem isInputType_ok {Φ:Fz} {K:List Res} {w:World} {u0 u1 u2 u3:Value} {ds:List Data} {name:Bs} (r0:SliceOf RData Φ 2 u0 ds) (hm:Mem Φ K w) :
  Calls Tryz.prog 58 (List.toArray [.agg (List.toArray [u0,u1,u2,u3]),.string name]) w (fun ee w'=>ee=.returned (.bool (z2p ds name))∧Mem Φ K w'):=by
 obtain ⟨p0,q0,rfl,hm0,hn0⟩:=r0.fm
 refine z0l Tryz.func58 Tryz.ntmps58 fun Q hQ a he =>?_
 refine Bx he hm fun b2 w hm a he =>?_
 refine z0y Tryz.call114 he hm (fun w hm a he =>?_) (c:=inputType_ok r0 hm)
 refine go he hm fun a he =>?_
 replace hm:=hm.dl [0]
 refine Ret1 hQ he hm ?_
 exact ⟨rfl,hm⟩
end Go.Sw

namespace Go.Sw
open Go.Proofs
set_option maxRecDepth 40000
set_option maxHeartbeats 4000000
def z_l:Bs:=⟨#[108]⟩
def z_Nil:Bs:=⟨#[78,105,108]⟩
def z_h:Bs:=⟨#[104]⟩
def z_t:Bs:=⟨#[116]⟩
def z_sum:Bs:=⟨#[115,117,109]⟩
def zPlus:Bs:=⟨#[43]⟩
def z_Cons:Bs:=⟨#[67,111,110,115]⟩
def z_xs:Bs:=⟨#[120,115]⟩
def z_a:Bs:=⟨#[97]⟩
def z_b:Bs:=⟨#[98]⟩
def zLess:Bs:=⟨#[60]⟩
def z_False:Bs:=⟨#[70,97,108,115,101]⟩
def z_True:Bs:=⟨#[84,114,117,101]⟩
def z_data:Bs:=⟨#[100,97,116,97]⟩
def z_List:Bs:=⟨#[76,105,115,116]⟩
def zEq:Bs:=⟨#[61]⟩
def zBar:Bs:=⟨#[124]⟩
def y0f:Bs:=⟨#[73,110,116]⟩
def z_input:Bs:=⟨#[105,110,112,117,116]⟩
def zColon:Bs:=⟨#[58]⟩
def z_fun:Bs:=⟨#[102,117,110]⟩
def zOpn:Bs:=⟨#[40]⟩
def zCls:Bs:=⟨#[41]⟩
def z_case:Bs:=⟨#[99,97,115,101]⟩
def zArrow:Bs:=⟨#[45,62]⟩
def z_0:Bs:=⟨#[48]⟩
def z8w:Bs:=⟨#[116,111,116,97,108]⟩
def z_bangxs:Bs:=⟨#[33,120,115]⟩
def y0g:Bs:=⟨#[108,101,115,115]⟩
def z_1:Bs:=⟨#[49]⟩
def z_output:Bs:=⟨#[111,117,116,112,117,116]⟩
def saneWs:List Bs:=[z_data,z_List,zEq,z_Nil,zBar,z_Cons,y0f,z_List,z_input,z_xs,zColon,z_List,z_fun,z_sum,zOpn,z_l,zColon,z_List,zCls,zColon,y0f,zEq,zOpn,z_case,z_l,zOpn,z_Nil,zArrow,z_0,zCls,zOpn,z_Cons,z_h,z_t,zArrow,zOpn,zPlus,z_h,zOpn,z_sum,z_t,zCls,zCls,zCls,zCls,z_fun,z8w,zColon,y0f,zEq,zOpn,z_sum,z_bangxs,zCls,z_fun,y0g,zOpn,z_a,zColon,y0f,zCls,zOpn,z_b,zColon,y0f,zCls,zColon,y0f,zEq,zOpn,z_case,zOpn,zLess,z_a,z_b,zCls,zOpn,z_False,zArrow,z_0,zCls,zOpn,z_True,zArrow,z_1,zCls,zCls,z_output,z8w]
def saneC:Core:=⟨[⟨z_List,[⟨z_Nil,[]⟩,⟨z_Cons,[y0f,z_List]⟩]⟩],
 [⟨z_xs,z_List⟩],
 [⟨z_sum,[⟨z_l,z_List⟩],y0f,(.mk 7 0 sNo [(.mk 2 0 z_l [] [])] [(.mk z_Nil [] (.mk 1 0 sNo [] [])),(.mk z_Cons [z_h,z_t] (.mk 8 0 zPlus [(.mk 2 0 z_h [] []),(.mk 5 0 z_sum [(.mk 2 0 z_t [] [])] [])] []))])⟩,
  ⟨z8w,[],y0f,(.mk 5 0 z_sum [(.mk 3 0 z_xs [] [])] [])⟩,
  ⟨y0g,[⟨z_a,y0f⟩,⟨z_b,y0f⟩],y0f,(.mk 7 0 sNo [(.mk 8 0 zLess [(.mk 2 0 z_a [] []),(.mk 2 0 z_b [] [])] [])] [(.mk z_False [] (.mk 1 0 sNo [] [])),(.mk z_True [] (.mk 1 1 sNo [] []))])⟩],
 [z8w]⟩
def saneIn:List Named:=[⟨z_xs,.mk z_Cons 0 [.mk sNo 3 [],.mk z_Cons 0 [.mk sNo 4 [],(.mk z_Nil 0 [])]]⟩]
def saneA:List Val:=[.mk sNo 2 [],.mk sNo 3 []]
def saneO:Outcome:=⟨[⟨z8w,.mk sNo 7 []⟩],17⟩
theorem words_sane:wordsF textB=saneWs:=by kernel_rfl
theorem read_sane:readP textB=.ok saneC:=by
 unfold readP;rw [words_sane];kernel_rfl
theorem look_sane:z1g saneC=0:=by kernel_rfl
theorem parse_sane:z9z textB=.ok saneC:=parse_fine (by decide) read_sane look_sane
theorem asc_sane:AscB textB:=by
 intro j b h
 have h2:textB.data.toList.all (fun b=>decide (b.toNat < 128))=true:=by kernel_rfl
 exact of_decide_eq_true (List.all_eq_true.1 h2 b (List.mem_of_getElem? h))
theorem run_sane17:runP saneC saneIn 17=(saneO,0):=by kernel_rfl
theorem run_sane16:runP saneC saneIn 16=(out0,4):=by kernel_rfl
theorem print_sane:printP saneC=(textB,0):=by kernel_rfl
theorem isType_sane:z2p saneC.datas z_List=true:=by kernel_rfl
theorem noType_sane:z2p saneC.datas sBool=false:=by kernel_rfl
theorem calls_sum:z2y (z0f saneC) z_sum=[z_sum]:=by kernel_rfl
theorem calls_total:z2y (z0f saneC) z8w=[z_sum]:=by kernel_rfl
theorem calls_less:z2y (z0f saneC) y0g=[]:=by kernel_rfl
theorem reach_less {x:Bs} (h:Reach (z0f saneC) y0g x):x=y0g:=by
 induction h with
 | refl=>rfl
 | step h1 h2 ih=>subst ih;rw [calls_less] at h2;cases h2
theorem quiet_less:¬z5p (z0f saneC) y0g:=by
 rintro ⟨x,hx,hr⟩
 rw [reach_less hx] at hr
 have h2:z3u (fbody (z0f saneC) y0g)=false:=by kernel_rfl
 rw [h2] at hr
 cases hr
theorem less_sane:lget (z0f saneC).funs y0g=some ⟨y0g,[⟨z_a,y0f⟩,⟨z_b,y0f⟩],y0f,(.mk 7 0 sNo [(.mk 8 0 zLess [(.mk 2 0 z_a [] []),(.mk 2 0 z_b [] [])] [])] [(.mk z_False [] (.mk 1 0 sNo [] [])),(.mk z_True [] (.mk 1 1 sNo [] []))])⟩:=by kernel_rfl
theorem given_sane:givenA (z0f saneC) saneA [⟨z_a,y0f⟩,⟨z_b,y0f⟩]=true:=by kernel_rfl
theorem callEnd_sane:z5d (z5e (z2g ⟨(z0f saneC).funs,[]⟩) ⟨y0g,[⟨z_a,y0f⟩,⟨z_b,y0f⟩],y0f,(.mk 7 0 sNo [(.mk 8 0 zLess [(.mk 2 0 z_a [] []),(.mk 2 0 z_b [] [])] [])] [(.mk z_False [] (.mk 1 0 sNo [] [])),(.mk z_True [] (.mk 1 1 sNo [] []))])⟩ saneA) 9=.ok (.mk sNo 1 [],3):=by kernel_rfl
theorem call_sane:z1f saneC y0g saneA 9=(.mk sNo 1 [],6,0):=by
 unfold z1f
 rw [if_neg (not_not_intro look_sane),if_neg (by decide),less_sane]
 simp only
 rw [if_neg (by rw [given_sane];decide),if_neg quiet_less,show (9:Int).toNat=9 from rfl,callEnd_sane]
 rfl
theorem named_sane {ds:List Bs} (h:Reached (z0f saneC) saneC.outputs ds):z9y saneC.funs ds=[z_sum,z8w]:=by
 have h1:=h.starts z8w (by simp [saneC])
 have h2:=h.closed _ h1 z_sum (by rw [calls_total];simp)
 have h3:¬y0g∈ds:=fun hm=>by
  have:=h.least (fun x=>x=z8w∨x=z_sum) (fun x hx=>.inl (by simpa [saneC] using hx)) (fun x hx y hy=>by
   rcases hx with rfl | rfl
   ·rw [calls_total] at hy;exact .inr (by simpa using hy)
   ·rw [calls_sum] at hy;exact .inr (by simpa using hy)) _ hm
  rcases this with h | h <;> exact absurd h (by decide)
 show z9y [_,_,_] ds=_
 rw [named_yes (has_mem.2 h2),named_yes (has_mem.2 h1),named_no (Bool.eq_false_iff.2 fun h=>h3 (has_mem.1 h)),named_nil]
end Go.Sw

namespace Go.Sw
open Go.Proofs.Tryz
open Go.Proofs
set_option maxRecDepth 20000
set_option maxHeartbeats 4000000
theorem print_ok {Φ:Fz} {K:List Res} {w:World} {d0:List Value} {c:Core} (rpc:RCore Φ d0 c) (G:Glob Φ) (T_:Tabs Φ) (hm:Mem Φ K w) :
  Calls Tryz.prog 23 (List.toArray [.agg d0.toArray]) w (fun ee w'=>ee=.returned (.tuple (List.toArray [.string (printP c).1,.int .i64 (printP c).2]))∧Mem Φ K w'):=by
 obtain ⟨p3,c4,p9,c10,p15,c16,p21,c22,rfl,h2,h8,h14,h20,hm5,hn6,hm11,hn12,hm17,hn18,hm23,hn24⟩:=RCore.fm rpc
 refine z0l func23 ntmps23 fun Q hQ a he =>?_
 refine Bx he hm fun b26 w hm a he =>?_
 refine z0y call36 he hm (fun w hm a he =>?_) (c:=check_ok rpc G hm)
 refine go he hm fun a he =>?_
 by_cases h30:z1g c=0
 refine Alc he hm fun b32 w hm a he =>?_
 refine go he hm fun a he =>?_
 replace hm:=hm.nilRow 5 1
 replace hm:=hm.nf
 have hR_:=z5y h30
 have hL_:=(z4h h30).1
 have hps_:=print_size h30 (core_nums rpc)
 refine go he hm fun a he =>?_
 refine z1i (he.ks [1,5,25,26]) hm (fun R mm a w=>∃(i:Nat) (bp:Option Addr) (bv:Value) (acc:Bs),mm=c.datas.length - i∧R Φ [(27,.int .i64 ((i:Nat):Int))] [(0,.gs (bv) 5 1 (Lib.strCells acc)),(1,.blk b32 (ob [.pointer bp,bv] 130))] a w∧((bp=none∨bp=some ⟨b32,0,none⟩)∧acc++(catB ((c.datas.drop i).map dataB)++(catB (c.inputs.map inputB)++(catB (c.funs.map funB)++catB (c.outputs.map outB))))=printB c)) (c.datas.length - 0) ⟨0,none,.slice none 0 0,⟨#[]⟩,rfl,⟨he.pk,hm⟩,⟨.inl rfl,empty_app _⟩⟩ ?_
 clear hm he
 rintro mm a w ⟨i,bp,bv,acc,hmu,⟨he,hm⟩,hI36⟩ L35 hL35
 replace hm:=hm.nf
 obtain ⟨hbp,hI36⟩:=hI36
 refine go he hm fun a he =>?_
 by_cases h38:i < c.datas.length
 refine go he hm fun a he =>?_
 obtain ⟨q42,rfl,x43,hx44,cs45,hl46,ha47,hr48⟩:=h2.el hn6 h38
 obtain ⟨s49,rfl,h50⟩:=id hr48
 obtain ⟨p51,c52,rfl,hm53,hn54⟩:=h50.fm
 refine Alc he hm fun b55 w hm a he =>?_
 refine Sto 0 he hm fun w hm a he =>?_
 refine go he hm fun a he =>?_
 replace hm:=hm.nilRow 9 1
 replace hm:=hm.nf
 refine go he hm fun a he =>?_
 refine z1i (he.ks [1,5,7,25,26,27,32,33]) hm (fun R mm a w=>∃(j:Nat) (u:Value) (ac:List Bs),mm=x43.cons.length - j∧R Φ [(8,u),(34,.int .i64 ((j:Nat):Int))] [(0,.gs (u) 9 1 (strs ac))] a w∧(ac=(x43.cons.map conT_).take j)) (x43.cons.length - 0) ⟨0,.slice none 0 0,[],rfl,⟨he.pk,hm⟩,rfl⟩ ?_
 clear hm he
 rintro mm a w ⟨j,u,ac,hmu,⟨he,hm⟩,hI60⟩ L59 hL59
 replace hm:=hm.nf
 refine go he hm fun a he =>?_
 by_cases h62:j < x43.cons.length
 refine go he hm fun a he =>?_
 obtain ⟨q66,rfl,x67,hx68,cs69,hl70,ha71,hr72⟩:=h50.el hn54 h62
 obtain ⟨s73,rfl,h74⟩:=id hr72
 obtain ⟨p75,c76,rfl,hm77,hn78⟩:=h74.fm
 refine Alc he hm fun b79 w hm a he =>?_
 refine Sto 0 he hm fun w hm a he =>?_
 refine BldS he hm fun v80 w hm a he =>?_
 refine App_ 0 z9k he hm (fun v81 w hm a he =>?_) (hr:=(SliceOf.strs.1 h74).rowIn hm.toSees) (h1:=z7t _) (hb:=by have h_:=con_lens hR_ hL_ (List.mem_of_getElem? hx44) (List.mem_of_getElem? hx68);have h2_:(⟨#[32]⟩:Bs).size=1:=rfl;rw [h2_] at h_;simp only [List.length_cons,List.length_nil,z1m] at h_ ⊢;omega)
 refine z0y call67 he hm (fun w hm a he =>?_) (c:=joinG_ok (l:=x67.name::x67.fields) (sep:=⟨#[32]⟩) (by have h_:=con_lens hR_ hL_ (List.mem_of_getElem? hx44) (List.mem_of_getElem? hx68);omega) hm)
 replace hm:=hm.nf
 refine BldS he hm fun v82 w hm a he =>?_
 refine App_ 2 z9k he hm (fun v83 w hm a he =>?_) (hb:=by have h_:=data_lens hR_ hL_ (List.mem_of_getElem? hx44);have h2_:(⟨#[32,124,32]⟩:Bs).size=3:=rfl;rw [h2_] at h_;have h3_:=congrArg List.length hI60;rw [List.length_take] at h3_;simp only [List.length_cons,List.length_nil,z1m] at h3_ ⊢;omega)
 first | rw [z2u] at hm | rw [← z1l] at hm
 refine go he hm fun a he =>?_
 replace hm:=hm.dl [1,0]
 refine hL59 _ _ _ (by subst hmu;omega) ⟨(j+1),(v83),(ac++[conT_ x67]),rfl,⟨he.pk,by exact hm⟩,?_⟩
 rw [hI60];exact (map_take_snoc hx68).symm
 refine Reg [1,2,1,1,1,0,1,1,0] [1,4] he hm fun w hm a he =>?_
 have hac_:ac=x43.cons.map conT_:=by rw [hI60];exact map_take_all h62
 have hp1_:=cat_part hx44 hI36
 simp only [dataB,z0h,← hac_] at hp1_
 refine Qq he hm (fun a he =>?_) (o:=by exact fun _ _ _ he hs=>z5c he rfl rfl (by (try simp only [z0h]);omega))
 refine Qq he hm (fun a he =>?_) (o:=by exact fun _ _ _ he hs=>z5c he rfl rfl (by (try simp only [z0h]);omega))
 refine z0y call67 he hm (fun w hm a he =>?_) (c:=joinG_ok (l:=ac) (sep:=⟨#[32,124,32]⟩) (by have h_:=data_lens hR_ hL_ (List.mem_of_getElem? hx44);rw [← hac_] at h_;omega) hm)
 replace hm:=hm.nf
 refine Qq he hm (fun a he =>?_) (o:=by exact fun _ _ _ he hs=>z5c he rfl rfl (by (try simp only [z0h]);omega))
 refine Qq he hm (fun a he =>?_) (o:=by exact fun _ _ _ he hs=>z5c he rfl rfl (by (try simp only [z0h]);omega))
 replace hm:=hm.ar [] [1,2]
 refine z2i call68 he hm (fun y85 w hG86 hm a he =>?_) (c:=z0t (t:=acc) (s:=(((((⟨#[100,97,116,97,32]⟩:ByteArray)++x43.name)++(⟨#[32,61,32]⟩:ByteArray))++(z8d (⟨#[32,124,32]⟩:Bs) ac))++(⟨#[10]⟩:ByteArray))) hbp (by (try simp only [z0h]);omega) hm)
 replace hm:=hm.nf
 refine go he hm fun a he =>?_
 replace hm:=hm.ar [2] [2,1,2]
 refine hL35 _ _ _ (by subst hmu;omega) ⟨(i+1),((some ⟨b32,0,none⟩)),(y85),((acc++(((((⟨#[100,97,116,97,32]⟩:ByteArray)++x43.name)++(⟨#[32,61,32]⟩:ByteArray))++(z8d (⟨#[32,124,32]⟩:Bs) ac))++(⟨#[10]⟩:ByteArray)))),rfl,⟨he.pk,by exact hm⟩,?_⟩
 rw [hac_];exact ⟨.inr rfl,cat_step hx44 hI36⟩
 refine go he hm fun a he =>?_
 refine z1i (he.ks [1,5,60,61]) hm (fun R mm a w=>∃(i:Nat) (bp:Option Addr) (bv:Value) (acc:Bs),mm=c.inputs.length - i∧R Φ [(62,.int .i64 ((i:Nat):Int))] [(0,.gs (bv) 5 1 (Lib.strCells acc)),(1,.blk b32 (ob [.pointer bp,bv] 130))] a w∧((bp=none∨bp=some ⟨b32,0,none⟩)∧acc++(catB ((c.inputs.drop i).map inputB)++(catB (c.funs.map funB)++catB (c.outputs.map outB)))=printB c)) (c.inputs.length - 0) ⟨0,bp,bv,acc,rfl,⟨he.pk,hm⟩,⟨hbp,cat_done h38 hI36⟩⟩ ?_
 clear hm he
 rintro mm a w ⟨i,bp,bv,acc,hmu,⟨he,hm⟩,hI91⟩ L90 hL90
 replace hm:=hm.nf
 obtain ⟨hbp,hI91⟩:=hI91
 refine go he hm fun a he =>?_
 by_cases h93:i < c.inputs.length
 refine go he hm fun a he =>?_
 obtain ⟨q97,rfl,x98,hx99,cs100,hl101,ha102,hr103⟩:=h8.el hn12 h93
 obtain rfl:=id hr103
 refine Alc he hm fun b104 w hm a he =>?_
 refine Sto 0 he hm fun w hm a he =>?_
 refine go he hm fun a he =>?_
 have hp1_:=cat_part hx99 hI91
 simp only [inputB,z0h] at hp1_
 refine Qq he hm (fun a he =>?_) (o:=by exact fun _ _ _ he hs=>z5c he rfl rfl (by (try simp only [z0h]);omega))
 refine Qq he hm (fun a he =>?_) (o:=by exact fun _ _ _ he hs=>z5c he rfl rfl (by (try simp only [z0h]);omega))
 refine Qq he hm (fun a he =>?_) (o:=by exact fun _ _ _ he hs=>z5c he rfl rfl (by (try simp only [z0h]);omega))
 refine Qq he hm (fun a he =>?_) (o:=by exact fun _ _ _ he hs=>z5c he rfl rfl (by (try simp only [z0h]);omega))
 replace hm:=hm.ar [] [1,2]
 refine z2i call68 he hm (fun y105 w hG106 hm a he =>?_) (c:=z0t (t:=acc) (s:=(((((⟨#[105,110,112,117,116,32]⟩:ByteArray)++x98.name)++(⟨#[32,58,32]⟩:ByteArray))++x98.type)++(⟨#[10]⟩:ByteArray))) hbp (by (try simp only [z0h]);omega) hm)
 replace hm:=hm.nf
 refine go he hm fun a he =>?_
 replace hm:=hm.ar [2] [2,1,2]
 refine hL90 _ _ _ (by subst hmu;omega) ⟨(i+1),((some ⟨b32,0,none⟩)),(y105),((acc++(((((⟨#[105,110,112,117,116,32]⟩:ByteArray)++x98.name)++(⟨#[32,58,32]⟩:ByteArray))++x98.type)++(⟨#[10]⟩:ByteArray)))),rfl,⟨he.pk,by exact hm⟩,?_⟩
 exact ⟨.inr rfl,cat_step hx99 hI91⟩
 refine go he hm fun a he =>?_
 refine z1i (he.ks [1,5,77,78]) hm (fun R mm a w=>∃(i:Nat) (bp:Option Addr) (bv:Value) (acc:Bs),mm=c.funs.length - i∧R Φ [(79,.int .i64 ((i:Nat):Int))] [(0,.gs (bv) 5 1 (Lib.strCells acc)),(1,.blk b32 (ob [.pointer bp,bv] 130))] a w∧((bp=none∨bp=some ⟨b32,0,none⟩)∧acc++(catB ((c.funs.drop i).map funB)++catB (c.outputs.map outB))=printB c)) (c.funs.length - 0) ⟨0,bp,bv,acc,rfl,⟨he.pk,hm⟩,⟨hbp,cat_done h93 hI91⟩⟩ ?_
 clear hm he
 rintro mm a w ⟨i,bp,bv,acc,hmu,⟨he,hm⟩,hI111⟩ L110 hL110
 replace hm:=hm.nf
 obtain ⟨hbp,hI111⟩:=hI111
 refine go he hm fun a he =>?_
 by_cases h113:i < c.funs.length
 refine go he hm fun a he =>?_
 obtain ⟨q117,rfl,x118,hx119,cs120,hl121,ha122,hr123⟩:=h14.el hn18 h113
 obtain ⟨s124,b130,rfl,h125,h131⟩:=id hr123
 obtain ⟨p126,c127,rfl,hm128,hn129⟩:=h125.fm
 obtain ⟨p134,c135,p140,c141,rfl,hi144,h133,h139,hm136,hn137,hm142,hn143⟩:=REx.fm h131
 refine Alc he hm fun b145 w hm a he =>?_
 refine Sto 0 he hm fun w hm a he =>?_
 refine go he hm fun a he =>?_
 have hq1_:=fun_start hx119 hI111
 have hp1_:=congrArg ByteArray.size hq1_
 simp only [z0h] at hp1_
 refine Qq he hm (fun a he =>?_) (o:=by exact fun _ _ _ he hs=>z5c he rfl rfl (by (try simp only [z0h]);omega))
 replace hm:=hm.ar [] [1,2]
 refine z2i call68 he hm (fun y147 w hG148 hm a he =>?_) (c:=z0t (t:=acc) (s:=((⟨#[102,117,110,32]⟩:ByteArray)++x118.name)) hbp (by (try simp only [z0h]);omega) hm)
 replace hm:=hm.nf
 refine go he hm fun a he =>?_
 refine z1i (he.ks [1,5,14,77,78,79,88,89]) hm (fun R mm a w=>∃(j:Nat) (bv2:Value) (acc2:Bs),mm=x118.params.length - j∧R Φ [(90,.int .i64 ((j:Nat):Int))] [(0,.blk b32 (ob [.pointer (some ⟨b32,0,none⟩),bv2] 130)),(1,.gs (bv2) 5 1 (Lib.strCells acc2))] a w∧(acc2++(catB ((x118.params.drop j).map paramB)++((((⟨#[32,58,32]⟩:Bs)++x118.result)++⟨#[32,61,32]⟩)++((wB x118.body++⟨#[10]⟩)++(catB ((c.funs.drop (i+1)).map funB)++catB (c.outputs.map outB)))))=printB c)) (x118.params.length - 0) ⟨0,y147,(acc++((⟨#[102,117,110,32]⟩:ByteArray)++x118.name)),rfl,⟨he.pk,hm⟩,hq1_⟩ ?_
 clear hm he
 rintro mm a w ⟨j,bv2,acc2,hmu,⟨he,hm⟩,hI152⟩ L151 hL151
 replace hm:=hm.nf
 refine go he hm fun a he =>?_
 by_cases h154:j < x118.params.length
 refine go he hm fun a he =>?_
 obtain ⟨q158,rfl,x159,hx160,cs161,hl162,ha163,hr164⟩:=h125.el hn129 h154
 obtain rfl:=id hr164
 refine Alc he hm fun b165 w hm a he =>?_
 refine Sto 0 he hm fun w hm a he =>?_
 refine go he hm fun a he =>?_
 have hp1_:=cat_part hx160 hI152
 simp only [paramB,z0h] at hp1_
 refine Qq he hm (fun a he =>?_) (o:=by exact fun _ _ _ he hs=>z5c he rfl rfl (by (try simp only [z0h]);omega))
 refine Qq he hm (fun a he =>?_) (o:=by exact fun _ _ _ he hs=>z5c he rfl rfl (by (try simp only [z0h]);omega))
 refine Qq he hm (fun a he =>?_) (o:=by exact fun _ _ _ he hs=>z5c he rfl rfl (by (try simp only [z0h]);omega))
 refine Qq he hm (fun a he =>?_) (o:=by exact fun _ _ _ he hs=>z5c he rfl rfl (by (try simp only [z0h]);omega))
 replace hm:=hm.ar [] [2,2]
 refine z2i call68 he hm (fun y166 w hG167 hm a he =>?_) (c:=z0t (t:=acc2) (s:=(((((⟨#[32,40]⟩:ByteArray)++x159.name)++(⟨#[32,58,32]⟩:ByteArray))++x159.type)++(⟨#[41]⟩:ByteArray))) (.inr rfl) (by (try simp only [z0h]);omega) hm)
 replace hm:=hm.nf
 refine go he hm fun a he =>?_
 replace hm:=hm.dl [2]
 refine hL151 _ _ _ (by subst hmu;omega) ⟨(j+1),(y166),((acc2++(((((⟨#[32,40]⟩:ByteArray)++x159.name)++(⟨#[32,58,32]⟩:ByteArray))++x159.type)++(⟨#[41]⟩:ByteArray)))),rfl,⟨he.pk,by exact hm⟩,?_⟩
 exact cat_step hx160 hI152
 refine go he hm fun a he =>?_
 have hq2_:=cat_done h154 hI152
 have hp2_:=congrArg ByteArray.size hq2_
 simp only [z0h] at hp2_
 have hq3_:=z2w x118.body
 refine Qq he hm (fun a he =>?_) (o:=by exact fun _ _ _ he hs=>z5c he rfl rfl (by (try simp only [z0h]);omega))
 refine Qq he hm (fun a he =>?_) (o:=by exact fun _ _ _ he hs=>z5c he rfl rfl (by (try simp only [z0h]);omega))
 replace hm:=hm.ar [] [1,1]
 refine z2i call68 he hm (fun y170 w hG171 hm a he =>?_) (c:=z0t (t:=acc2) (s:=(((⟨#[32,58,32]⟩:ByteArray)++x118.result)++(⟨#[32,61,32]⟩:ByteArray))) (.inr rfl) (by (try simp only [z0h]);omega) hm)
 replace hm:=hm.nf
 replace hm:=hm.ar [] [1,1]
 refine z2i call69 he hm (fun y173 w hG174 hm a he =>?_) (c:=write_ok (t:=(acc2++(((⟨#[32,58,32]⟩:ByteArray)++x118.result)++(⟨#[32,61,32]⟩:ByteArray)))) (wf_body hR_ (List.mem_of_getElem? hx119) (core_nums rpc _ (List.mem_of_getElem? hx119))) h131 (.inr rfl) T_ (by (try simp only [z0h]);omega) hm)
 replace hm:=hm.nf
 replace hm:=hm.ar [] [1,1]
 refine z2i call70 he hm (fun y175 w hG176 hm a he =>?_) (c:=z7d (t:=((acc2++(((⟨#[32,58,32]⟩:ByteArray)++x118.result)++(⟨#[32,61,32]⟩:ByteArray)))++wB x118.body)) (c:=10) (.inr rfl) (by (try simp only [z0h]);omega) hm)
 replace hm:=hm.nf
 refine go he hm fun a he =>?_
 replace hm:=hm.ar [2] [2,1,2]
 refine hL110 _ _ _ (by subst hmu;omega) ⟨(i+1),((some ⟨b32,0,none⟩)),(y175),((((acc2++(((⟨#[32,58,32]⟩:ByteArray)++x118.result)++(⟨#[32,61,32]⟩:ByteArray)))++wB x118.body)++⟨#[10]⟩)),rfl,⟨he.pk,by exact hm⟩,?_⟩
 exact ⟨.inr rfl,fun_step hq2_⟩
 refine go he hm fun a he =>?_
 refine z1i (he.ks [5,115,116]) hm (fun R mm a w=>∃(i:Nat) (bp:Option Addr) (bv:Value) (acc:Bs),mm=c.outputs.length - i∧R Φ [(117,.int .i64 ((i:Nat):Int))] [(0,.gs (bv) 5 1 (Lib.strCells acc)),(1,.blk b32 (ob [.pointer bp,bv] 130))] a w∧((bp=none∨bp=some ⟨b32,0,none⟩)∧acc++(catB ((c.outputs.drop i).map outB)++⟨#[]⟩)=printB c)) (c.outputs.length - 0) ⟨0,bp,bv,acc,rfl,⟨he.pk,hm⟩,⟨hbp,by have h_:=cat_done h113 hI111;rw [← h_,app_empty];rfl⟩⟩ ?_
 clear hm he
 rintro mm a w ⟨i,bp,bv,acc,hmu,⟨he,hm⟩,hI181⟩ L180 hL180
 replace hm:=hm.nf
 obtain ⟨hbp,hI181⟩:=hI181
 refine go he hm fun a he =>?_
 by_cases h183:i < c.outputs.length
 refine go he hm fun a he =>?_
 obtain ⟨q187,rfl,x188,hx189,cs190,hl191,ha192,hr193⟩:=h20.el hn24 h183
 obtain rfl:cs190=[.string x188]:=hr193
 refine go he hm fun a he =>?_
 have hp1_:=cat_part hx189 hI181
 simp only [outB,z0h] at hp1_
 refine Qq he hm (fun a he =>?_) (o:=by exact fun _ _ _ he hs=>z5c he rfl rfl (by (try simp only [z0h]);omega))
 refine Qq he hm (fun a he =>?_) (o:=by exact fun _ _ _ he hs=>z5c he rfl rfl (by (try simp only [z0h]);omega))
 replace hm:=hm.pl 1
 refine z2i call68 he hm (fun y194 w hG195 hm a he =>?_) (c:=z0t (t:=acc) (s:=(((⟨#[111,117,116,112,117,116,32]⟩:ByteArray)++x188)++(⟨#[10]⟩:ByteArray))) hbp (by (try simp only [z0h]);omega) hm)
 replace hm:=hm.nf
 refine go he hm fun a he =>?_
 replace hm:=hm.ar [] [2,1,2]
 refine hL180 _ _ _ (by subst hmu;omega) ⟨(i+1),((some ⟨b32,0,none⟩)),(y194),((acc++(((⟨#[111,117,116,112,117,116,32]⟩:ByteArray)++x188)++(⟨#[10]⟩:ByteArray)))),rfl,⟨he.pk,by exact hm⟩,?_⟩
 exact ⟨.inr rfl,cat_step hx189 hI181⟩
 refine go he hm fun a he =>?_
 have hend_:=cat_done h183 hI181
 rw [app_empty] at hend_
 replace hm:=hm.pl 1
 refine z0y call71 he hm (fun w hm a he =>?_) (c:=builderLen_ok (t:=acc) hm)
 by_cases h199:60000 < acc.size
 refine go he hm fun a he =>?_
 replace hm:=hm.dl [2,1,0]
 refine Ret2 hQ he hm ?_
 exact ⟨by rw [printP_long h30 (hend_▸h199)],hm⟩
 replace hm:=hm.ar [] [1,1]
 refine z0y call72 he hm (fun w hm a he =>?_) (c:=z7e (t:=acc) hm)
 replace hm:=hm.nf
 refine go he hm fun a he =>?_
 replace hm:=hm.dl [0]
 refine Ret2 hQ he hm ?_
 exact ⟨by rw [printP_ok h30 (hend_▸h199),hend_],hm⟩
 refine go he hm fun a he =>?_
 replace hm:=hm.dl [0]
 refine Ret2 hQ he hm ?_
 exact ⟨by rw [printP_look h30],hm⟩
end Go.Sw

namespace Go.Sw
def univO (c:Core):List Bs:=c.outputs++c.funs.flatMap fun f=>z1r f.body
theorem look_outs6 {c:Core} (h:z1g c=0):c.outputs.length≤1000:=by
 obtain ⟨hl,_⟩:=z4h h
 simp only [z4y,Bool.or_eq_false_iff,decide_eq_false_iff_not] at hl
 omega
theorem look_nfuns {c:Core} (h:z1g c=0):c.funs.length≤1000000:=by
 obtain ⟨hl,_⟩:=z4h h
 simp only [z4y,Bool.or_eq_false_iff,decide_eq_false_iff_not] at hl
 omega
theorem look_callsO {c:Core} (h:z1g c=0):(∀x,(z2y (z0f c) x).length≤6000)∧(∀x,∀y∈z2y (z0f c) x,y∈univO c)∧(univO c).length≤2000000:=by
 obtain ⟨hl,hr⟩:=z4h h
 have ht:z4s c=true:=by simp only [z2a,Bool.and_eq_true] at hr;exact hr.1.1.1.1.1
 have hn:c.funs.length≤300∧c.outputs.length≤6:=by
  simp only [z4y,Bool.or_eq_false_iff,decide_eq_false_iff_not] at hl
  omega
 refine ⟨(look_calls h).1,fun x y hy =>?_,?_⟩
 ·unfold z2y fbody at hy
  cases hf:lget (z0f c).funs x with
  | none=>rw [hf] at hy;simp [ex0,z1r,calledPs,calledPa] at hy
  | some f =>
   rw [hf] at hy
   exact List.mem_append.2 (.inr (List.mem_flatMap.2 ⟨f,z8p ht hf,hy⟩))
 ·have:=flat_len (l:=c.funs) (f:=fun f=>z1r f.body) (M:=6000) (fun f hf=>short_called (z9w hl hf))
  simp only [univO,List.length_append]
  have:c.funs.length * 6000≤300 * 6000:=Nat.mul_le_mul_right _ hn.1
  omega
end Go.Sw

namespace Go.Sw
open Go.Proofs
set_option maxRecDepth 20000
set_option maxHeartbeats 4000000
theorem sameValue_step {Φ:Fz} {K:List Res} {w:World} {d0:List Value} {v:Val} {d1:List Value} {u:Val} (rpv:RVal Φ d0 v) (rpu:RVal Φ d1 u) (ih:∀x∈v.args,∀{Φ:Fz} {K:List Res} {w:World} {d e:List Value} {u:Val},RVal Φ d x→RVal Φ e u→Mem Φ K w→Calls Tryz.prog 22 (List.toArray [.agg d.toArray,.agg e.toArray]) w (fun ee w'=>ee=.returned (.bool (sameV x u))∧Mem Φ K w')) (hm:Mem Φ K w) :
  Calls Tryz.prog 22 (List.toArray [.agg d0.toArray,.agg d1.toArray]) w (fun ee w'=>ee=.returned (.bool (sameV v u))∧Mem Φ K w'):=by
 obtain ⟨p3,c4,rfl,hi7,h2,hm5,hn6⟩:=RVal.fm rpv
 obtain ⟨p10,c11,rfl,hi14,h9,hm12,hn13⟩:=RVal.fm rpu
 refine z0l Tryz.func22 Tryz.ntmps22 fun Q hQ a he =>?_
 refine sq fun L15 hL15 =>?_
 refine go0 he hm fun a he =>?_
 refine Bx he hm fun b16 w hm a he =>?_
 refine Bx he hm fun b17 w hm a he =>?_
 refine go0 he hm fun a he =>?_
 refine hL15 _ _ ?_
 refine sq fun L18 hL18 =>?_
 have hJ19:∀a w,(∃(o:Bool),EnvR 50 [(2,.pointer (some ⟨b16,0,none⟩)),(3,.pointer (some ⟨b17,0,none⟩)),(5,.bool o)] [] a∧Mem Φ (.blk b17 (ob [.string u.con,.int .i64 (u.num),.slice p10 u.args.length c11] 42)::.blk b16 (ob [.string v.con,.int .i64 (v.num),.slice p3 v.args.length c4] 42)::K) w∧(o=(decide (v.con=u.con)&&decide (v.num=u.num)&&decide (v.args.length=u.args.length))))→L18 a w:=by
  clear hm he
  rintro a w ⟨o,he,hm,hI20⟩
  refine hL18 _ _ ?_
  refine sq fun L21 hL21 =>?_
  refine sq fun L22 hL22 =>?_
  refine go0 he hm fun a he =>?_
  refine hL22 _ _ ?_
  refine go0 he hm fun a he =>?_
  refine z1i (he.ks [2,3]) hm (fun R mm a w=>∃(i:Nat) (o:Bool),mm=v.args.length - i∧R Φ [(5,.bool o),(6,.int .i64 ((i:Nat):Int))] [] a w∧(sameV v u=(o&&sameVs (v.args.drop i) (u.args.drop i))∧(o=true→v.args.length=u.args.length))) (v.args.length - 0) ⟨0,o,rfl,⟨he.pk,hm⟩,⟨by rw [hI20];exact sameV_eq v u,fun h=>by rw [hI20] at h;simp only [Bool.and_eq_true,decide_eq_true_eq] at h;exact h.2⟩⟩ ?_
  clear hm he
  rintro mm a w ⟨i,o,hmu,⟨he,hm⟩,hI24⟩ L23 hL23
  obtain ⟨hI_,hln_⟩:=hI24
  refine sq fun L25 hL25 =>?_
  refine sq fun L26 hL26 =>?_
  refine go0 he hm fun a he =>?_
  by_cases h27:i < v.args.length
  refine go0 he hm fun a he =>?_
  refine hL26 _ _ ?_
  cases o
  refine go0 he hm fun a he =>?_
  refine hL21 _ _ ?_
  refine sq fun L28 hL28 =>?_
  refine go0 he hm fun a he =>?_
  refine hL28 _ _ ?_
  refine go0 he hm fun a he =>?_
  replace hm:=hm.dl [1,0]
  refine Ret1 hQ he hm ?_
  exact z0v hm (by rw [hI_,Bool.false_and])
  refine go0 he hm fun a he =>?_
  refine hL25 _ _ ?_
  refine sq fun L29 hL29 =>?_
  refine go0 he hm fun a he =>?_
  refine Reg [1,2,1,1,2,1,2,1,1,2,0,1] [0,1] he hm fun w hm a he =>?_
  have hlt2_:i < u.args.length:=by rw [← hln_ rfl];exact h27
  refine go0 he hm fun a he =>?_
  obtain ⟨q30,rfl,x31,hx32,cs33,hl34,ha35,hr36⟩:=h2.el hn6 h27
  obtain ⟨p39,c40,rfl,hi43,h38,hm41,hn42⟩:=RVal.fm hr36
  refine go0 he hm fun a he =>?_
  obtain ⟨q44,rfl,x45,hx46,cs47,hl48,ha49,hr50⟩:=h9.el hn13 hlt2_
  obtain ⟨p53,c54,rfl,hi57,h52,hm55,hn56⟩:=RVal.fm hr50
  refine go0 he hm fun a he =>?_
  refine z0y Tryz.call22 he hm (fun w hm a he =>?_) (c:=ih _ (List.mem_of_getElem? hx32) hr36 hr50 hm)
  refine go0 he hm fun a he =>?_
  refine hL29 _ _ ?_
  refine go0 he hm fun a he =>?_
  refine hL23 _ _ _ (by subst hmu;omega) ⟨(i+1),((sameV x31 x45)),rfl,⟨he.pk,hm⟩,?_⟩
  exact ⟨by rw [hI_,z0a hx32,z0a hx46,sameVs_cons,Bool.true_and],fun _=>hln_ rfl⟩
  refine go0 he hm fun a he =>?_
  refine hL26 _ _ ?_
  refine go0 he hm fun a he =>?_
  refine hL21 _ _ ?_
  refine sq fun L58 hL58 =>?_
  refine go0 he hm fun a he =>?_
  refine hL58 _ _ ?_
  refine go0 he hm fun a he =>?_
  replace hm:=hm.dl [1,0]
  refine Ret1 hQ he hm ?_
  exact z0v hm (by rw [hI_,z0g h27,sameVs_nil,Bool.and_true])
 refine go0 he hm fun a he =>?_
 by_cases h59:v.con=u.con
 refine go0 he hm fun a he =>?_
 by_cases h60:v.num=u.num
 refine go0 he hm fun a he =>?_
 by_cases h61:v.args.length=u.args.length
 refine go0 he hm fun a he =>?_
 exact hJ19 _ _ ⟨true,he.pk,hm,by simp [h59,h60,h61]⟩
 refine go0 he hm fun a he =>?_
 exact hJ19 _ _ ⟨false,he.pk,hm,by simp [h59,h60,h61]⟩
 refine go0 he hm fun a he =>?_
 exact hJ19 _ _ ⟨false,he.pk,hm,by simp [h59,h60]⟩
 refine go0 he hm fun a he =>?_
 exact hJ19 _ _ ⟨false,he.pk,hm,by simp [h59]⟩
theorem sameValue_ok:∀{v u:Val} {Φ:Fz} {K:List Res} {w:World} {d e:List Value},RVal Φ d v→RVal Φ e u→Mem Φ K w→Calls Tryz.prog 22 (List.toArray [.agg d.toArray,.agg e.toArray]) w (fun ee w'=>ee=.returned (.bool (sameV v u))∧Mem Φ K w'):=by
 intro v
 induction hn:SizeOf.sizeOf v using Nat.strongRecOn generalizing v with
 | ind n ih =>
  intro u Φ K w d e hv hu hm
  subst hn
  exact sameValue_step hv hu (fun x hx {Φ K w d e u} h1 h2 h3=>ih (SizeOf.sizeOf x) (by cases v with | mk c n l=>have:=List.sizeOf_lt_of_mem (show x∈l from hx);simp only [Val.mk.sizeOf_spec];omega) rfl h1 h2 h3) hm
end Go.Sw

namespace Go.Sw
open Go.Proofs.Tryz
open Go.Proofs
set_option maxRecDepth 20000
set_option maxHeartbeats 4000000
theorem sameOutcome_ok {Φ:Fz} {K:List Res} {w:World} {d0:List Value} {v:Outcome} {d1:List Value} {u:Outcome} (rpv:ROutcome Φ d0 v) (rpu:ROutcome Φ d1 u) (hm:Mem Φ K w) :
  Calls Tryz.prog 19 (List.toArray [.agg d0.toArray,.agg d1.toArray]) w (fun ee w'=>ee=.returned (.bool (sameO v u))∧Mem Φ K w'):=by
 obtain ⟨s1,rfl,h2⟩:=id rpv
 obtain ⟨p3,c4,rfl,hm5,hn6⟩:=h2.fm
 obtain ⟨s7,rfl,h8⟩:=id rpu
 obtain ⟨p9,c10,rfl,hm11,hn12⟩:=h8.fm
 refine z0l func19 ntmps19 fun Q hQ a he =>?_
 refine sq fun L13 hL13 =>?_
 refine go0 he hm fun a he =>?_
 refine Bx he hm fun b14 w hm a he =>?_
 refine Bx he hm fun b15 w hm a he =>?_
 refine go0 he hm fun a he =>?_
 refine hL13 _ _ ?_
 refine sq fun L16 hL16 =>?_
 have hJ17:∀a w,(∃(o:Bool),EnvR 60 [(2,.pointer (some ⟨b14,0,none⟩)),(3,.pointer (some ⟨b15,0,none⟩)),(5,.bool o)] [] a∧Mem Φ (.blk b15 (ob [.slice p9 u.outputs.length c10,.int .i64 (u.steps)] 30)::.blk b14 (ob [.slice p3 v.outputs.length c4,.int .i64 (v.steps)] 30)::K) w∧(o=(decide (v.steps=u.steps)&&decide (v.outputs.length=u.outputs.length))))→L16 a w:=by
  clear hm he
  rintro a w ⟨o,he,hm,hI18⟩
  refine hL16 _ _ ?_
  refine sq fun L19 hL19 =>?_
  refine sq fun L20 hL20 =>?_
  refine go0 he hm fun a he =>?_
  refine hL20 _ _ ?_
  refine go0 he hm fun a he =>?_
  refine z1i (he.ks [2,3]) hm (fun R mm a w=>∃(i:Nat) (o:Bool),mm=v.outputs.length - i∧R Φ [(5,.bool o),(6,.int .i64 ((i:Nat):Int))] [] a w∧(sameO v u=(o&&sameNs (v.outputs.drop i) (u.outputs.drop i))∧(o=true→v.outputs.length=u.outputs.length))) (v.outputs.length - 0) ⟨0,o,rfl,⟨he.pk,hm⟩,⟨by rw [hI18];rfl,fun h=>by rw [hI18] at h;simp only [Bool.and_eq_true,decide_eq_true_eq] at h;exact h.2⟩⟩ ?_
  clear hm he
  rintro mm a w ⟨i,o,hmu,⟨he,hm⟩,hI22⟩ L21 hL21
  obtain ⟨hI_,hln_⟩:=hI22
  refine sq fun L23 hL23 =>?_
  refine sq fun L24 hL24 =>?_
  refine go0 he hm fun a he =>?_
  by_cases h25:i < v.outputs.length
  refine go0 he hm fun a he =>?_
  refine hL24 _ _ ?_
  cases o
  refine go0 he hm fun a he =>?_
  refine hL19 _ _ ?_
  refine sq fun L26 hL26 =>?_
  refine go0 he hm fun a he =>?_
  refine hL26 _ _ ?_
  refine go0 he hm fun a he =>?_
  replace hm:=hm.dl [1,0]
  refine Ret1 hQ he hm ?_
  exact z0v hm (by rw [hI_,Bool.false_and])
  refine go0 he hm fun a he =>?_
  refine hL23 _ _ ?_
  refine sq fun L27 hL27 =>?_
  refine go0 he hm fun a he =>?_
  refine Reg [1,2,1,1,1,2,1,2,1,1,1,2,1,1,1,2,1,1,1,2,1,2,1,1,1,2,0,1,1] [0,1] he hm fun w hm a he =>?_
  have hlt2_:i < u.outputs.length:=by rw [← hln_ rfl];exact h25
  refine go0 he hm fun a he =>?_
  obtain ⟨q28,rfl,x29,hx30,cs31,hl32,ha33,hr34⟩:=h2.el hn6 h25
  obtain ⟨b35,rfl,h36⟩:=id hr34
  obtain ⟨p39,c40,rfl,hi43,h38,hm41,hn42⟩:=RVal.fm h36
  refine go0 he hm fun a he =>?_
  obtain ⟨q44,rfl,x45,hx46,cs47,hl48,ha49,hr50⟩:=h8.el hn12 hlt2_
  obtain ⟨b51,rfl,h52⟩:=id hr50
  obtain ⟨p55,c56,rfl,hi59,h54,hm57,hn58⟩:=RVal.fm h52
  refine go0 he hm fun a he =>?_
  by_cases h60:x29.name=x45.name
  refine go0 he hm fun a he =>?_
  obtain ⟨x61,hx62⟩:=z2d h25
  obtain ⟨cs63,hl64,ha65,hr66⟩:=h2.elem hx62
  obtain ⟨b67,rfl,h68⟩:=id hr66
  obtain ⟨p71,c72,rfl,hi75,h70,hm73,hn74⟩:=RVal.fm h68
  refine go0 he hm fun a he =>?_
  refine Qq he hm (fun a he =>?_) (o:=by exact fun _ _ _ he hs=>z7z 1 (vs:=[.string x61.value.con,.int .i64 (x61.value.num),.slice p71 x61.value.args.length c72]) he hs rfl ha65 isAgg42 sizeOf42 rfl rfl)
  refine go0 he hm fun a he =>?_
  obtain ⟨x76,hx77⟩:=z2d hlt2_
  obtain ⟨cs78,hl79,ha80,hr81⟩:=h8.elem hx77
  obtain ⟨b82,rfl,h83⟩:=id hr81
  obtain ⟨p86,c87,rfl,hi90,h85,hm88,hn89⟩:=RVal.fm h83
  refine go0 he hm fun a he =>?_
  refine Qq he hm (fun a he =>?_) (o:=by exact fun _ _ _ he hs=>z7z 1 (vs:=[.string x76.value.con,.int .i64 (x76.value.num),.slice p86 x76.value.args.length c87]) he hs rfl ha80 isAgg42 sizeOf42 rfl rfl)
  refine z0y call22 he hm (fun w hm a he =>?_) (c:=sameValue_ok h68 h83 hm)
  refine go0 he hm fun a he =>?_
  refine hL27 _ _ ?_
  refine go0 he hm fun a he =>?_
  refine hL21 _ _ _ (by subst hmu;omega) ⟨(i+1),((sameV x61.value x76.value)),rfl,⟨he.pk,hm⟩,?_⟩
  exact ⟨by rw [show x61=x29 from Option.some.inj (hx62.symm.trans hx30),show x76=x45 from Option.some.inj (hx77.symm.trans hx46)];rw [hI_,z0a hx30,z0a hx46,sameNs_cons,Bool.true_and];simp [h60],fun _=>hln_ rfl⟩
  refine go0 he hm fun a he =>?_
  refine hL27 _ _ ?_
  refine go0 he hm fun a he =>?_
  refine hL21 _ _ _ (by subst hmu;omega) ⟨(i+1),(false),rfl,⟨he.pk,hm⟩,?_⟩
  exact ⟨by rw [hI_,z0a hx30,z0a hx46,sameNs_cons,Bool.true_and];simp [h60],fun _=>hln_ rfl⟩
  refine go0 he hm fun a he =>?_
  refine hL24 _ _ ?_
  refine go0 he hm fun a he =>?_
  refine hL19 _ _ ?_
  refine sq fun L91 hL91 =>?_
  refine go0 he hm fun a he =>?_
  refine hL91 _ _ ?_
  refine go0 he hm fun a he =>?_
  replace hm:=hm.dl [1,0]
  refine Ret1 hQ he hm ?_
  exact z0v hm (by rw [hI_,z0g h25,sameNs_nil,Bool.and_true])
 refine go0 he hm fun a he =>?_
 by_cases h92:v.steps=u.steps
 refine go0 he hm fun a he =>?_
 by_cases h93:v.outputs.length=u.outputs.length
 refine go0 he hm fun a he =>?_
 exact hJ17 _ _ ⟨true,he.pk,hm,by simp [h92,h93]⟩
 refine go0 he hm fun a he =>?_
 exact hJ17 _ _ ⟨false,he.pk,hm,by simp [h92,h93]⟩
 refine go0 he hm fun a he =>?_
 exact hJ17 _ _ ⟨false,he.pk,hm,by simp [h92]⟩
end Go.Sw

namespace Go.Sw
open Go.Proofs.Tryz
open Go.Proofs
set_option maxRecDepth 20000
set_option maxHeartbeats 4000000
theorem named_ok {Φ:Fz} {K:List Res} {w:World} {p:Addr} {T:Table} {mb:Nat} {ds:List Bs} (rT:RTableW Φ p T) (hl:T.core.funs.length≤1000000) (hm:Mem Φ (.mp mb (z3c ds)::K) w) :
  Calls Tryz.prog 92 (List.toArray [.pointer (some p),.map (some mb)]) w (fun ee w'=>∃y:Value,ee=.returned y∧True∧Mem Φ (.gs y 9 1 (strs (z9y T.core.funs ds))::K) w'):=by
 obtain ⟨z1,z2,z3,z4,m5,m6,m7,m8,d9,hat10,hfs11,ma12,mr13⟩:=rT.ex
 obtain ⟨p14,c15,rfl,hmx16,hn17⟩:=hfs11.fm
 refine z0l func92 ntmps92 fun Q hQ a he =>?_
 refine go he hm fun a he =>?_
 replace hm:=hm.nilRow 9 1
 replace hm:=hm.nf
 refine z1i (he.ks [1,12,13]) hm (fun R mm a w=>∃(i:Nat) (u:Value) (ns:List Bs),mm=T.core.funs.length - i∧R Φ [(5,u),(14,.int .i64 ((i:Nat):Int))] [(0,.gs (u) 9 1 (strs ns))] a w∧(z9y T.core.funs ds=ns++z9y (T.core.funs.drop i) ds∧ns.length≤i)) (T.core.funs.length - 0) ⟨0,.slice none 0 0,[],rfl,⟨he.pk,hm⟩,⟨rfl,Nat.zero_le _⟩⟩ ?_
 clear hm he
 rintro mm a w ⟨i,u,ns,hmu,⟨he,hm⟩,hI23⟩ L22 hL22
 replace hm:=hm.nf
 obtain ⟨hI_,hnl_⟩:=hI23
 refine go he hm fun a he =>?_
 by_cases h25:i < T.core.funs.length
 refine go he hm fun a he =>?_
 obtain ⟨q29,rfl,x30,hx31,cs32,hl33,ha34,hr35⟩:=hfs11.el hn17 h25
 obtain ⟨s36,b42,rfl,h37,h43⟩:=id hr35
 obtain ⟨p38,c39,rfl,hm40,hn41⟩:=h37.fm
 obtain ⟨p46,c47,p52,c53,rfl,hi56,h45,h51,hm48,hn49,hm54,hn55⟩:=REx.fm h43
 refine Alc he hm fun b57 w hm a he =>?_
 refine Sto 0 he hm fun w hm a he =>?_
 refine go he hm fun a he =>?_
 rcases hf59:mget ((z3c ds)) x30.name with _ | vf60
 have hf59_:=congrArg (z0i false (.bool false)) hf59
 refine Qq he hm (fun a he =>?_) (o:=by exact fun _ _ _ he hs=>Ok.cast (z1c 2 runUnderlying121 runUnderlying9 zeroValue4 he hs rfl rfl rfl) (show z0i false (.bool false) (mget ((z3c ds)) x30.name)=.bool false from hf59_))
 refine go he hm fun a he =>?_
 replace hm:=hm.dl [0]
 refine hL22 _ _ _ (by subst hmu;omega) ⟨(i+1),(u),(ns),rfl,⟨he.pk,hm⟩,?_⟩
 exact ⟨by rw [hI_,z0a hx31,named_no (seen_not hf59)],by omega⟩
 obtain ⟨rfl,hs61⟩:=seen_val hf59
 have hf59_:=congrArg (z0i false (.bool false)) hf59
 refine Qq he hm (fun a he =>?_) (o:=by exact fun _ _ _ he hs=>Ok.cast (z1c 2 runUnderlying121 runUnderlying9 zeroValue4 he hs rfl rfl rfl) (show z0i false (.bool false) (mget ((z3c ds)) x30.name)=.bool true from hf59_))
 refine BldS he hm fun v62 w hm a he =>?_
 refine App_ 2 z9k he hm (fun v63 w hm a he =>?_)
 refine go he hm fun a he =>?_
 first | rw [z2u] at hm | rw [← z1l] at hm
 replace hm:=hm.dl [1,0]
 refine hL22 _ _ _ (by subst hmu;omega) ⟨(i+1),(v63),(ns++[x30.name]),rfl,⟨he.pk,hm⟩,?_⟩
 exact ⟨by rw [hI_,z0a hx31,named_yes hs61,List.append_assoc];rfl,by simp only [List.length_append,List.length_cons,List.length_nil];omega⟩
 refine go he hm fun a he =>?_
 replace hm:=hm.dl [1]
 refine Ret1 hQ he hm ?_
 rw [hI_,z0g h25,named_nil,List.append_nil];exact ⟨_,rfl,trivial,hm⟩
end Go.Sw

namespace Go.Sw
open Go.Proofs
set_option maxRecDepth 20000
set_option maxHeartbeats 4000000
theorem reachableO_ok {Φ:Fz} {K:List Res} {w:World} {d0:List Value} {c:Core} {v:Value} (rpc:RCoreX Φ d0 c v) (h0:z1g c=0) (hne:c.outputs≠[]) (G:Glob Φ) (hm:Mem Φ (.gs v 9 1 (strs c.outputs)::K) w) :
  Calls Tryz.prog 37 (List.toArray [.agg d0.toArray]) w (fun ee w'=>∃y:Fz×Value×List Bs,ee=.returned (.tuple (List.toArray [y.2.1,.int .i64 ((0:Nat):Int)]))∧(Φ.Le y.1∧Reached (z0f c) c.outputs y.2.2)∧Mem y.1 (.gs y.2.1 9 1 (strs (z9y c.funs y.2.2))::K) w'):=by
 obtain ⟨s1,s2,s3,q4,cc5,rfl,rfl,h6,h7,h8⟩:=id rpc
 obtain ⟨p9,c10,rfl,hm11,hn12⟩:=h6.fm
 obtain ⟨p13,c14,rfl,hm15,hn16⟩:=h7.fm
 obtain ⟨p17,c18,rfl,hm19,hn20⟩:=h8.fm
 refine z0l Tryz.func37 Tryz.ntmps37 fun Q hQ a he =>?_
 refine Bx he hm fun b22 w hm a he =>?_
 replace hm:=hm.pl 1
 refine z2i Tryz.call43 he hm (fun y24 w hG25 hm a he =>?_) (c:=lookX_ok (R:=[.gs (.slice q4 c.outputs.length cc5) 9 1 (strs c.outputs)]) (K:=.blk b22 (ob [.slice p9 c.datas.length c10,.slice p13 c.inputs.length c14,.slice p17 c.funs.length c18,.slice q4 c.outputs.length cc5] 27)::K) rpc Thaw.own G hm)
 obtain ⟨Ψ26,p27⟩:=y24
 obtain ⟨le28,hT29⟩:=hG25
 simp only at le28 hT29 hm he
 rw [if_pos h0,h0] at he
 obtain ⟨hT30,hlong31⟩:=hT29 h0
 replace G:=G.mono le28
 replace hm:=hm.nf
 refine Qq he hm (fun a he =>?_) (o:=by exact fun _ _ _ he hs=>y_ineq false he rfl rfl rfl)
 refine go he hm fun a he =>?_
 have hm0_:=hm
 clear hm
 obtain ⟨bq35,cap36,arr37,hv_,hq38,hm⟩:=gs_queue (l:=c.outputs) (i:=0) hm0_ rfl hne
 clear hm0_
 have hmk_:=hm
 have hek_:=he
 clear hm he
 rw [hv_] at hek_ hmk_
 have hm:=hmk_
 have he:=hek_
 clear hmk_ hek_
 replace hm:=hm.nf
 refine z2i Tryz.call62 he hm (fun y39 w hG40 hm a he =>?_) (c:=reach_ok (U:=univO c) (hT30).weak hq38 (look_outs6 h0) (fun x hx=>List.mem_append.2 (.inl hx)) (look_callsO h0).2.2 (look_callsO h0).1 (look_callsO h0).2.1 hm)
 obtain ⟨bd41,ds42⟩:=y39
 have hR43:=hG40
 simp only at hR43 hm he
 replace hm:=hm.nf
 refine z2i Tryz.call92 he hm (fun y44 w hG45 hm a he =>?_) (c:=named_ok (hT30).weak (look_nfuns h0) hm)
 replace hm:=hm.nf
 refine go he hm fun a he =>?_
 replace hm:=hm.dl [1]
 refine Ret2 hQ he hm ?_
 exact ⟨(Ψ26,y44,ds42),rfl,⟨le28,hR43⟩,hm⟩
end Go.Sw

namespace Go.Sw
open Go.Proofs
set_option maxRecDepth 100000
theorem rv_leaf {Φ:Fz} {s:Bs} {n:Int} (h:-9223372036854775808≤n∧n≤9223372036854775807):RVal Φ [.string s,.int .i64 n,.slice none 0 0] (.mk s n []):=RVal.iff.2 ⟨_,rfl,h,SliceOf.nil 3⟩
theorem rv_node {Φ:Fz} {s:Bs} {n:Int} {v:Value} {l:List Val} (h:-9223372036854775808≤n∧n≤9223372036854775807) (hl:SliceOf RVal Φ 3 v l):RVal Φ [.string s,.int .i64 n,v] (.mk s n l):=RVal.iff.2 ⟨v,rfl,h,hl⟩
theorem two_vals {Φ:Fz} {c1 c2:List Value} {x y:Val} (h1:RVal Φ c1 x) (l1:c1.length=3) (h2:RVal Φ c2 y) (l2:c2.length=3):Chunks (RVal Φ) 3 (c1++(c2++[])) [x,y] :=
 ⟨c1,_,rfl,l1,h1,c2,_,rfl,l2,h2,rfl⟩
theorem one_named {Φ:Fz} {c:List Value} {s:Bs} {x:Val} (h:RVal Φ c x) (l:c.length=3):Chunks (RNamed Φ) 4 ((.string s::c)++[]) [⟨s,x⟩] :=
 ⟨.string s::c,_,rfl,by simp [l],⟨c,rfl,h⟩,rfl⟩
section
variable {Φ:Fz} {K:List Res} {w:World} {d0:List Value} {va v:Value}
theorem parse_lit (G:Glob Φ) (hm:Mem Φ K w) :
  Calls Tryz.prog 25 (List.toArray [.string textB]) w (fun ee w'=>∃y:Fz×List Value×Value,ee=.returned (.tuple (List.toArray [.agg y.2.1.toArray,.int .i64 ((0:Nat):Int),.int .i64 ((0:Nat):Int)]))∧(Φ.Le y.1∧RCoreX y.1 y.2.1 saneC y.2.2)∧Mem y.1 (.gs y.2.2 9 1 (strs saneC.outputs)::K) w'):=by
 have h1:=parse_ok G asc_sane hm
 rw [parse_sane] at h1
 refine h1.mono fun ee w' h =>?_
 obtain ⟨⟨Ψ,v0,v1,v2,v3⟩,h1,⟨h2,h3,h4,h5⟩,h6⟩:=h
 obtain ⟨p,m,c,rfl,hl,_⟩:=h6.toSees.gsForm (i:=0) rfl
 have hm':m=saneC.outputs.length:=by simpa [strs] using hl.symm
 subst hm'
 exact ⟨(Ψ,[v0,v1,v2,.slice p saneC.outputs.length c],.slice p saneC.outputs.length c),h1,⟨h2,⟨v0,v1,v2,p,c,rfl,rfl,h3,h4,h5⟩⟩,h6⟩
theorem run_lit17 (rpc:RCore Φ d0 saneC) (rl:SliceOf RNamed Φ 4 va saneIn) (G:Glob Φ) (hm:Mem Φ K w) :
  Calls Tryz.prog 15 (List.toArray [.agg d0.toArray,va,.int .i64 ((17:Nat):Int)]) w (fun ee w'=>∃y:Fz×Addr×Nat×Value,ee=.returned (.tuple (List.toArray [.agg (List.toArray [.slice (some y.2.1) 1 y.2.2.1,.int .i64 ((17:Nat):Int)]),.int .i64 ((0:Nat):Int)])) ∧
   (Φ.Le y.1∧NewRow Φ (.slice (some y.2.1) 1 y.2.2.1)∧At y.1 (y.2.1.add (0 * 4)) [.string z8w,.string sNo,.int .i64 ((7:Nat):Int),y.2.2.2])∧Mem y.1 K w'):=by
 refine (runAllN_ok (fuel:=17) rpc rl G hm).mono fun ee w' h =>?_
 rw [run_sane17] at h
 obtain ⟨⟨Ψ,d⟩,h1,⟨h2,h3,h4⟩,h5⟩:=h
 obtain ⟨s,rfl,hs⟩:=h3
 obtain ⟨cs,hr,hc⟩:=hs
 obtain ⟨c1,rest,rfl,hl1,⟨b,rfl,hb⟩,rfl⟩:=hc
 obtain ⟨s2,rfl,_,_⟩:=RVal.iff.1 hb
 rcases hr with ⟨_,he⟩ | ⟨q,m,c,rfl,hl,_,hat⟩
 ·cases he
 ·have hm1:m=1:=by simp at hl;omega
  subst hm1
  exact ⟨(Ψ,q,c,s2),h1,⟨h2,h4 _ _ rfl,hat (by simp)⟩,h5⟩
theorem run_lit16 (rpc:RCore Φ d0 saneC) (rl:SliceOf RNamed Φ 4 va saneIn) (G:Glob Φ) (hm:Mem Φ K w) :
  Calls Tryz.prog 15 (List.toArray [.agg d0.toArray,va,.int .i64 ((16:Nat):Int)]) w (fun ee w'=>∃y:Fz×Option Addr×Nat,ee=.returned (.tuple (List.toArray [.agg (List.toArray [.slice y.2.1 0 y.2.2,.int .i64 ((0:Nat):Int)]),.int .i64 ((4:Nat):Int)]))∧Φ.Le y.1∧Mem y.1 K w'):=by
 refine (runAll_ok (fuel:=16) rpc rl G hm).mono fun ee w' h =>?_
 rw [run_sane16] at h
 obtain ⟨⟨Ψ,d⟩,h1,⟨h2,h3⟩,h5⟩:=h
 obtain ⟨s,rfl,hs⟩:=h3
 obtain ⟨p,c,rfl,_⟩:=hs.form (by decide)
 exact ⟨(Ψ,p,c),h1,h2,h5⟩
theorem print_lit (rpc:RCore Φ d0 saneC) (G:Glob Φ) (T_:Tabs Φ) (hm:Mem Φ K w) :
  Calls Tryz.prog 23 (List.toArray [.agg d0.toArray]) w (fun ee w'=>ee=.returned (.tuple (List.toArray [.string textB,.int .i64 ((0:Nat):Int)]))∧Mem Φ K w'):=by
 refine (print_ok rpc G T_ hm).mono fun ee w' h =>?_
 rw [print_sane] at h
 exact h
theorem call_lit (rpc:RCore Φ d0 saneC) (rl:SliceOf RVal Φ 3 va saneA) (G:Glob Φ) (hm:Mem Φ K w) :
  Calls Tryz.prog 20 (List.toArray [.agg d0.toArray,.string y0g,va,.int .i64 ((9:Nat):Int)]) w (fun ee w'=>∃y:Fz×Option Addr×Nat,ee=.returned (.tuple (List.toArray [.agg (List.toArray [.string sNo,.int .i64 ((1:Nat):Int),.slice y.2.1 0 y.2.2]),.int .i64 ((6:Nat):Int),.int .i64 ((0:Nat):Int)]))∧Φ.Le y.1∧Mem y.1 K w'):=by
 refine (callAll_ok (fuel:=9) rpc rl (fun h=>call_safe h _ _) G hm).mono fun ee w' h =>?_
 rw [call_sane] at h
 obtain ⟨⟨Ψ,d⟩,h1,⟨h2,h3⟩,h5⟩:=h
 obtain ⟨s,rfl,_,hs⟩:=RVal.iff.1 h3
 obtain ⟨p,c,rfl,_⟩:=hs.form (by decide)
 exact ⟨(Ψ,p,c),h1,h2,h5⟩
theorem reach_lit (rpc:RCoreX Φ d0 saneC v) (G:Glob Φ) (hm:Mem Φ (.gs v 9 1 (strs saneC.outputs)::K) w) :
  Calls Tryz.prog 37 (List.toArray [.agg d0.toArray]) w (fun ee w'=>∃y:Fz×Value,ee=.returned (.tuple (List.toArray [y.2,.int .i64 ((0:Nat):Int)]))∧Φ.Le y.1∧Mem y.1 (.gs y.2 9 1 (strs [z_sum,z8w])::K) w'):=by
 refine (reachableO_ok rpc look_sane (by simp [saneC]) G hm).mono fun ee w' h =>?_
 obtain ⟨⟨Ψ,v',ds⟩,h1,⟨h2,h3⟩,h5⟩:=h
 rw [named_sane h3] at h5
 exact ⟨(Ψ,v'),h1,h2,h5⟩
theorem isType_lit {u0 u1 u2 u3:Value} (rpc:RCoreX Φ [u0,u1,u2,u3] saneC v) (hm:Mem Φ K w) :
  Calls Tryz.prog 58 (List.toArray [.agg (List.toArray [u0,u1,u2,u3]),.string z_List]) w (fun ee w'=>ee=.returned (.bool true)∧Mem Φ K w'):=by
 obtain ⟨s,t,u,q,c,_,e,h1,_,_⟩:=rpc
 injection e with e1 _
 subst e1
 refine (isInputType_ok h1 hm).mono fun ee w' h =>?_
 rw [isType_sane] at h
 exact h
theorem noType_lit {u0 u1 u2 u3:Value} (rpc:RCoreX Φ [u0,u1,u2,u3] saneC v) (hm:Mem Φ K w) :
  Calls Tryz.prog 58 (List.toArray [.agg (List.toArray [u0,u1,u2,u3]),.string sBool]) w (fun ee w'=>ee=.returned (.bool false)∧Mem Φ K w'):=by
 obtain ⟨s,t,u,q,c,_,e,h1,_,_⟩:=rpc
 injection e with e1 _
 subst e1
 refine (isInputType_ok h1 hm).mono fun ee w' h =>?_
 rw [noType_sane] at h
 exact h
end
end Go.Sw

namespace Go.Sw
open Go.Proofs.Tryz
open Go.Proofs
set_option maxRecDepth 20000
set_option maxHeartbeats 4000000
theorem sane_ok {Φ:Fz} {K:List Res} {w:World} (G:Glob Φ) (T_:Tabs Φ) (hm:Mem Φ K w) :
  Calls Tryz.prog 18 (List.toArray []) w (fun ee w'=>ee=.returned (.bool true)∧Mem Φ K w'):=by
 refine z0l func18 ntmps18 fun Q hQ a he =>?_
 refine z0y call57 he hm (fun w hm a he =>?_) (c:=text_ok hm)
 refine z2i call25 he hm (fun y3 w hG4 hm a he =>?_) (c:=parse_lit G hm)
 obtain ⟨Ψ5,d6,v7⟩:=y3
 obtain ⟨le8,hX9⟩:=hG4
 simp only at le8 hX9 hm he
 replace G:=G.mono le8
 replace T_:=Tabs.mono T_ le8
 obtain ⟨s10,s11,s12,q13,cc14,rfl,rfl,h15,h16,h17⟩:=id hX9
 obtain ⟨p18,c19,rfl,hm20,hn21⟩:=h15.fm
 obtain ⟨p22,c23,rfl,hm24,hn25⟩:=h16.fm
 obtain ⟨p26,c27,rfl,hm28,hn29⟩:=h17.fm
 replace hm:=hm.nf
 refine Alc he hm fun b30 w hm a he =>?_
 refine Sto 0 he hm fun w hm a he =>?_
 refine z1h he hm fun a he =>?_
 refine Alc he hm fun b32 w hm a he =>?_
 refine Sto 0 he hm fun w hm a he =>?_
 refine z1h he hm fun a he =>?_
 refine z1h he hm fun a he =>?_
 refine BldS he hm fun v34 w hm a he =>?_
 have hm0_:=hm
 clear hm
 obtain ⟨Ψ35,le36,hm,hrow37⟩:=hm0_.freezeRow (i:=0) rfl
 clear hm0_
 replace G:=G.mono le36
 replace T_:=Tabs.mono T_ le36
 replace hX9:=hX9.mono le36
 replace hm:=hm.nf
 have hsl38:SliceOf RVal Ψ35 3 _ ([(Val.mk sNo 4 []),(Val.mk z_Nil 0 [])]):=⟨_,hrow37,(show Chunks (RVal _) 3 ([.string ⟨#[]⟩,.int .i64 ((4:Nat):Int),.slice none 0 0]++([.string ⟨#[78,105,108]⟩,.int .i64 ((0:Nat):Int),.slice none 0 0]++[])) [(Val.mk sNo 4 []),(Val.mk z_Nil 0 [])] from two_vals (rv_leaf (by decide)) rfl (rv_leaf (by decide)) rfl)⟩
 obtain ⟨p39,c40,hv_,hm41,hn42⟩:=hsl38.form (by decide)
 have hmk_:=hm
 clear hm
 subst hv_
 have hm:=hmk_
 clear hmk_
 refine z1h he hm fun a he =>?_
 refine BldS he hm fun v43 w hm a he =>?_
 have hm0_:=hm
 clear hm
 obtain ⟨Ψ44,le45,hm,hrow46⟩:=hm0_.freezeRow (i:=0) rfl
 clear hm0_
 replace G:=G.mono le45
 replace T_:=Tabs.mono T_ le45
 replace hX9:=hX9.mono le45
 replace hsl38:=hsl38.up le45
 replace hm:=hm.nf
 have hsl47:SliceOf RVal Ψ44 3 _ ([(Val.mk sNo 3 []),(Val.mk z_Cons 0 [(Val.mk sNo 4 []),(Val.mk z_Nil 0 [])])]):=⟨_,hrow46,(show Chunks (RVal _) 3 ([.string ⟨#[]⟩,.int .i64 ((3:Nat):Int),.slice none 0 0]++([.string ⟨#[67,111,110,115]⟩,.int .i64 ((0:Nat):Int),.slice p39 ([(Val.mk sNo 4 []),(Val.mk z_Nil 0 [])]).length c40]++[])) [(Val.mk sNo 3 []),(Val.mk z_Cons 0 [(Val.mk sNo 4 []),(Val.mk z_Nil 0 [])])] from two_vals (rv_leaf (by decide)) rfl (rv_node (by decide) hsl38) rfl)⟩
 obtain ⟨p48,c49,hv_,hm50,hn51⟩:=hsl47.form (by decide)
 have hmk_:=hm
 clear hm
 subst hv_
 have hm:=hmk_
 clear hmk_
 refine z1h he hm fun a he =>?_
 refine BldT he hm fun a he =>?_
 refine BldS he hm fun v52 w hm a he =>?_
 have hm0_:=hm
 clear hm
 obtain ⟨Ψ53,le54,hm,hrow55⟩:=hm0_.freezeRow (i:=0) rfl
 clear hm0_
 replace G:=G.mono le54
 replace T_:=Tabs.mono T_ le54
 replace hX9:=hX9.mono le54
 replace hsl47:=hsl47.up le54
 replace hm:=hm.nf
 have hsl56:SliceOf RNamed Ψ53 4 _ (saneIn):=⟨_,hrow55,(show Chunks (RNamed _) 4 ([.string ⟨#[120,115]⟩,.string ⟨#[67,111,110,115]⟩,.int .i64 ((0:Nat):Int),.slice p48 ([(Val.mk sNo 3 []),(Val.mk z_Cons 0 [(Val.mk sNo 4 []),(Val.mk z_Nil 0 [])])]).length c49]++[]) [⟨z_xs,(Val.mk z_Cons 0 [(Val.mk sNo 3 []),(Val.mk z_Cons 0 [(Val.mk sNo 4 []),(Val.mk z_Nil 0 [])])])⟩] from one_named (rv_node (by decide) hsl47) rfl)⟩
 obtain ⟨p57,c58,hv_,hm59,hn60⟩:=hsl56.form (by decide)
 have hmk_:=hm
 clear hm
 subst hv_
 have hm:=hmk_
 clear hmk_
 refine go he hm fun a he =>?_
 have hX0:=hX9
 have G0:=G
 obtain ⟨Ψ62,bf63,hm2_,hrow64,hfr65⟩:=hm.freezeRowD (i:=2) rfl (by simp [saneC,strs])
 have hm:=hm2_
 clear hm2_
 replace G:=G.mono hfr65.le
 replace T_:=Tabs.mono T_ hfr65.le
 replace hX9:=hX9.mono hfr65.le
 replace hsl56:=hsl56.mono RNamed.mono hfr65.le
 replace hm:=hm.nf
 have rpcF:=hX9.full (SliceOf.strs.2 hrow64)
 refine z2i call15 he hm (fun y66 w hG67 hm a he =>?_) (c:=run_lit17 rpcF hsl56 G hm)
 obtain ⟨Ψ68,p69,c70,s71⟩:=y66
 obtain ⟨le72,hnw73,hat74⟩:=hG67
 simp only at le72 hnw73 hat74 hm he
 have hne_:=hfr65.ne (Fz.Le.refl _) hnw73 rfl
 replace G:=G.mono le72
 replace T_:=Tabs.mono T_ le72
 replace hsl56:=hsl56.up le72
 replace rpcF:=RCore.mono _ _ _ _ le72 rpcF
 replace hm:=hm.nf
 refine Alc he hm fun b75 w hm a he =>?_
 refine Sto 0 he hm fun w hm a he =>?_
 refine z2i call15 he hm (fun y77 w hG78 hm a he =>?_) (c:=run_lit16 rpcF hsl56 G hm)
 obtain ⟨Ψ79,p80,c81⟩:=y77
 have le82:=hG78
 simp only at le82 hm he
 replace G:=G.mono le82
 replace T_:=Tabs.mono T_ le82
 replace rpcF:=RCore.mono _ _ _ _ le82 rpcF
 replace hat74:=hat74.mono le82
 replace hm:=hm.nf
 refine Alc he hm fun b83 w hm a he =>?_
 refine Sto 0 he hm fun w hm a he =>?_
 refine z0y call23 he hm (fun w hm a he =>?_) (c:=print_lit rpcF G T_ hm)
 refine z1h he hm fun a he =>?_
 refine z1h he hm fun a he =>?_
 refine BldS he hm fun v86 w hm a he =>?_
 have hm0_:=hm
 clear hm
 obtain ⟨Ψ87,le88,hm,hrow89⟩:=hm0_.freezeRow (i:=0) rfl
 clear hm0_
 replace G:=G.mono le88
 replace T_:=Tabs.mono T_ le88
 replace rpcF:=RCore.mono _ _ _ _ le88 rpcF
 replace hat74:=hat74.mono le88
 replace hm:=hm.nf
 have hsl90:SliceOf RVal Ψ87 3 _ (saneA):=⟨_,hrow89,(show Chunks (RVal _) 3 ([.string ⟨#[]⟩,.int .i64 ((2:Nat):Int),.slice none 0 0]++([.string ⟨#[]⟩,.int .i64 ((3:Nat):Int),.slice none 0 0]++[])) [(Val.mk sNo 2 []),(Val.mk sNo 3 [])] from two_vals (rv_leaf (by decide)) rfl (rv_leaf (by decide)) rfl)⟩
 obtain ⟨p91,c92,hv_,hm93,hn94⟩:=hsl90.form (by decide)
 have hmk_:=hm
 clear hm
 subst hv_
 have hm:=hmk_
 clear hmk_
 refine z2i call20 he hm (fun y95 w hG96 hm a he =>?_) (c:=call_lit rpcF hsl90 G hm)
 obtain ⟨Ψ97,p98,c99⟩:=y95
 have le100:=hG96
 simp only at le100 hm he
 replace G:=G.mono le100
 replace T_:=Tabs.mono T_ le100
 replace rpcF:=RCore.mono _ _ _ _ le100 rpcF
 replace hat74:=hat74.mono le100
 replace hm:=hm.nf
 refine Alc he hm fun b101 w hm a he =>?_
 refine Sto 0 he hm fun w hm a he =>?_
 refine go he hm fun a he =>?_
 obtain ⟨hle_,hm2_⟩:=hfr65.back _ _ _ ((((le72).trans le82).trans le88).trans le100) hm
 have hm:=hm2_
 clear hm2_
 have hX_:=hX0.mono hle_
 have GZ:=G0.mono hle_
 have hatZ:=hat74.del (b:=bf63) hne_
 replace hm:=hm.nf
 refine z2i call37 he hm (fun y104 w hG105 hm a he =>?_) (c:=reach_lit hX_ GZ hm)
 obtain ⟨Ψ106,v107⟩:=y104
 have le108:=hG105
 simp only at le108 hm he
 replace hX_:=hX_.mono le108
 replace hatZ:=hatZ.mono le108
 replace hm:=hm.nf
 refine Qq he hm (fun a he =>?_) (o:=by exact fun _ _ _ he hs=>z4t true he rfl rfl rfl)
 refine Qq he hm (fun a he =>?_) (o:=by exact fun _ _ _ he hs=>z4t true he rfl rfl rfl)
 refine Qq he hm (fun a he =>?_) (o:=by exact fun _ _ _ he hs=>z4t true he rfl rfl rfl)
 refine Qq he hm (fun a he =>?_) (o:=by exact fun _ _ _ he hs=>z4t true he rfl rfl rfl)
 refine Qq he hm (fun a he =>?_) (o:=by exact fun _ _ _ he hs=>z4t true he rfl rfl rfl)
 refine Qq he hm (fun a he =>?_) (o:=by exact fun _ _ _ he hs=>z4t true he rfl rfl rfl)
 refine Qq he hm (fun a he =>?_) (o:=by exact fun _ _ _ he hs=>z4t true he rfl rfl rfl)
 refine Qq he hm (fun a he =>?_) (o:=by exact fun _ _ _ he hs=>z4t true he rfl rfl rfl)
 refine Qq he hm (fun a he =>?_) (o:=by exact fun _ _ _ he hs=>y_indexAddr 0 he rfl rfl runUnderlying28 sizeOf62 (by decide))
 refine Qq he hm (fun a he =>?_) (o:=by exact fun _ _ _ he hs=>z4t true he rfl rfl rfl)
 refine Qq he hm (fun a he =>?_) (o:=by exact fun _ _ _ he hs=>z4t true he rfl rfl rfl)
 refine z0y call57 he hm (fun w hm a he =>?_) (c:=text_ok hm)
 refine Qq he hm (fun a he =>?_) (o:=by exact fun _ _ _ he hs=>y_seql true he rfl rfl (decide_eq_true rfl))
 refine Qq he hm (fun a he =>?_) (o:=by exact fun _ _ _ he hs=>z4t true he rfl rfl rfl)
 refine Qq he hm (fun a he =>?_) (o:=by exact fun _ _ _ he hs=>z4t true he rfl rfl rfl)
 refine Qq he hm (fun a he =>?_) (o:=by exact fun _ _ _ he hs=>y_len_gs 0 (2) he hs rfl rfl (rfl) (by decide) runUnderlying25)
 refine Qq he hm (fun a he =>?_) (o:=by exact fun _ _ _ he hs=>z4t true he rfl rfl rfl)
 refine z0y call58 he hm (fun w hm a he =>?_) (c:=isType_lit hX_ hm)
 refine z0y call58 he hm (fun w hm a he =>?_) (c:=noType_lit hX_ hm)
 refine go he hm fun a he =>?_
 replace hm:=hm.le ((((((le8).trans le36).trans le45).trans le54).trans hle_).trans le108)
 replace hm:=hm.dl [5,4,3,2,1,0]
 refine Ret1 hQ he hm ?_
 exact ⟨by rfl,hm⟩
end Go.Sw

namespace Go.Sw
open Go.Proofs
section
variable {P:Program} {n:Nat} {E:List (Nat×Value)} {D:List Deferred} {a:Act} {w:World} {ty:TypeId}
end
mutual
theorem sameV_refl:∀v:Val,sameV v v=true
 | .mk c n l=>by simp only [sameV,Val.con,Val.num,Val.args,decide_true,Bool.true_and];exact sameVs_refl l
theorem sameVs_refl:∀l:List Val,sameVs l l=true
 | []=>by simp only [sameVs]
 | x::xs=>by rw [sameVs_cons,sameV_refl x,sameVs_refl xs];rfl
end
theorem sameNs_refl:∀l:List Named,sameNs l l=true
 | []=>rfl
 | x::xs=>by rw [sameNs_cons,sameV_refl,sameNs_refl xs];simp
theorem sameO_refl (o:Outcome):sameO o o=true:=by simp [sameO,sameNs_refl]
theorem sameOT_ok {Φ:Fz} {K:List Res} {w:World} {d0 d1:List Value} {v u:Outcome} (rpv:ROutcome Φ d0 v) (rpu:ROutcome Φ d1 u) (h:v=u) (hm:Mem Φ K w) :
  Calls Tryz.prog 19 (List.toArray [.agg d0.toArray,.agg d1.toArray]) w (fun ee w'=>ee=.returned (.bool true)∧Mem Φ K w'):=by
 subst h
 refine (sameOutcome_ok rpv rpu hm).mono fun ee w' h =>?_
 rw [sameO_refl] at h
 exact h
end Go.Sw

namespace Go.Sw
open Go.Proofs.Tryz
open Go.Proofs
set_option maxRecDepth 20000
set_option maxHeartbeats 4000000
variable {Φ:Fz} {K:List Res} {w:World}
theorem rbinders_step {l:List Bs} {v:Value} {d1:List Value} {e:Ex} (rpe:REx Φ d1 e) (hb:l.length+(z0n e).length≤8796093000000) (ih:∀x:Ex,x.sz < e.sz→∀{Φ:Fz} {K:List Res} {w:World} {d:List Value} {v:Value} {l:List Bs},l.length+(z0n x).length≤8796093000000→REx Φ d x→Mem Φ (.gs v 9 1 (strs l)::K) w→Calls Tryz.prog 147 (List.toArray [v,.agg d.toArray]) w (fun ee w'=>∃v,ee=.returned v∧Mem Φ (.gs v 9 1 (strs (l++z0n x))::K) w')) (hm:Mem Φ (.gs v 9 1 (strs l)::K) w) :
  Calls Tryz.prog 147 (List.toArray [v,.agg d1.toArray]) w (fun ee w'=>∃v,ee=.returned v∧Mem Φ (.gs v 9 1 (strs (l++z0n e))::K) w'):=by
 obtain ⟨p3,c4,p9,c10,rfl,hi13,h2,h8,hm5,hn6,hm11,hn12⟩:=REx.fm rpe
 refine z0l func147 ntmps147 fun Q hQ a he =>?_
 refine Bx he hm fun b15 w hm a he =>?_
 refine go he hm fun a he =>?_
 by_cases h18:e.kind=6
 refine BldS he hm fun v19 w hm a he =>?_
 refine App_ 2 z9k he hm (fun v20 w hm a he =>?_) (hb:=by simp [z1m];omega)
 first | rw [z2u] at hm | rw [← z1l] at hm
 refine go he hm fun a he =>?_
 refine z8x (fun mm a w=>∃(i:Nat) (u:Value) (m:List Bs),mm=e.args.length - i∧EnvR 53 [(0,u),(3,.pointer (some ⟨b15,0,none⟩)),(5,.int .i64 ((i:Nat):Int))] [] a∧Mem Φ (.gs (v19) 9 1 [.string e.name]::.blk b15 (ob [.int .i64 (e.kind),.int .i64 (e.num),.string e.name,.slice p3 e.args.length c4,.slice p9 e.arms.length c10] 66)::.gs (u) 9 1 (strs m)::K) w∧(l++z0n e=m++bindPs (e.args.drop i)++bindPa e.arms)) (e.args.length - 0) ⟨0,v20,(l++[e.name]),rfl,he.pk,hm,by rw [z6u];simp [*]⟩ ?_
 clear hm he
 rintro mm a w ⟨i,u,m,hmu,he,hm,hI24⟩ L23 hL23
 refine go he hm fun a he =>?_
 by_cases h27:i < e.args.length
 refine go he hm fun a he =>?_
 obtain ⟨q29,rfl,x30,hx31,cs32,hl33,ha34,hr35⟩:=h2.el hn6 h27
 obtain ⟨p38,c39,p44,c45,rfl,hi48,h37,h43,hm40,hn41,hm46,hn47⟩:=REx.fm hr35
 refine go he hm fun a he =>?_
 replace hm:=hm.pl 2
 refine st he rfl rfl rfl (z4d he rfl call147 (ih _ (by first | exact Ex.lt_args (List.mem_of_getElem? hx31) | exact Ex.lt_arms (List.mem_of_getElem? hx31)) (l:=m) (by have hq:=congrArg List.length hI24;rw [z0a hx31] at hq;simp only [bindPs,z1j,List.length_append] at hq hb ⊢;omega) hr35 hm) fun v49 w hm a he =>?_)
 replace hm:=hm.nf
 refine go he hm fun a he =>?_
 replace hm:=hm.ar [] [2,2]
 refine hL23 _ _ _ (by subst hmu;omega) ⟨(i+1),(v49),((m++z0n x30)),rfl,he.pk,hm,?_⟩
 rw [hI24,z0a hx31];simp [bindPs]
 refine go he hm fun a he =>?_
 refine z8x (fun mm a w=>∃(j:Nat) (u2:Value) (m2:List Bs),mm=e.arms.length - j∧EnvR 53 [(0,u2),(3,.pointer (some ⟨b15,0,none⟩)),(6,.int .i64 ((j:Nat):Int))] [] a∧Mem Φ (.gs (v19) 9 1 [.string e.name]::.blk b15 (ob [.int .i64 (e.kind),.int .i64 (e.num),.string e.name,.slice p3 e.args.length c4,.slice p9 e.arms.length c10] 66)::.gs (u2) 9 1 (strs m2)::K) w∧(l++z0n e=m2++bindPa (e.arms.drop j))) (e.arms.length - 0) ⟨0,u,m,rfl,he.pk,hm,by rw [hI24,z0g h27];simp [bindPs]⟩ ?_
 clear hm he
 rintro mm a w ⟨j,u2,m2,hmu,he,hm,hI53⟩ L52 hL52
 refine go he hm fun a he =>?_
 by_cases h56:j < e.arms.length
 refine go he hm fun a he =>?_
 obtain ⟨q59,rfl,x60,hx61,cs62,hl63,ha64,hr65⟩:=h8.el hn12 h56
 obtain ⟨s66,b72,rfl,h67,h73⟩:=RArm.iff.1 hr65
 obtain ⟨p68,c69,rfl,hm70,hn71⟩:=h67.fm
 obtain ⟨p76,c77,p82,c83,rfl,hi86,h75,h81,hm78,hn79,hm84,hn85⟩:=REx.fm h73
 refine App_ 2 z9k he hm (fun v87 w hm a he =>?_) (hr:=(SliceOf.strs.1 h67).rowIn hm.toSees) (h1:=z7t _) (hb:=by have hq:=congrArg List.length hI53;rw [z0a hx61,z1j] at hq;simp only [List.length_append,z1m] at hq hb ⊢;omega)
 first | rw [z2u] at hm | rw [← z1l] at hm
 refine go he hm fun a he =>?_
 obtain ⟨x88,hx89⟩:=z2d h56
 obtain ⟨cs90,hl91,ha92,hr93⟩:=h8.elem hx89
 obtain ⟨s94,b100,rfl,h95,h101⟩:=RArm.iff.1 hr93
 obtain ⟨p96,c97,rfl,hm98,hn99⟩:=h95.fm
 obtain ⟨p104,c105,p110,c111,rfl,hi114,h103,h109,hm106,hn107,hm112,hn113⟩:=REx.fm h101
 refine Qq he hm (fun a he =>?_) (o:=by exact fun _ _ _ he hs=>z7z 2 (vs:=[.int .i64 (x88.body.kind),.int .i64 (x88.body.num),.string x88.body.name,.slice p104 x88.body.args.length c105,.slice p110 x88.body.arms.length c111]) he hs rfl ha92 isAgg66 sizeOf66 rfl rfl)
 replace hm:Mem Φ (.gs (v19) 9 1 [.string e.name]::.blk b15 (ob [.int .i64 (e.kind),.int .i64 (e.num),.string e.name,.slice p3 e.args.length c4,.slice (some q59) e.arms.length c10] 66)::.gs (v87) 9 1 (strs (m2++x88.vars))::K) w:=by rw [show x88=x60 from Option.some.inj (hx89.symm.trans hx61)];exact hm
 replace hm:=hm.pl 2
 refine st he rfl rfl rfl (z4d he rfl call147 (ih _ (by first | exact Ex.lt_args (List.mem_of_getElem? hx89) | exact Ex.lt_arms (List.mem_of_getElem? hx89)) (l:=m2++x88.vars) (by have hq:=congrArg List.length hI53;rw [z0a hx89] at hq;simp only [bindPs,z1j,List.length_append] at hq hb ⊢;omega) h101 hm) fun v115 w hm a he =>?_)
 replace hm:=hm.nf
 refine go he hm fun a he =>?_
 replace hm:=hm.ar [] [2,2]
 refine hL52 _ _ _ (by subst hmu;omega) ⟨(j+1),(v115),((m2++x88.vars++z0n x88.body)),rfl,he.pk,hm,?_⟩
 rw [hI53,z0a hx89,z1j];simp
 refine go he hm fun a he =>?_
 replace hm:=hm.dl [1,0]
 refine Ret1 hQ he hm ?_
 refine ⟨_,rfl,?_⟩
 rw [show (strs (l++z0n e))=(strs m2) by rw [hI53,z0g h56];simp [bindPa]];exact hm
 refine go he hm fun a he =>?_
 refine z8x (fun mm a w=>∃(i:Nat) (u:Value) (m:List Bs),mm=e.args.length - i∧EnvR 53 [(0,u),(3,.pointer (some ⟨b15,0,none⟩)),(5,.int .i64 ((i:Nat):Int))] [] a∧Mem Φ (.blk b15 (ob [.int .i64 (e.kind),.int .i64 (e.num),.string e.name,.slice p3 e.args.length c4,.slice p9 e.arms.length c10] 66)::.gs (u) 9 1 (strs m)::K) w∧(l++z0n e=m++bindPs (e.args.drop i)++bindPa e.arms)) (e.args.length - 0) ⟨0,v,l,rfl,he.pk,hm,by rw [z6u];simp [*]⟩ ?_
 clear hm he
 rintro mm a w ⟨i,u,m,hmu,he,hm,hI120⟩ L119 hL119
 refine go he hm fun a he =>?_
 by_cases h123:i < e.args.length
 refine go he hm fun a he =>?_
 obtain ⟨q125,rfl,x126,hx127,cs128,hl129,ha130,hr131⟩:=h2.el hn6 h123
 obtain ⟨p134,c135,p140,c141,rfl,hi144,h133,h139,hm136,hn137,hm142,hn143⟩:=REx.fm hr131
 refine go he hm fun a he =>?_
 replace hm:=hm.pl 1
 refine st he rfl rfl rfl (z4d he rfl call147 (ih _ (by first | exact Ex.lt_args (List.mem_of_getElem? hx127) | exact Ex.lt_arms (List.mem_of_getElem? hx127)) (l:=m) (by have hq:=congrArg List.length hI120;rw [z0a hx127] at hq;simp only [bindPs,z1j,List.length_append] at hq hb ⊢;omega) hr131 hm) fun v145 w hm a he =>?_)
 replace hm:=hm.nf
 refine go he hm fun a he =>?_
 replace hm:=hm.pl 1
 refine hL119 _ _ _ (by subst hmu;omega) ⟨(i+1),(v145),((m++z0n x126)),rfl,he.pk,hm,?_⟩
 rw [hI120,z0a hx127];simp [bindPs]
 refine go he hm fun a he =>?_
 refine z8x (fun mm a w=>∃(j:Nat) (u2:Value) (m2:List Bs),mm=e.arms.length - j∧EnvR 53 [(0,u2),(3,.pointer (some ⟨b15,0,none⟩)),(6,.int .i64 ((j:Nat):Int))] [] a∧Mem Φ (.blk b15 (ob [.int .i64 (e.kind),.int .i64 (e.num),.string e.name,.slice p3 e.args.length c4,.slice p9 e.arms.length c10] 66)::.gs (u2) 9 1 (strs m2)::K) w∧(l++z0n e=m2++bindPa (e.arms.drop j))) (e.arms.length - 0) ⟨0,u,m,rfl,he.pk,hm,by rw [hI120,z0g h123];simp [bindPs]⟩ ?_
 clear hm he
 rintro mm a w ⟨j,u2,m2,hmu,he,hm,hI149⟩ L148 hL148
 refine go he hm fun a he =>?_
 by_cases h152:j < e.arms.length
 refine go he hm fun a he =>?_
 obtain ⟨q155,rfl,x156,hx157,cs158,hl159,ha160,hr161⟩:=h8.el hn12 h152
 obtain ⟨s162,b168,rfl,h163,h169⟩:=RArm.iff.1 hr161
 obtain ⟨p164,c165,rfl,hm166,hn167⟩:=h163.fm
 obtain ⟨p172,c173,p178,c179,rfl,hi182,h171,h177,hm174,hn175,hm180,hn181⟩:=REx.fm h169
 refine App_ 1 z9k he hm (fun v183 w hm a he =>?_) (hr:=(SliceOf.strs.1 h163).rowIn hm.toSees) (h1:=z7t _) (hb:=by have hq:=congrArg List.length hI149;rw [z0a hx157,z1j] at hq;simp only [List.length_append,z1m] at hq hb ⊢;omega)
 first | rw [z2u] at hm | rw [← z1l] at hm
 refine go he hm fun a he =>?_
 obtain ⟨x184,hx185⟩:=z2d h152
 obtain ⟨cs186,hl187,ha188,hr189⟩:=h8.elem hx185
 obtain ⟨s190,b196,rfl,h191,h197⟩:=RArm.iff.1 hr189
 obtain ⟨p192,c193,rfl,hm194,hn195⟩:=h191.fm
 obtain ⟨p200,c201,p206,c207,rfl,hi210,h199,h205,hm202,hn203,hm208,hn209⟩:=REx.fm h197
 refine Qq he hm (fun a he =>?_) (o:=by exact fun _ _ _ he hs=>z7z 2 (vs:=[.int .i64 (x184.body.kind),.int .i64 (x184.body.num),.string x184.body.name,.slice p200 x184.body.args.length c201,.slice p206 x184.body.arms.length c207]) he hs rfl ha188 isAgg66 sizeOf66 rfl rfl)
 replace hm:Mem Φ (.blk b15 (ob [.int .i64 (e.kind),.int .i64 (e.num),.string e.name,.slice p3 e.args.length c4,.slice (some q155) e.arms.length c10] 66)::.gs (v183) 9 1 (strs (m2++x184.vars))::K) w:=by rw [show x184=x156 from Option.some.inj (hx185.symm.trans hx157)];exact hm
 replace hm:=hm.pl 1
 refine st he rfl rfl rfl (z4d he rfl call147 (ih _ (by first | exact Ex.lt_args (List.mem_of_getElem? hx185) | exact Ex.lt_arms (List.mem_of_getElem? hx185)) (l:=m2++x184.vars) (by have hq:=congrArg List.length hI149;rw [z0a hx185] at hq;simp only [bindPs,z1j,List.length_append] at hq hb ⊢;omega) h197 hm) fun v211 w hm a he =>?_)
 replace hm:=hm.nf
 refine go he hm fun a he =>?_
 replace hm:=hm.pl 1
 refine hL148 _ _ _ (by subst hmu;omega) ⟨(j+1),(v211),((m2++x184.vars++z0n x184.body)),rfl,he.pk,hm,?_⟩
 rw [hI149,z0a hx185,z1j];simp
 refine go he hm fun a he =>?_
 replace hm:=hm.dl [0]
 refine Ret1 hQ he hm ?_
 refine ⟨_,rfl,?_⟩
 rw [show (strs (l++z0n e))=(strs m2) by rw [hI149,z0g h152];simp [bindPa]];exact hm
theorem rbinders_ok {d:List Value} {e:Ex} {v:Value} {l:List Bs} (hb:l.length+(z0n e).length≤8796093000000) (re:REx Φ d e) (hm:Mem Φ (.gs v 9 1 (strs l)::K) w) :
  Calls Tryz.prog 147 (List.toArray [v,.agg d.toArray]) w (fun ee w'=>∃v,ee=.returned v∧Mem Φ (.gs v 9 1 (strs (l++z0n e))::K) w'):=by
 suffices H:∀n (e:Ex),e.sz < n→∀{Φ:Fz} {K:List Res} {w:World} {d:List Value} {v:Value} {l:List Bs},l.length+(z0n e).length≤8796093000000→REx Φ d e→Mem Φ (.gs v 9 1 (strs l)::K) w→Calls Tryz.prog 147 (List.toArray [v,.agg d.toArray]) w (fun ee w'=>∃v,ee=.returned v∧Mem Φ (.gs v 9 1 (strs (l++z0n e))::K) w') from H _ e (Nat.lt_succ_self _) hb re hm
 intro n
 induction n with
 | zero=>intro e h;omega
 | succ n ih=>intro e h Φ K w d v l hb re hm;exact rbinders_step re hb (fun x hx _ _ _ _ _ _ g0 r m=>ih x (by omega) g0 r m) hm
theorem hasB_ok {v0:Value} {l:List Bs} {s:Bs} (rpl:SliceOf RStr Φ 1 v0 l) (hm:Mem Φ K w) :
  Calls Tryz.prog 87 (List.toArray [v0,.string s]) w (fun ee w'=>ee=.returned (.bool (hasB l s))∧Mem Φ K w'):=by
 obtain ⟨p0,c0,rfl,hm0,hn0⟩:=rpl.fm
 refine z0l func87 ntmps87 fun Q hQ a he =>?_
 refine go he hm fun a he =>?_
 refine z1i (he.ks [0,1]) hm (fun R mm a w=>∃(i:Nat),mm=l.length - i∧R Φ [(5,.int .i64 ((i:Nat):Int))] [] a w∧(hasB l s=hasB (l.drop i) s)) (l.length - 0) ⟨0,rfl,⟨he.pk,hm⟩,rfl⟩ ?_
 clear hm he
 rintro mm a w ⟨i,hmu,⟨he,hm⟩,hI5⟩ L4 hL4
 refine go he hm fun a he =>?_
 by_cases h8:i < l.length
 refine go he hm fun a he =>?_
 obtain ⟨q11,rfl,x12,hx13,cs14,hl15,ha16,hr17⟩:=rpl.el hn0 h8
 obtain rfl:cs14=[.string x12]:=hr17
 refine go he hm fun a he =>?_
 by_cases h18:x12=s
 refine Ret1 hQ he hm ?_
 exact z0v hm (by rw [hI5,z0a hx13,hasB_cons];simp [*])
 refine go he hm fun a he =>?_
 refine hL4 _ _ _ (by subst hmu;omega) ⟨(i+1),rfl,⟨he.pk,hm⟩,?_⟩
 rw [hI5,z0a hx13,hasB_cons];simp [*]
 refine Ret1 hQ he hm ?_
 exact z0v hm (by rw [hI5,z0g h8];rfl)
end Go.Sw

namespace Go.Sw
open Go.Proofs.Tryz
open Go.Proofs
set_option maxRecDepth 20000
set_option maxHeartbeats 4000000
theorem typeOf_ok {Φ:Fz} {K:List Res} {w:World} {d0 d2:List Value} {c:Core} {v1:Value} {ps:List Param} {e:Ex} (rpc:RCore Φ d0 c) (rpps:SliceOf RParam Φ 2 v1 ps) (rpe:REx Φ d2 e) (hps:ps.length≤8796092000000) (G:Glob Φ) (hm:Mem Φ K w) :
  Calls Tryz.prog 33 (List.toArray [.agg d0.toArray,v1,.agg d2.toArray]) w (fun ee w'=>ee=.returned (.tuple (List.toArray [.string (z2c c ps e).1,.int .i64 (z2c c ps e).2]))∧Mem Φ K w'):=by
 obtain ⟨p3,c4,p9,c10,p15,c16,p21,c22,rfl,h2,h8,h14,h20,hm5,hn6,hm11,hn12,hm17,hn18,hm23,hn24⟩:=RCore.fm rpc
 obtain ⟨p1,c1,rfl,hm1,hn1⟩:=rpps.fm
 obtain ⟨p27,c28,p33,c34,rfl,hi37,h26,h32,hm29,hn30,hm35,hn36⟩:=REx.fm rpe
 refine z0l func33 ntmps33 fun Q hQ a he =>?_
 refine Bx he hm fun b39 w hm a he =>?_
 refine Bx he hm fun b40 w hm a he =>?_
 refine z2i call43 he hm (fun y42 w hG43 hm a he =>?_) (c:=look_ok rpc G hm)
 obtain ⟨Ψ44,p45⟩:=y42
 obtain ⟨le46,hT47⟩:=hG43
 simp only at le46 hT47 hm he
 replace rpc:=RCore.mono _ _ _ _ le46 rpc
 replace rpps:=rpps.up le46
 replace rpe:=REx.mono _ _ _ _ le46 rpe
 replace G:=G.mono le46
 replace hm:=hm.nf
 by_cases hlk48:z1g c=0
 obtain ⟨hT49,hlong50⟩:=hT47 hlk48
 rw [if_pos hlk48,hlk48] at he
 refine Qq he hm (fun a he =>?_) (o:=by exact fun _ _ _ he hs=>y_ineq false he rfl rfl rfl)
 refine Alc he hm fun b54 w hm a he =>?_
 refine Sto 0 he hm fun w hm a he =>?_
 refine z1n call82 he hm (fun hB57 w hm a he =>?_) (fun hB57 w hm a he =>?_) (c:=deep_ok (m:=250) (by omega) rpe hm)
 refine go he hm fun a he =>?_
 replace hm:=hm.le (le46)
 replace hm:=hm.dl [2,1,0]
 refine Ret2 hQ he hm ?_
 have hr_:z2c c ps e=_:=typ_deep hlk48 hB57
 rw [hr_]
 exact ⟨rfl,hm⟩
 refine go he hm fun a he =>?_
 have hdp_:=hB57
 refine z1n call83 he hm (fun hB60 w hm a he =>?_) (fun hB60 w hm a he =>?_) (c:=measure_ok (by omega) (by omega) rpe hm)
 refine go he hm fun a he =>?_
 replace hm:=hm.le (le46)
 replace hm:=hm.dl [2,1,0]
 refine Ret2 hQ he hm ?_
 have hr_:z2c c ps e=_:=typ_meas hlk48 hdp_ hB60
 rw [hr_]
 exact ⟨rfl,hm⟩
 refine go he hm fun a he =>?_
 have hms_:=hB60
 refine go he hm fun a he =>?_
 replace hm:=hm.nilRow 9 1
 replace hm:=hm.nf
 refine MkM he hm fun b64 w hm a he =>?_
 refine go he hm fun a he =>?_
 replace hm:=hm.nf
 refine go he hm fun a he =>?_
 refine z1i (he.ks [5,8,12,31,32]) hm (fun R mm a w=>∃(k:Nat) (u:Value) (nl:List Bs) (sc:Scope),mm=ps.length - k∧R Ψ44 [(11,u),(33,.int .i64 ((k:Nat):Int))] [(0,.mp b64 (smap sc)),(1,.gs (u) 9 1 (strs nl))] a w∧(ps.all (fun p=>z2b (z0f c) p.type)=(ps.drop k).all (fun p=>z2b (z0f c) p.type)∧ps.map Param.name=nl++(ps.drop k).map Param.name∧z3q ps=(ps.drop k).foldl (fun s p=>lput s p.name p.type) sc)) (ps.length - 0) ⟨0,.slice none 0 0,[],[],rfl,⟨he.pk,hm⟩,⟨rfl,rfl,rfl⟩⟩ ?_
 clear hm he
 rintro mm a w ⟨k,u,nl,sc,hmu,⟨he,hm⟩,hI68⟩ L67 hL67
 replace hm:=hm.nf
 refine go he hm fun a he =>?_
 by_cases h70:k < ps.length
 refine go he hm fun a he =>?_
 obtain ⟨q74,rfl,x75,hx76,cs77,hl78,ha79,hr80⟩:=rpps.el hn1 h70
 obtain rfl:=id hr80
 refine Alc he hm fun b81 w hm a he =>?_
 refine Sto 0 he hm fun w hm a he =>?_
 refine z1n call80 he hm (fun hB84 w hm a he =>?_) (fun hB84 w hm a he =>?_) (c:=isType_ok hT49 hm)
 refine BldS he hm fun v86 w hm a he =>?_
 refine App_ 3 z9k he hm (fun v87 w hm a he =>?_) (hb:=by have hq_:=congrArg List.length (hI68).2.1;simp only [List.length_map,List.length_append,z1m,List.length_cons,List.length_nil] at hq_ ⊢;omega)
 first | rw [z2u] at hm | rw [← z1l] at hm
 refine MapU 2 runUnderlying157 runUnderlying9 he hm fun w hm a he =>?_
 rw [smap_put] at hm
 refine go he hm fun a he =>?_
 replace hm:=hm.dl [1,0]
 refine hL67 _ _ _ (by subst hmu;omega) ⟨(k+1),(v87),(nl++[x75.name]),((lput sc x75.name x75.type)),rfl,⟨he.pk,hm⟩,?_⟩
 obtain ⟨hA_,hN_,hS_⟩:=hI68
 refine ⟨?_,?_,?_⟩
 rw [hA_,z4v hx76,hB84];rfl
 rw [hN_,z0a hx76];simp
 rw [hS_,z0a hx76];rfl
 refine go he hm fun a he =>?_
 replace hm:=hm.le (le46)
 replace hm:=hm.dl [5,4,3,2,1,0]
 refine Ret2 hQ he hm ?_
 have hr_:z2c c ps e=_:=typ_type hlk48 hdp_ hms_ (by obtain ⟨hA_,_,_⟩:=hI68;rw [hA_,z4v hx76];simp only [hB84,Bool.false_and])
 rw [hr_]
 exact ⟨rfl,hm⟩
 refine go he hm fun a he =>?_
 obtain ⟨hA_,hN_,hS_⟩:=hI68
 rw [z0g h70] at hA_ hN_ hS_
 simp only [List.map_nil,List.append_nil,List.foldl_nil,List.all_nil] at hA_ hN_ hS_
 replace hm:Mem Ψ44 (.mp b64 (smap (z3q ps))::.gs (u) 9 1 (strs (ps.map Param.name))::.blk b54 (ob [.int .i64 ((meas e 6000).2)] 3)::.blk b40 (ob [.int .i64 (e.kind),.int .i64 (e.num),.string e.name,.slice p27 e.args.length c28,.slice p33 e.arms.length c34] 66)::.blk b39 (ob [.slice p3 c.datas.length c4,.slice p9 c.inputs.length c10,.slice p15 c.funs.length c16,.slice p21 c.outputs.length c22] 27)::K) w:=by rw [hN_,hS_];exact hm
 have hmk_:=hm
 clear hm
 subst hN_
 subst hS_
 have hm:=hmk_
 clear hmk_
 refine go he hm fun a he =>?_
 replace hm:=hm.pl 1
 refine st he rfl rfl rfl (z4d he rfl call85 (binders_ok (l:=(ps.map Param.name)) (by have h_:=meas_bind6 hms_;simp only [List.length_map];omega) rpe hm) fun v92 w hm a he =>?_)
 replace hm:=hm.nf
 have hm0_:=hm
 clear hm
 obtain ⟨Ψ93,le94,hm,hrow95⟩:=hm0_.freezeRow (i:=0) rfl
 clear hm0_
 replace rpc:=RCore.mono _ _ _ _ le94 rpc
 replace rpe:=REx.mono _ _ _ _ le94 rpe
 replace G:=G.mono le94
 replace hT49:=hT49.mono le94
 replace hm:=hm.nf
 have hsl96:SliceOf RStr Ψ93 1 _ (((ps.map Param.name)++z0n e)):=SliceOf.strs.2 hrow95
 obtain ⟨p97,c98,hv_,hm99,hn100⟩:=hsl96.form (by decide)
 have hmk_:=hm
 clear hm
 subst hv_
 have hm:=hmk_
 clear hmk_
 refine z1n call84 he hm (fun hB101 w hm a he =>?_) (fun hB101 w hm a he =>?_) (c:=apart_ok hsl96 G hm)
 refine go he hm fun a he =>?_
 have hap_:=hB101
 refine z0y call86 he hm (fun w hm a he =>?_) (c:=typed_ok (look_tparams hlk48) hT49 rpe hm)
 refine go he hm fun a he =>?_
 by_cases h105:(z0c (z0f c) e (z3q ps)).1=(⟨#[]⟩:ByteArray)
 refine go he hm fun a he =>?_
 replace hm:=hm.le ((le46).trans le94)
 replace hm:=hm.dl [3,2,1,0]
 refine Ret2 hQ he hm ?_
 have hr_:z2c c ps e=_:=typ_no hlk48 hdp_ hms_ hA_ hap_ h105
 rw [hr_]
 exact ⟨rfl,hm⟩
 refine go he hm fun a he =>?_
 replace hm:=hm.le ((le46).trans le94)
 replace hm:=hm.dl [3,2,1,0]
 refine Ret2 hQ he hm ?_
 have hr_:z2c c ps e=_:=typ_ok hlk48 hdp_ hms_ hA_ hap_ h105
 rw [hr_]
 exact ⟨rfl,hm⟩
 refine go he hm fun a he =>?_
 replace hm:=hm.le ((le46).trans le94)
 replace hm:=hm.dl [3,2,1,0]
 refine Ret2 hQ he hm ?_
 have hr_:z2c c ps e=_:=typ_apart hlk48 hdp_ hms_ hA_ hB101
 rw [hr_]
 exact ⟨rfl,hm⟩
 rw [if_neg hlk48] at he
 refine go he hm fun a he =>?_
 replace hm:=hm.le (le46)
 replace hm:=hm.dl [1,0]
 refine Ret2 hQ he hm ?_
 have hr_:z2c c ps e=_:=typ_look hlk48
 rw [hr_]
 exact ⟨rfl,hm⟩
end Go.Sw

namespace Go.Sw
open Go.Proofs.Tryz
open Go.Proofs
set_option maxRecDepth 20000
set_option maxHeartbeats 4000000
variable {Φ:Fz} {K:List Res} {w:World}
theorem bound_ok {d0:List Value} {f:Fun} (rpf:RFun Φ d0 f) (hb:f.params.length+(z0n f.body).length≤8796093000000) (hm:Mem Φ K w) :
  Calls Tryz.prog 88 (List.toArray [.agg d0.toArray]) w (fun ee w'=>∃v,ee=.returned v∧Mem Φ (.gs v 9 1 (strs (f.params.map Param.name++z0n f.body))::K) w'):=by
 obtain ⟨s1,b7,rfl,h2,h8⟩:=id rpf
 obtain ⟨p3,c4,rfl,hm5,hn6⟩:=h2.fm
 obtain ⟨p11,c12,p17,c18,rfl,hi21,h10,h16,hm13,hn14,hm19,hn20⟩:=REx.fm h8
 refine z0l func88 ntmps88 fun Q hQ a he =>?_
 refine Bx he hm fun b23 w hm a he =>?_
 refine go he hm fun a he =>?_
 replace hm:=hm.nilRow 9 1
 replace hm:=hm.nf
 refine go he hm fun a he =>?_
 refine z1i (he.ks [1]) hm (fun R mm a w=>∃(i:Nat) (u:Value) (nl:List Bs),mm=f.params.length - i∧R Φ [(3,u),(4,.int .i64 ((i:Nat):Int))] [(0,.gs (u) 9 1 (strs nl))] a w∧(f.params.map Param.name=nl++(f.params.drop i).map Param.name)) (f.params.length - 0) ⟨0,.slice none 0 0,[],rfl,⟨he.pk,hm⟩,rfl⟩ ?_
 clear hm he
 rintro mm a w ⟨i,u,nl,hmu,⟨he,hm⟩,hI28⟩ L27 hL27
 replace hm:=hm.nf
 refine go he hm fun a he =>?_
 by_cases h31:i < f.params.length
 refine go he hm fun a he =>?_
 obtain ⟨q33,rfl,x34,hx35,cs36,hl37,ha38,hr39⟩:=h2.el hn6 h31
 obtain rfl:=id hr39
 refine BldS he hm fun v40 w hm a he =>?_
 refine App_ 1 z9k he hm (fun v41 w hm a he =>?_) (hb:=by have hq_:=congrArg List.length (hI28);simp only [List.length_map,List.length_append,z1m,List.length_cons,List.length_nil] at hq_ ⊢;omega)
 first | rw [z2u] at hm | rw [← z1l] at hm
 refine go he hm fun a he =>?_
 replace hm:=hm.dl [0]
 refine hL27 _ _ _ (by subst hmu;omega) ⟨(i+1),(v41),(nl++[x34.name]),rfl,⟨he.pk,hm⟩,?_⟩
 rw [hI28,z0a hx35];simp
 refine go he hm fun a he =>?_
 have hN_:=hI28
 rw [z0g h31] at hN_
 simp only [List.map_nil,List.append_nil] at hN_
 rw [← hN_] at hm
 refine go he hm fun a he =>?_
 refine st he rfl rfl rfl (z4d he rfl call147 (rbinders_ok (l:=(f.params.map Param.name)) (by simp only [List.length_map];omega) h8 hm) fun v43 w hm a he =>?_)
 replace hm:=hm.nf
 refine go he hm fun a he =>?_
 replace hm:=hm.dl [1]
 refine Ret1 hQ he hm ?_
 refine ⟨_,rfl,?_⟩
 rw [show (strs (f.params.map Param.name++z0n f.body))=(strs ((f.params.map Param.name)++z0n f.body)) by rfl];exact hm
theorem bound0_ok {d:List Value} {e:Ex} (hb:(z0n e).length≤1000000) (re:REx Φ d e) (hm:Mem Φ K w) :
  Calls Tryz.prog 88 (List.toArray [.agg (.string ⟨#[]⟩::.slice none 0 0::.string ⟨#[]⟩::d).toArray]) w (fun ee w'=>∃v,ee=.returned v∧Mem Φ (.gs v 9 1 (strs (z0n e))::K) w') :=
 bound_ok (f:=⟨⟨#[]⟩,[],⟨#[]⟩,e⟩) ⟨_,_,rfl,SliceOf.nil 2,re⟩ (by simp only [List.length_nil];omega) hm
theorem lnamed_ok {v0:Value} {ps:List Param} {d1:List Value} {e:Ex} (rpps:SliceOf RParam Φ 2 v0 ps) (rpe:REx Φ d1 e) (hb:(z0n e).length≤1000000) (hm:Mem Φ K w) :
  Calls Tryz.prog 34 (List.toArray [v0,.agg d1.toArray]) w (fun ee w'=>ee=.returned (.bool (namedV ps e))∧Mem Φ K w'):=by
 obtain ⟨p0,c0,rfl,hm0,hn0⟩:=rpps.fm
 obtain ⟨p3,c4,p9,c10,rfl,hi13,h2,h8,hm5,hn6,hm11,hn12⟩:=REx.fm rpe
 refine z0l func34 ntmps34 fun Q hQ a he =>?_
 refine Bx he hm fun b15 w hm a he =>?_
 refine go he hm fun a he =>?_
 refine z1i (he.ks [0,3]) hm (fun R mm a w=>∃(i:Nat),mm=ps.length - i∧R Φ [(5,.int .i64 ((i:Nat):Int))] [] a w∧(hasB (ps.map Param.name) z3i=hasB ((ps.drop i).map Param.name) z3i)) (ps.length - 0) ⟨0,rfl,⟨he.pk,hm⟩,rfl⟩ ?_
 clear hm he
 rintro mm a w ⟨i,hmu,⟨he,hm⟩,hI19⟩ L18 hL18
 refine go he hm fun a he =>?_
 by_cases h22:i < ps.length
 refine go he hm fun a he =>?_
 obtain ⟨q25,rfl,x26,hx27,cs28,hl29,ha30,hr31⟩:=rpps.el hn0 h22
 obtain rfl:=id hr31
 refine go he hm fun a he =>?_
 by_cases h32:x26.name=(⟨#[117,110,117,115,101,100,39,57]⟩:ByteArray)
 refine go he hm fun a he =>?_
 replace hm:=hm.dl [0]
 refine Ret1 hQ he hm ?_
 exact z0v hm (by rw [namedV_eq,hI19,z0a hx27,List.map_cons,hasB_cons];simp [z3i, *])
 refine go he hm fun a he =>?_
 refine hL18 _ _ _ (by subst hmu;omega) ⟨(i+1),rfl,⟨he.pk,hm⟩,?_⟩
 rw [hI19,z0a hx27,List.map_cons,hasB_cons];simp [z3i, *]
 refine BldT he hm fun a he =>?_
 refine st he rfl rfl rfl (z4d he rfl call88 (bound0_ok hb rpe hm) fun v35 w hm a he =>?_)
 replace hm:=hm.nf
 have hm0_:=hm
 clear hm
 obtain ⟨Ψ36,le37,hm,hrow38⟩:=hm0_.freezeRow (i:=0) rfl
 clear hm0_
 replace rpe:=REx.mono _ _ _ _ le37 rpe
 replace hm:=hm.nf
 have hsl39:SliceOf RStr Ψ36 1 _ ((z0n e)):=SliceOf.strs.2 hrow38
 obtain ⟨p40,c41,hv_,hm42,hn43⟩:=hsl39.form (by decide)
 have hmk_:=hm
 clear hm
 subst hv_
 have hm:=hmk_
 clear hmk_
 refine z0y call87 he hm (fun w hm a he =>?_) (c:=hasB_ok hsl39 hm)
 refine go he hm fun a he =>?_
 replace hm:=hm.le (le37)
 replace hm:=hm.dl [0]
 refine Ret1 hQ he hm ?_
 exact z0v hm (by rw [namedV_eq,hI19,z0g h22,List.map_nil,hasB_nil];rfl)
end Go.Sw
