import Derived.Test.YtghdfphedgcpdaaGreatDoorY10
set_option linter.unusedVariables false
set_option linter.unusedSimpArgs false
namespace Go.Sw
open Go.Proofs Go.Proofs.Tryz
set_option maxRecDepth 20000
set_option maxHeartbeats 4000000
theorem z0g (l:List Bs) (s:Bs):(zK (vD l) s).isSome=decide (s∈l):=by rw [tV];by_cases h:s∈l <;> simp [h]
def z9g (o:From) (f:Flow):Bool:=(zK o f.1).isSome && !(zK o f.2).isSome
section
variable {ns:List Bs} {fl:List Flow} {rs l:List Bs}
theorem j4d (h:¬wC ns (vD l)=l):cB ns fl rs l=false:=by
 rw [y0s] at h;simp [cB,h]
theorem j4e (h:(rs.any fun s=> !(zK (vD l) s).isSome)=true):cB ns fl rs l=false:=by
 have:(rs.all fun r=>decide (r∈l))=false:=by
  rw [<- Bool.not_eq_true,List.all_eq_true]
  intro b
  obtain ⟨x,h1,a⟩:=List.any_eq_true.1 h
  rw [z0g,b x h1] at a;cases a
 simp [cB,this]
theorem j4g (h1:wC ns (vD l)=l) (a:(rs.any fun s=> !(zK (vD l) s).isSome)=false):cB ns fl rs l = !(fl.any (z9g (vD l))):=by
 rw [y0s] at h1
 have e2:(rs.all fun r=>decide (r∈l))=true:=by
  rw [List.all_eq_true];intro x b
  have:=List.any_eq_false.1 a x b
  rw [z0g] at this;simpa using this
 have e3:(fl.all fun f=> !decide (f.1∈l) || decide (f.2∈l)) = !(fl.any (z9g (vD l))):=by
  rw [List.not_any_eq_all_not];congr 1;funext f
  simp only [z9g,z0g];cases decide (f.1∈l) <;> cases decide (f.2∈l) <;> rfl
 simp only [cB,h1,e2,e3,decide_true,Bool.true_and]
end
theorem j4b {Φ:Fz} {K:List Res} {w:World} {b mb:Nat} {o:From} {s:Bs} (N:Mem Φ (.blk b (ob [.map (some mb)] 70)::.mp mb (yW o)::K) w) :
  Calls prog 70 #[.string s,.pointer (some ⟨b,0,none⟩)] w (fun ee w'=>ee=.returned (.bool (!(zK o s).isSome))/\Mem Φ (.blk b (ob [.map (some mb)] 70)::.mp mb (yW o)::K) w'):=by
 refine zL func70 ntmps70 fun Q hQ a J=>?_
 refine go fun a J=>?_
 rcases d:yM ((yW o)) s with _ | f
 have c:=congrArg (zJ true (.string ⟨#[]⟩)) d
 refine Qq (fun a J=>?_) (o:=by exact fun J O=>Ok.cast (zW 1 runUnderlying70 runUnderlying9 zeroValue9 J O rfl rfl rfl) (show zJ true (.string ⟨#[]⟩) (yM ((yW o)) s)=.tuple #[.string ⟨#[]⟩,.bool false] from c))
 refine zD ?_
 rw [kI d];exact ⟨rfl,N⟩
 obtain ⟨g,e,rfl⟩:=kJ d
 have c:=congrArg (zJ true (.string ⟨#[]⟩)) d
 refine Qq (fun a J=>?_) (o:=by exact fun J O=>Ok.cast (zW 1 runUnderlying70 runUnderlying9 zeroValue9 J O rfl rfl rfl) (show zJ true (.string ⟨#[]⟩) (yM ((yW o)) s)=.tuple #[.string g,.bool true] from c))
 refine zD ?_
 rw [e];exact ⟨rfl,N⟩
theorem j4c {Φ:Fz} {K:List Res} {w:World} {b mb:Nat} {o:From} {d0:List Value} {f:Flow} (rf:RFlow Φ d0 f) (N:Mem Φ (.blk b (ob [.map (some mb)] 70)::.mp mb (yW o)::K) w) :
  Calls prog 72 #[.agg d0.toArray,.pointer (some ⟨b,0,none⟩)] w (fun ee w'=>ee=.returned (.bool (z9g o f))/\Mem Φ (.blk b (ob [.map (some mb)] 70)::.mp mb (yW o)::K) w'):=by
 obtain rfl:=id rf
 refine zL func72 ntmps72 fun Q hQ a J=>?_
 refine Bx fun B w N a J=>?_
 refine go fun a J=>?_
 rcases h:yM ((yW o)) f.1 with _ | z
 have e:=congrArg (zJ true (.string ⟨#[]⟩)) h
 refine Qq (fun a J=>?_) (o:=by exact fun J O=>Ok.cast (zW 2 runUnderlying70 runUnderlying9 zeroValue9 J O rfl rfl rfl) (show zJ true (.string ⟨#[]⟩) (yM ((yW o)) f.1)=.tuple #[.string ⟨#[]⟩,.bool false] from e))
 have y:(zK o f.1).isSome=false:=by rw [kI h];rfl
 refine go fun a J=>?_
 rcases i:yM ((yW o)) f.2 with _ | A
 have g:=congrArg (zJ true (.string ⟨#[]⟩)) i
 refine Qq (fun a J=>?_) (o:=by exact fun J O=>Ok.cast (zW 2 runUnderlying70 runUnderlying9 zeroValue9 J O rfl rfl rfl) (show zJ true (.string ⟨#[]⟩) (yM ((yW o)) f.2)=.tuple #[.string ⟨#[]⟩,.bool false] from g))
 have q:(zK o f.2).isSome=false:=by rw [kI i];rfl
 refine zD ?_
 replace N:=N.dl [0]
 rw [show z9g o f=_ from by simp only [z9g, *];rfl];exact ⟨rfl,N⟩
 obtain ⟨m,j,rfl⟩:=kJ i
 have g:=congrArg (zJ true (.string ⟨#[]⟩)) i
 refine Qq (fun a J=>?_) (o:=by exact fun J O=>Ok.cast (zW 2 runUnderlying70 runUnderlying9 zeroValue9 J O rfl rfl rfl) (show zJ true (.string ⟨#[]⟩) (yM ((yW o)) f.2)=.tuple #[.string m,.bool true] from g))
 have r:(zK o f.2).isSome=true:=by rw [j];rfl
 refine zD ?_
 replace N:=N.dl [0]
 rw [show z9g o f=_ from by simp only [z9g, *];rfl];exact ⟨rfl,N⟩
 obtain ⟨n,k,rfl⟩:=kJ h
 have e:=congrArg (zJ true (.string ⟨#[]⟩)) h
 refine Qq (fun a J=>?_) (o:=by exact fun J O=>Ok.cast (zW 2 runUnderlying70 runUnderlying9 zeroValue9 J O rfl rfl rfl) (show zJ true (.string ⟨#[]⟩) (yM ((yW o)) f.1)=.tuple #[.string n,.bool true] from e))
 have s:(zK o f.1).isSome=true:=by rw [k];rfl
 refine go fun a J=>?_
 rcases d:yM ((yW o)) f.2 with _ | v
 have c:=congrArg (zJ true (.string ⟨#[]⟩)) d
 refine Qq (fun a J=>?_) (o:=by exact fun J O=>Ok.cast (zW 2 runUnderlying70 runUnderlying9 zeroValue9 J O rfl rfl rfl) (show zJ true (.string ⟨#[]⟩) (yM ((yW o)) f.2)=.tuple #[.string ⟨#[]⟩,.bool false] from c))
 have t:(zK o f.2).isSome=false:=by rw [kI d];rfl
 refine zD ?_
 replace N:=N.dl [0]
 rw [show z9g o f=_ from by simp only [z9g, *];rfl];exact ⟨rfl,N⟩
 obtain ⟨p,l,rfl⟩:=kJ d
 have c:=congrArg (zJ true (.string ⟨#[]⟩)) d
 refine Qq (fun a J=>?_) (o:=by exact fun J O=>Ok.cast (zW 2 runUnderlying70 runUnderlying9 zeroValue9 J O rfl rfl rfl) (show zJ true (.string ⟨#[]⟩) (yM ((yW o)) f.2)=.tuple #[.string p,.bool true] from c))
 have u:(zK o f.2).isSome=true:=by rw [l];rfl
 refine zD ?_
 replace N:=N.dl [0]
 rw [show z9g o f=_ from by simp only [z9g, *];rfl];exact ⟨rfl,N⟩
theorem RGraph.mono {Φ Ψ:Fz} {b:Addr} {g:Graph} (h:RGraph Φ b g) (hl:Φ.Le Ψ):RGraph Ψ b g:=by
 obtain ⟨d0,nd,fl,pm,nb,nm,h1,a,c,d,e,f⟩:=h
 exact ⟨d0,nd,fl,pm,nb,nm,h1.mono hl,RCore.mono _ _ _ _ hl a,c.mono RStr.mono hl,d.mono RFlow.mono hl,e.mono hl,f.mono fun _ _ h=>h.mono RStr.mono hl⟩
theorem j4f {Φ:Fz} {K:List Res} {w:World} {b:Addr} {g:Graph} {v:Value} {l:List Bs} (rg:RGraph Φ b g) (rl:SliceOf RStr Φ 1 v l) (hz:∀p∈g.core.inputs,p.name.size<=1000) (Z:g.core.inputs.length<=1000000000) (hn:g.nodes.length<=1000000000) (N:Mem Φ K w) :
  Calls prog 43 #[.pointer (some b),v] w (fun ee w'=>ee=.returned (.bool (cB g.nodes g.flows (zV g.core) l))/\Mem Φ K w'):=by
 obtain ⟨d1,O0,F0,Z0,N0,P0,k,S,b0,e,x0,y0⟩:=id rg
 have n:=S
 obtain ⟨Q0,A0,R0,c22,S0,B0,T0,C0,rfl,G0,H0,I0,J0,h0,n0,i0,p0,j0,q0,k0,r0⟩:=RCore.fm S
 obtain ⟨U0,c38,rfl,W,s0⟩:=b0.fm
 obtain ⟨V0,c42,rfl,X,t0⟩:=e.fm
 obtain ⟨W0,c46,rfl,Y,I⟩:=rl.fm
 refine zL func43 ntmps43 fun Q hQ a J=>?_
 refine MkM fun q w N a J=>?_
 replace N:=N.nf
 refine Alc fun A w N a J=>?_
 refine Sto 0 fun w N a J=>?_
 refine go fun a J=>?_
 refine zU (J.ks [0,1,5,9,10]) N (fun R mm a w=>∃(i:Nat) (P:From),mm=l.length - i/\R Φ [(11,.int .i64 i)] [(1,.mp q (yW P))] a w/\(vD l=(l.drop i).foldl (fun m s=>jP m s ⟨#[]⟩) P)) (l.length - 0) ⟨0,[],rfl,⟨J.pk,N⟩,rfl⟩ ?_
 clear N J
 rintro mm a w ⟨i,P,V,⟨J,N⟩,D⟩ z0 H
 replace N:=N.nf
 by_cases G:i < l.length
 refine go fun a J=>?_
 obtain ⟨a1,rfl,T,M,F,g0,e0,L⟩:=rl.el I G
 obtain rfl:F=[.string T]:=L
 refine z4d 1 runUnderlying70 runUnderlying9 fun w N a J=>?_
 rw [dH] at N
 refine go fun a J=>?_
 refine H _ _ _ (by subst V;omega) ⟨(i+1),((jP P T (⟨#[]⟩:Bs))),rfl,⟨J.pk,N⟩,?_⟩
 rw [D,zA M];rfl
 refine go fun a J=>?_
 have a0:vD l=P:=by have h_:=D;rw [zB G] at h_;exact h_
 subst a0
 replace N:=N.pl 1
 refine yO call42 (fun b1 w c0 N a J=>?_) (c:=q1m (o:=(vD l)) rg hn N)
 replace N:=N.nf
 have f:=N
 clear N
 obtain ⟨U,d,N,B⟩:=f.freezeRow (i:=0) rfl
 clear f
 replace e:=e.mono RFlow.mono d
 replace k:=k.mono d
 replace n:=RCore.mono _ _ _ _ d n
 replace rl:=rl.up d
 replace rg:=rg.mono d
 replace N:=N.nf
 have u:SliceOf RStr U 1 _ ((wC g.nodes (vD l))):=SliceOf.strs.2 B
 obtain ⟨X0,D0,E,l0,u0⟩:=u.form (by decide)
 have h:=N
 clear N
 subst E
 have N:=h
 clear h
 refine yH call68 (fun r w N a J=>?_) (fun r w N a J=>?_) (c:=x4b u rl N)
 refine yO call39 (fun c1 w d0 N a J=>?_) (c:=tW rg hz Z N)
 replace N:=N.nf
 have f:=N
 clear N
 obtain ⟨z,j,N,C⟩:=f.freezeRow (i:=0) rfl
 clear f
 replace e:=e.mono RFlow.mono j
 replace k:=k.mono j
 replace n:=RCore.mono _ _ _ _ j n
 replace N:=N.nf
 have y:SliceOf RStr z 1 _ ((zV g.core)):=SliceOf.strs.2 C
 obtain ⟨Y0,E0,E,m0,w0⟩:=y.form (by decide)
 have h:=N
 clear N
 subst E
 have N:=h
 clear h
 replace N:=N.pl 1
 refine yH call69 (fun t w N a J=>?_) (fun t w N a J=>?_) (c:=z4f (Φ:=z) (K:=.blk A (ob [.map (some q)] 70)::.mp q (yW (vD l))::K) (p:=fun s=> !(zK (vD l) s).isSome) (fs:=[]) (cs:=[.pointer (some ⟨A,0,none⟩)]) y call70 (fun x c w hx hc N=>j4b N) N)
 refine zD ?_
 replace N:=N.le ((d).trans j)
 replace N:=N.dl [1,0]
 rw [j4e t];exact ⟨rfl,N⟩
 replace N:=N.ar [] [1,1]
 refine zT call71 (fun w N a J=>?_) (c:=q3e (Φ:=z) (K:=.blk A (ob [.map (some q)] 70)::.mp q (yW (vD l))::K) (p:=z9g (vD l)) (fs:=[]) (cs:=[.pointer (some ⟨A,0,none⟩)]) e call72 (fun x c w hx hc N=>j4c hc N) N)
 refine zD ?_
 replace N:=N.le ((d).trans j)
 replace N:=N.dl [1,0]
 rw [j4g (of_decide_eq_true r) t];exact ⟨rfl,N⟩
 refine zD ?_
 replace N:=N.le (d)
 replace N:=N.dl [1,0]
 rw [j4d (of_decide_eq_false r)];exact ⟨rfl,N⟩
def y6e (c:Core):Except Int Unit:=if yG c=0 then .ok () else .error (yG c)
theorem x6z {c:Core} (h:yG c=0):y6e c=.ok ():=if_pos h
theorem x0i {c:Core} (h:¬yG c=0):y6e c=.error (yG c):=if_neg h
structure LOk (c:Core):Prop where
 tidy:TidyC c
 nl:(zC c).length<=1000000000
 il:c.inputs.length<=1000000000
 fl:∀f∈c.funs,wT f.body/\nV (yC c) f.body
 ps:∀n ps,zK (yC c) n=some ps->∀p∈ps,p.name.size<=1000
 al:(xW c).length<=1000000000000
 gok:GOk (zC c) (zQ c)
theorem sU (l:List Flow):(zX l).length=2 * l.length:=by
 induction l with
 | nil=>rfl
 | cons x l a=>simp only [zX,List.flatMap_cons,laQ,lcQ,lnQ] at a ⊢;omega
theorem j9d {Φ:Fz} {v:Value} {l:List Flow} (h:Row Φ v 2 (zX l)):SliceOf RFlow Φ 2 v l:=⟨_,h,cN Φ l⟩
theorem y6f {Φ:Fz} {K:List Res} {w:World} {d0:List Value} {c:Core} (V2:RCore Φ d0 c) (G:Glob Φ) (hL:yG c=0->LOk c) (N:Mem Φ K w) :
  Calls prog 41 #[.agg d0.toArray] w (fun ee w'=>Out (y6e c) (fun _=>∃y:Fz×Addr,ee=.returned (.tuple #[.pointer (some y.2),.int .i64 0])/\(Φ.Le y.1/\RGraph y.1 y.2 (pF c))/\Mem y.1 K w') (fun e=>ee=.returned (.tuple #[.pointer none,.int .i64 e])/\Mem Φ K w')):=by
 have d:=V2
 obtain ⟨E,c4,F,g,k,j,n,c22,rfl,h2,h8,a3,B4,G4,H4,M3,S3,N3,R2,O3,T3⟩:=RCore.fm V2
 refine z8h func41 rfl ntmps41 rfl (fun Q hQ a J=>?_)
 refine go fun a J=>?_
 refine Bx fun I w N a J=>?_
 refine go fun a J=>?_
 refine st J rfl rfl rfl (tE J rfl call36 (y3p d G N) fun w N a J=>?_)
 refine go fun a J=>?_
 by_cases P0:(yG c)=0
 refine goJ 5 fun a J=>?_
 refine sq fun Z2 I2=>?_
 have o:=hL P0
 have b:∀a w,(∃(bg:Nat) (bp:Nat) (pm:Nat) (nx:Nat) (pn:Option Addr) (cn:Nat),EnvR 80 [(1,.pointer (some ⟨I,0,none⟩)),(5,.pointer (some ⟨bp,0,none⟩))] [] a/\Mem Φ (.blk bg (ob [.slice E c.datas.length c4,.slice F c.inputs.length g,.slice k c.funs.length j,.slice n c.outputs.length c22,.slice pn (zC c).length cn,.slice none 0 0,.map (some pm),.map (some nx),.nilFunc] 75)::.gs (.slice pn (zC c).length cn) 9 1 (strs (zC c))::.mp pm []::.mp nx []::.blk bp (ob [.pointer (some ⟨bg,0,none⟩)] 66)::.blk I (ob [.slice E c.datas.length c4,.slice F c.inputs.length g,.slice k c.funs.length j,.slice n c.outputs.length c22] 27)::K) w/\(True))->Z2 a w:=by
  clear N J
  rintro a w ⟨bg,bp,pm,nx,pn,cn,J,N,I3⟩
  apply I2
  refine go fun a J=>?_
  refine zU (J.ks [5,23,24]) N (fun R mm a w=>∃(i:Nat) (m0:List (Bs×Value)) (pl:Pars),mm=c.funs.length - i/\R Φ [(25,.int .i64 i)] [(2,.mp pm m0)] a w/\(MapRel (fun v x=>SliceOf RParam Φ 2 v x) m0 pl/\yC c=(c.funs.drop i).foldl (fun m f=>jP m f.name f.params) pl)) (c.funs.length - 0) ⟨0,[],[],rfl,⟨J.pk,N⟩,⟨.nil,rfl⟩⟩ ?_
  clear N J
  rintro mm a w ⟨i,m0,pl,z3,⟨J,N⟩,z0⟩ s4 J2
  replace N:=N.nf
  by_cases G2:i < c.funs.length
  refine go fun a J=>?_
  obtain ⟨L4,rfl,o0,T2,F3,L3,J3,S2⟩:=a3.el R2 G2
  obtain ⟨R4,x4,rfl,H2,f3⟩:=id S2
  obtain ⟨D3,c53,rfl,P3,U3⟩:=H2.fm
  obtain ⟨J4,z4,K4,A4,rfl,K3,C4,D4,Q3,V3,R3,W3⟩:=REx.fm f3
  refine go fun a J=>?_
  refine Alc fun y4 w N a J=>?_
  refine Sto 0 fun w N a J=>?_
  refine go fun a J=>?_
  refine yI [2,1,1,2,1,2,1,2,0] (.q 0 (.q 1 (.q 2 (.q 3 (.q 4 (.q 5 (.q 6 (.q 7 (.e 8 (.done)))))))))) [0,1,2,3,4,5,6] J N fun w N=>?_
  refine go fun a J=>?_
  refine wA J rfl rfl (sS 3 runUnderlying71 runUnderlying9 J N rfl rfl rfl rfl fun w N=>⟨yJ (by kernel_rfl),fun a J=>?_⟩)
  replace N:=N.nf
  refine go fun a J=>?_
  replace N:=N.dl [0]
  refine J2 _ _ _ (by subst z3;omega) ⟨(i+1),((cF m0 o0.name (.slice D3 o0.params.length c53))),(jP pl o0.name o0.params),rfl,⟨J.pk,N⟩,?_⟩
  obtain ⟨b3,d3⟩:=z0
  exact ⟨b3.put H2,by rw [d3,zA T2];rfl⟩
  refine go fun a J=>?_
  refine st J rfl rfl rfl (q3o N fun r w N a J=>?_)
  refine Alc fun M w N a J=>?_
  refine Sto 0 fun w N a J=>?_
  refine go fun a J=>?_
  refine st J rfl rfl rfl (jG J rfl call66 (all_ok' N) (fun g1 w G3 N a J=>?_))
  refine go fun a J=>?_
  obtain ⟨Q2,C0⟩:=z0
  rw [zB G2] at C0
  have i0:MapRel (fun v x=>SliceOf RParam Φ 2 v x) m0 (yC c):=C0▸Q2
  have B0:=N
  clear N
  obtain ⟨X,S,N,Q0⟩:=B0.freezeMap (i:=5) rfl
  clear B0
  replace h2:=h2.up S
  replace d:=RCore.mono _ _ _ _ S d
  replace G:=G.mono S
  replace N:=N.nf
  replace i0:=i0.mono (fun _ _ h_=>h_.mono RParam.mono S)
  replace N:=N.nilRow 95 2
  replace N:=N.ar [] [8,8,7,5,5,8,7,7,8,8,8,8,8,7,7,7,7,8]
  refine j4x (p:=41) (xW c) (fun x=>.agg #[.string x.1,.string x.2]) [.blk g1 (ob [.pointer (some ⟨bg,0,none⟩)] 66)] (fun pre z=>.blk bg (ob [.slice E c.datas.length c4,.slice F c.inputs.length g,.slice k c.funs.length j,.slice n c.outputs.length c22,.slice pn (zC c).length cn,z.1,.map (some pm),.map (some nx),.nilFunc] 75)::.gs (z.1) 95 2 (zX (qJ pre))::.blk r (.map (cE (qJ pre)) (qJ pre).length)::.mp nx (nxM (qK (qJ pre)) z.2)::.blk M (ob [.map (some r)] 136)::.gs (.slice pn (zC c).length cn) 9 1 (strs (zC c))::.blk bp (ob [.pointer (some ⟨bg,0,none⟩)] 66)::.blk I (ob [.slice E c.datas.length c4,.slice F c.inputs.length g,.slice k c.funs.length j,.slice n c.outputs.length c22] 27)::nxK (qK (qJ pre)) z.2++K) (.slice none 0 0,fun _=>.slice none 0 0) J (N) rfl call102 rfl (fun pre x post z l_ I4 n0 D0 a w O2 J N=>?_) (fun y_ q4 w A3 P2 N=>?_) (fun Dk z a w J N=>?_)
  replace N:=N.nf
  refine regI ?_
  refine y5c J rfl rfl rfl (by intro c h;cases h) (yT (cs:=[.string ⟨#[]⟩,.string ⟨#[]⟩]) N zeroValue95 rfl fun c0 w N a J=>?_)
  refine q4b J rfl rfl (by intro c h;cases h) (yA 0 (cs:=[.string ⟨#[]⟩,.string ⟨#[]⟩]) (vs:=[.string x.1,.string x.2]) J N rfl rfl rfl rfl sizeOf95 rfl rfl rfl fun w N a J=>?_)
  replace N:=N.nf
  refine nC ?_
  replace N:=N.pl 1
  refine ⟨_,N,fun w N=>?_⟩
  replace N:=N.nf
  refine blkI ?_
  refine sqI fun t4 K2=>?_
  refine sqI fun u4 L2=>?_
  refine regI ?_
  refine yZ J (by intro c h;cases h) (qD 6 J N.toSees rfl rfl rfl isAgg136) rfl fun a J=>
    yZ J (by intro c h;cases h) (vS 1 (vs:=[.string x.1,.string x.2]) J N.toSees rfl rfl isAgg95 sizeOf95 rfl rfl) rfl fun a J=>?_
  refine yZ J (by intro c h;cases h) (x2u 4 (s:=x) J N.toSees rfl rfl rfl) rfl fun a J=>?_
  refine nC ?_
  apply L2
  generalize h0:(decide (x∈(qJ pre)))=F2 at J
  cases F2
  refine if_fI J rfl ?_
  refine skipI ?_
  apply K2
  refine sqI fun v4 M2=>?_
  refine regI ?_
  refine yZ J (by intro c h;cases h) (qD 6 J N.toSees rfl rfl rfl isAgg136) rfl fun a J=>
    yZ J (by intro c h;cases h) (vS 1 (vs:=[.string x.1,.string x.2]) J N.toSees rfl rfl isAgg95 sizeOf95 rfl rfl) rfl fun a J=>?_
  refine q4b J rfl rfl (by intro c h;cases h) (y4f 4 (s:=x) J N rfl rfl rfl rfl (of_decide_eq_false h0) fun w N a J=>?_)
  replace N:Mem X (.blk l_ n0::.blk c0 (ob [.string x.1,.string x.2] 95)::.blk bg (ob [.slice E c.datas.length c4,.slice F c.inputs.length g,.slice k c.funs.length j,.slice n c.outputs.length c22,.slice pn (zC c).length cn,z.1,.map (some pm),.map (some nx),.nilFunc] 75)::.gs (z.1) 95 2 (zX (qJ pre))::.blk r (.map (cE ((qJ pre)++[x])) ((qJ pre)++[x]).length)::.mp nx (nxM (qK (qJ pre)) z.2)::.blk M (ob [.map (some r)] 136)::.gs (.slice pn (zC c).length cn) 9 1 (strs (zC c))::.blk bp (ob [.pointer (some ⟨bg,0,none⟩)] 66)::.blk I (ob [.slice E c.datas.length c4,.slice F c.inputs.length g,.slice k c.funs.length j,.slice n c.outputs.length c22] 27)::((nxK (qK (qJ pre)) z.2++K)++D0)) w:=id N
  refine nC ?_
  apply M2
  refine sqI fun w4 N2=>?_
  refine cV [2,2,1,1,2,2,0,0,1,1,0] (.q 0 (.q 1 (.q 2 (.q 3 (.q 4 (.q 5 (.e 6 (.e 7 (.q 8 (.q 9 (.e 10 (.done)))))))))))) [.blk c0 (ob [.string x.1,.string x.2] 95),.blk bg (ob [.slice E c.datas.length c4,.slice F c.inputs.length g,.slice k c.funs.length j,.slice n c.outputs.length c22,.slice pn (zC c).length cn,z.1,.map (some pm),.map (some nx),.nilFunc] 75),.blk r (.map (cE ((qJ pre)++[x])) ((qJ pre)++[x]).length),.mp nx (nxM (qK (qJ pre)) z.2),.blk M (ob [.map (some r)] 136),.gs (.slice pn (zC c).length cn) 9 1 (strs (zC c)),.blk bp (ob [.pointer (some ⟨bg,0,none⟩)] 66),.blk I (ob [.slice E c.datas.length c4,.slice F c.inputs.length g,.slice k c.funs.length j,.slice n c.outputs.length c22] 27)] J N mixed (by kernel_rfl) (by simp) (by kernel_rfl) fun w N=>?_
  refine go fun a J=>?_
  refine d_e J rfl rfl rfl (kL (sz:=2) J N rfl (z1e runUnderlying47 sizeOf95 zeroValue95 rfl (by decide) rfl) rfl (by decide) fun e1 w N _=>⟨fun _=>N.sn (Fz.Le.refl _),fun a J=>?_⟩)
  refine d_e J rfl rfl rfl (gZ 4 (xs:=(zX (qJ pre))) (news:=[.string x.1,.string x.2]) rt_47 J N rfl rfl rfl (N.toSees.rowIn (i:=0) rfl) rfl (by have S0:=congrArg List.length O2;have B3:=aG pre;have y3:=o.al;simp only [laQ,lcQ] at S0;simp only [sU,lcQ,lnQ];omega) fun P w N=>⟨fun _=>N.sn (Fz.Le.refl _),fun a J=>?_⟩)
  replace N:=N.nf
  refine go fun a J=>?_
  refine wA J rfl rfl (yA 3 J N rfl rfl rfl (N.toSees.gsCells (i:=4) rfl) sizeOf47 rfl (N.toSees.gsOne (i:=4) rfl) rfl fun w N=>⟨yJ (by kernel_rfl),fun a J=>?_⟩)
  replace N:=N.nf
  refine go fun a J=>?_
  apply N2
  replace N:=x1e (A:=[.gs (e1) 95 2 [.string x.1,.string x.2],.blk l_ n0,.blk c0 (ob [.string x.1,.string x.2] 95),.blk bg (ob [.slice E c.datas.length c4,.slice F c.inputs.length g,.slice k c.funs.length j,.slice n c.outputs.length c22,.slice pn (zC c).length cn,P,.map (some pm),.map (some nx),.nilFunc] 75),.gs (P) 95 2 ((zX (qJ pre))++[.string x.1,.string x.2]),.blk r (.map (cE ((qJ pre)++[x])) ((qJ pre)++[x]).length),.mp nx (nxM (qK (qJ pre)) z.2),.blk M (ob [.map (some r)] 136),.gs (.slice pn (zC c).length cn) 9 1 (strs (zC c)),.blk bp (ob [.pointer (some ⟨bg,0,none⟩)] 66),.blk I (ob [.slice E c.datas.length c4,.slice F c.inputs.length g,.slice k c.funs.length j,.slice n c.outputs.length c22] 27)]) (NN:=(qK (qJ pre))) (zf:=z.2) x.1 N
  obtain ⟨d1,A0⟩:∃d1,d1=zJ false (.slice none 0 0) (yM (nxM (qK (qJ pre)) z.2) x.1):=⟨_,rfl⟩
  rw [<- A0] at N
  replace N:Mem X (.gs (d1) 9 1 (strs ((zK (qK (qJ pre)) x.1).getD []))::.gs (e1) 95 2 [.string x.1,.string x.2]::.blk l_ n0::.blk c0 (ob [.string x.1,.string x.2] 95)::.blk bg (ob [.slice E c.datas.length c4,.slice F c.inputs.length g,.slice k c.funs.length j,.slice n c.outputs.length c22,.slice pn (zC c).length cn,P,.map (some pm),.map (some nx),.nilFunc] 75)::.gs (P) 95 2 ((zX (qJ pre))++[.string x.1,.string x.2])::.blk r (.map (cE ((qJ pre)++[x])) ((qJ pre)++[x]).length)::.mp nx (nxM (qK (qJ pre)) z.2)::.blk M (ob [.map (some r)] 136)::.gs (.slice pn (zC c).length cn) 9 1 (strs (zC c))::.blk bp (ob [.pointer (some ⟨bg,0,none⟩)] 66)::.blk I (ob [.slice E c.datas.length c4,.slice F c.inputs.length g,.slice k c.funs.length j,.slice n c.outputs.length c22] 27)::((nxK (z3s (qK (qJ pre)) x.1) z.2++K)++D0)) w:=id N
  refine cV [2,1,1,2,1,2,2,1,1,2,1,2,2,1,2,0,0,0] (.q 0 (.q 1 (.q 2 (.q 3 (.q 4 (.q 5 (.q 6 (.q 7 (.q 8 (.q 9 (.q 10 (.q 11 (.q 12 (.q 13 (.q 14 (.e 15 (.e 16 (.e 17 (.done))))))))))))))))))) [.gs (e1) 95 2 [.string x.1,.string x.2],.blk c0 (ob [.string x.1,.string x.2] 95),.blk bg (ob [.slice E c.datas.length c4,.slice F c.inputs.length g,.slice k c.funs.length j,.slice n c.outputs.length c22,.slice pn (zC c).length cn,P,.map (some pm),.map (some nx),.nilFunc] 75),.gs (P) 95 2 ((zX (qJ pre))++[.string x.1,.string x.2]),.blk r (.map (cE ((qJ pre)++[x])) ((qJ pre)++[x]).length),.mp nx (nxM (qK (qJ pre)) z.2),.blk M (ob [.map (some r)] 136),.gs (.slice pn (zC c).length cn) 9 1 (strs (zC c)),.blk bp (ob [.pointer (some ⟨bg,0,none⟩)] 66),.blk I (ob [.slice E c.datas.length c4,.slice F c.inputs.length g,.slice k c.funs.length j,.slice n c.outputs.length c22] 27)] J N mixed (by kernel_rfl) (by simp) (by kernel_rfl) fun w N=>?_
  refine go fun a J=>?_
  refine d_q J rfl rfl (fun w O=>Ok.cast (zW 5 runUnderlying72 runUnderlying9 zeroValue25 J O rfl rfl rfl) A0.symm) rfl fun a J=>?_
  refine go fun a J=>?_
  refine d_e J rfl rfl rfl (kL (sz:=1) J N rfl (z1e runUnderlying25 sizeOf9 zeroValue9 rfl (by decide) rfl) rfl (by decide) fun S4 w N _=>⟨fun _=>N.sn (Fz.Le.refl _),fun a J=>?_⟩)
  refine d_e J rfl rfl rfl (gZ 1 (xs:=(strs ((zK (qK (qJ pre)) x.1).getD []))) (news:=[.string x.2]) xQ J N rfl rfl rfl (N.toSees.rowIn (i:=0) rfl) rfl (by have S0:=congrArg List.length O2;have B3:=aG pre;have y3:=o.al;have F4:=nxt_len x.1 (qJ pre);simp only [laQ,lcQ] at S0;simp only [zR,lcQ,lnQ];omega) fun f1 w N=>⟨fun _=>N.sn (Fz.Le.refl _),fun a J=>?_⟩)
  replace N:=N.nf
  refine wA J rfl rfl (sS 8 runUnderlying72 runUnderlying9 J N rfl rfl rfl rfl fun w N=>⟨yJ (by kernel_rfl),fun a J=>?_⟩)
  replace N:=N.nf
  refine go fun a J=>?_
  replace N:=N.dl [4,2,0]
  have R0:qJ (pre++[x])=qJ pre++[x]:=by rw [cP,if_neg (of_decide_eq_false h0)]
  rw [qI,(y6p (zf:=z.2) (v:=f1) (l:=((zK (qK (qJ pre)) x.1).getD []++[x.2])) (q1v (qJ pre))).2] at N
  refine ⟨rfl,(P,oT z.2 x.1 f1),?_⟩
  rw [R0,tR,uX,<- z1k]
  exact j2t (A:=[.blk l_ n0,.blk bg (ob [.slice E c.datas.length c4,.slice F c.inputs.length g,.slice k c.funs.length j,.slice n c.outputs.length c22,.slice pn (zC c).length cn,P,.map (some pm),.map (some nx),.nilFunc] 75),.gs (P) 95 2 ((zX (qJ pre))++[.string x.1,.string x.2]),.blk r (.map (cE ((qJ pre)++[x])) ((qJ pre)++[x]).length),.mp nx (nxM (jP (qK (qJ pre)) x.1 ((zK (qK (qJ pre)) x.1).getD []++[x.2])) (oT z.2 x.1 f1)),.blk M (ob [.map (some r)] 136),.gs (.slice pn (zC c).length cn) 9 1 (strs (zC c)),.blk bp (ob [.pointer (some ⟨bg,0,none⟩)] 66),.blk I (ob [.slice E c.datas.length c4,.slice F c.inputs.length g,.slice k c.funs.length j,.slice n c.outputs.length c22] 27)]) (q1v (qJ pre)) N
  refine if_tI J rfl ?_
  refine exitI ?_
  replace N:=N.dl [1]
  have R0:qJ (pre++[x])=qJ pre:=by rw [cP,if_pos (of_decide_eq_true h0)]
  refine ⟨rfl,z,?_⟩
  rw [R0];exact N
  exact (all1_ok A3 (fun pre z K0 w N=>let ⟨D0,h_⟩:=P2 pre z K0 w N;⟨_,_,_,h_.see1⟩) d Q0 i0 o.ps o.tidy o.fl G N).mono fun e_ w h=>let ⟨z,h1,_,h2⟩:=h;⟨_,z,h1,h2⟩
  replace N:Mem X (.blk g1 (ob [.pointer (some ⟨bg,0,none⟩)] 66)::.blk bg (ob [.slice E c.datas.length c4,.slice F c.inputs.length g,.slice k c.funs.length j,.slice n c.outputs.length c22,.slice pn (zC c).length cn,z.1,.map (some pm),.map (some nx),.nilFunc] 75)::.gs (z.1) 95 2 (zX (qJ (xW c)))::.blk r (.map (cE (qJ (xW c))) (qJ (xW c)).length)::.mp nx (nxM (qK (qJ (xW c))) z.2)::.blk M (ob [.map (some r)] 136)::.gs (.slice pn (zC c).length cn) 9 1 (strs (zC c))::.blk bp (ob [.pointer (some ⟨bg,0,none⟩)] 66)::.blk I (ob [.slice E c.datas.length c4,.slice F c.inputs.length g,.slice k c.funs.length j,.slice n c.outputs.length c22] 27)::vM (Dk::[])++nxK (qK (qJ (xW c))) z.2++K) w:=Mem.mid (A:=[.blk Dk (.deferred (some []))]) (B:=[.blk g1 (ob [.pointer (some ⟨bg,0,none⟩)] 66),.blk bg (ob [.slice E c.datas.length c4,.slice F c.inputs.length g,.slice k c.funs.length j,.slice n c.outputs.length c22,.slice pn (zC c).length cn,z.1,.map (some pm),.map (some nx),.nilFunc] 75),.gs (z.1) 95 2 (zX (qJ (xW c))),.blk r (.map (cE (qJ (xW c))) (qJ (xW c)).length),.mp nx (nxM (qK (qJ (xW c))) z.2),.blk M (ob [.map (some r)] 136),.gs (.slice pn (zC c).length cn) 9 1 (strs (zC c)),.blk bp (ob [.pointer (some ⟨bg,0,none⟩)] 66),.blk I (ob [.slice E c.datas.length c4,.slice F c.inputs.length g,.slice k c.funs.length j,.slice n c.outputs.length c22] 27)]) (C:=vM []++nxK (qK (qJ (xW c))) z.2++K) N
  refine go fun a J=>?_
  refine Sto 1 fun w N a J=>?_
  refine go fun a J=>?_
  replace N:=N.ar [8,7,5,3,0] [2,3,3,3]
  replace N:Mem X (vM (Dk::[])++(.blk bg (ob [.slice E c.datas.length c4,.slice F c.inputs.length g,.slice k c.funs.length j,.slice n c.outputs.length c22,.slice pn (zC c).length cn,z.1,.map (some pm),.map (some nx),.func (.func 67) #[.pointer (some ⟨bg,0,none⟩)] #[]] 75)::.gs (z.1) 95 2 (zX (qJ (xW c)))::.gs (.slice pn (zC c).length cn) 9 1 (strs (zC c))::.mp nx (nxM (qK (qJ (xW c))) z.2)::nxK (qK (qJ (xW c))) z.2++K)) w:=Mem.mid (A:=[.blk bg (ob [.slice E c.datas.length c4,.slice F c.inputs.length g,.slice k c.funs.length j,.slice n c.outputs.length c22,.slice pn (zC c).length cn,z.1,.map (some pm),.map (some nx),.func (.func 67) #[.pointer (some ⟨bg,0,none⟩)] #[]] 75),.gs (z.1) 95 2 (zX (qJ (xW c))),.gs (.slice pn (zC c).length cn) 9 1 (strs (zC c)),.mp nx (nxM (qK (qJ (xW c))) z.2)]) (B:=vM (Dk::[])) (C:=nxK (qK (qJ (xW c))) z.2++K) N
  refine hQ _ _ _ (retX2 (ds:=(Dk::[])) J results41 rfl rfl N fun w N=>?_)
  obtain ⟨U4,l1,N,r1⟩:=N.freezeRow (i:=1) rfl
  obtain ⟨V4,l2,N,r2⟩:=N.freezeRow (i:=1) rfl
  obtain ⟨W4,l3,N,r3⟩:=N.freezeMap (i:=1) rfl
  obtain ⟨X4,l4,N,r4⟩:=N.freezeBlk (i:=0) rfl
  obtain ⟨E3,l5,N,r5⟩:=q0k N
  rw [x6z P0]
  refine ⟨(E3,⟨bg,0,none⟩),rfl,⟨(S).trans (l1.trans (l2.trans (l3.trans (l4.trans l5)))),[.slice E c.datas.length c4,.slice F c.inputs.length g,.slice k c.funs.length j,.slice n c.outputs.length c22],_,_,_,_,_,r4.mono l5,RCore.mono _ _ _ _ (l1.trans (l2.trans (l3.trans (l4.trans l5)))) d,(SliceOf.strs.2 r2).mono RStr.mono (l3.trans (l4.trans l5)),(j9d r1).mono RFlow.mono (l2.trans (l3.trans (l4.trans l5))),r3.mono (l4.trans l5),r5⟩,N⟩
 refine q4v [2,2,0,0,0,1,0,0,0] (.q 0 (.q 1 (.e4 2 3 4 7 (.e3 3 4 7 (.pl (.e2 4 7 (.q 5 (.e2 6 7 (.e 7 (.e 8 (.done))) (.e 6 (.e 8 (.done))))) (.e 4 (.q 5 (.e 6 (.e 8 (.done))))))) (.pl (.e2 3 7 (.q 5 (.e2 6 7 (.e 7 (.e 8 (.done))) (.e 6 (.e 8 (.done))))) (.e 3 (.q 5 (.e 6 (.e 8 (.done))))))) (.pl (.e2 3 4 (.e 4 (.q 5 (.e 6 (.e 8 (.done))))) (.e 3 (.q 5 (.e 6 (.e 8 (.done)))))))) (.e3 2 4 7 (.pl (.e2 4 7 (.q 5 (.e2 6 7 (.e 7 (.e 8 (.done))) (.e 6 (.e 8 (.done))))) (.e 4 (.q 5 (.e 6 (.e 8 (.done))))))) (.pl (.e2 2 7 (.q 5 (.e2 6 7 (.e 7 (.e 8 (.done))) (.e 6 (.e 8 (.done))))) (.e 2 (.q 5 (.e 6 (.e 8 (.done))))))) (.pl (.e2 2 4 (.e 4 (.q 5 (.e 6 (.e 8 (.done))))) (.e 2 (.q 5 (.e 6 (.e 8 (.done)))))))) (.e3 2 3 7 (.pl (.e2 3 7 (.q 5 (.e2 6 7 (.e 7 (.e 8 (.done))) (.e 6 (.e 8 (.done))))) (.e 3 (.q 5 (.e 6 (.e 8 (.done))))))) (.pl (.e2 2 7 (.q 5 (.e2 6 7 (.e 7 (.e 8 (.done))) (.e 6 (.e 8 (.done))))) (.e 2 (.q 5 (.e 6 (.e 8 (.done))))))) (.pl (.e2 2 3 (.e 3 (.q 5 (.e 6 (.e 8 (.done))))) (.e 2 (.q 5 (.e 6 (.e 8 (.done)))))))) (.e3 2 3 4 (.pl (.e2 3 4 (.e 4 (.q 5 (.e 6 (.e 8 (.done))))) (.e 3 (.q 5 (.e 6 (.e 8 (.done))))))) (.pl (.e2 2 4 (.e 4 (.q 5 (.e 6 (.e 8 (.done))))) (.e 2 (.q 5 (.e 6 (.e 8 (.done))))))) (.pl (.e2 2 3 (.e 3 (.q 5 (.e 6 (.e 8 (.done))))) (.e 2 (.q 5 (.e 6 (.e 8 (.done))))))))))) [.blk I (ob [.slice E c.datas.length c4,.slice F c.inputs.length g,.slice k c.funs.length j,.slice n c.outputs.length c22] 27)] J N mixed (by kernel_rfl) (by simp) fun w N=>?_
 refine t_q (drOp_q J rfl rfl (fun w O=>vS 0 (vs:=[.slice E c.datas.length c4,.slice F c.inputs.length g,.slice k c.funs.length j,.slice n c.outputs.length c22]) J O rfl rfl isAgg27 sizeOf27 rfl rfl) rfl fun a J=>?_)
 refine t_q (drOp_q J rfl rfl (fun w O=>vS 0 (vs:=[.slice E c.datas.length c4,.slice F c.inputs.length g,.slice k c.funs.length j,.slice n c.outputs.length c22]) J O rfl rfl isAgg27 sizeOf27 rfl rfl) rfl fun a J=>?_)
 refine t_e4 ?_ ?_ ?_ ?_
 refine mF J rfl rfl rfl (jG J rfl call37 (vC d G o.tidy o.nl N) (fun T4 w H3 N=>⟨fun _=>N.sn (Fz.Le.refl _),fun a J=>?_⟩))
 obtain ⟨H,D,rfl⟩:=jW N (i:=0) rfl
 replace N:=N.nf
 refine t_e3 ?_ ?_ ?_
 refine mF J rfl rfl rfl (yD N fun Y w N=>⟨fun _=>N.sn (Fz.Le.refl _),fun a J=>?_⟩)
 refine y2j ?_
 refine gW ?_ ?_
 refine d_e J rfl rfl rfl (yD N fun p0 w N=>⟨fun _=>N.sn (Fz.Le.refl _),fun a J=>?_⟩)
 refine mP fun a J=>?_
 refine gW ?_ ?_
 refine d_e J rfl rfl rfl (jA J N rfl rfl fun j1 w N=>⟨fun _=>N.sn (Fz.Le.refl _),fun a J=>?_⟩)
 refine d_e J rfl rfl rfl (yT N zeroValue66 rfl fun k1 w N=>⟨fun _=>N.sn (Fz.Le.refl _),fun a J=>?_⟩)
 refine wA J rfl rfl (yA 0 J N rfl rfl rfl rfl sizeOf66 rfl rfl rfl fun w N=>⟨yJ (by kernel_rfl),fun a J=>?_⟩)
 replace N:=N.nf
 refine go fun a J=>?_
 replace N:=N.ar [] [5,1,3,4,5,5]
 exact b _ _ ⟨j1,k1,Y,p0,H,D,J.pk,N,trivial⟩
 refine d_e J rfl rfl rfl (yT N zeroValue66 rfl fun m1 w N=>⟨fun _=>N.sn (Fz.Le.refl _),fun a J=>?_⟩)
 refine d_e J rfl rfl rfl (jA J N rfl rfl fun n1 w N=>⟨fun _=>N.sn (Fz.Le.refl _),fun a J=>?_⟩)
 refine wA J rfl rfl (yA 1 J N rfl rfl rfl rfl sizeOf66 rfl rfl rfl fun w N=>⟨yJ (by kernel_rfl),fun a J=>?_⟩)
 replace N:=N.nf
 refine go fun a J=>?_
 replace N:=N.ar [] [5,2,3,4,5,5]
 exact b _ _ ⟨n1,m1,Y,p0,H,D,J.pk,N,trivial⟩
 refine d_e J rfl rfl rfl (yT N zeroValue66 rfl fun o1 w N=>⟨fun _=>N.sn (Fz.Le.refl _),fun a J=>?_⟩)
 refine d_e J rfl rfl rfl (yD N fun p1 w N=>⟨fun _=>N.sn (Fz.Le.refl _),fun a J=>?_⟩)
 refine mP fun a J=>?_
 refine d_e J rfl rfl rfl (jA J N rfl rfl fun q1 w N=>⟨fun _=>N.sn (Fz.Le.refl _),fun a J=>?_⟩)
 refine wA J rfl rfl (yA 2 J N rfl rfl rfl rfl sizeOf66 rfl rfl rfl fun w N=>⟨yJ (by kernel_rfl),fun a J=>?_⟩)
 replace N:=N.nf
 refine go fun a J=>?_
 replace N:=N.ar [] [5,3,3,4,5,5]
 exact b _ _ ⟨q1,o1,Y,p1,H,D,J.pk,N,trivial⟩
 refine mF J rfl rfl rfl (yD N fun Z w N=>⟨fun _=>N.sn (Fz.Le.refl _),fun a J=>?_⟩)
 refine y2j ?_
 refine gW ?_ ?_
 refine d_e J rfl rfl rfl (yD N fun q0 w N=>⟨fun _=>N.sn (Fz.Le.refl _),fun a J=>?_⟩)
 refine mP fun a J=>?_
 refine gW ?_ ?_
 refine d_e J rfl rfl rfl (jA J N rfl rfl fun s1 w N=>⟨fun _=>N.sn (Fz.Le.refl _),fun a J=>?_⟩)
 refine d_e J rfl rfl rfl (yT N zeroValue66 rfl fun t1 w N=>⟨fun _=>N.sn (Fz.Le.refl _),fun a J=>?_⟩)
 refine wA J rfl rfl (yA 0 J N rfl rfl rfl rfl sizeOf66 rfl rfl rfl fun w N=>⟨yJ (by kernel_rfl),fun a J=>?_⟩)
 replace N:=N.nf
 refine go fun a J=>?_
 replace N:=N.ar [] [5,1,4,4,5,5]
 exact b _ _ ⟨s1,t1,q0,Z,H,D,J.pk,N,trivial⟩
 refine d_e J rfl rfl rfl (yT N zeroValue66 rfl fun u1 w N=>⟨fun _=>N.sn (Fz.Le.refl _),fun a J=>?_⟩)
 refine d_e J rfl rfl rfl (jA J N rfl rfl fun v1 w N=>⟨fun _=>N.sn (Fz.Le.refl _),fun a J=>?_⟩)
 refine wA J rfl rfl (yA 1 J N rfl rfl rfl rfl sizeOf66 rfl rfl rfl fun w N=>⟨yJ (by kernel_rfl),fun a J=>?_⟩)
 replace N:=N.nf
 refine go fun a J=>?_
 replace N:=N.ar [] [5,2,4,4,5,5]
 exact b _ _ ⟨v1,u1,q0,Z,H,D,J.pk,N,trivial⟩
 refine d_e J rfl rfl rfl (yT N zeroValue66 rfl fun w1 w N=>⟨fun _=>N.sn (Fz.Le.refl _),fun a J=>?_⟩)
 refine d_e J rfl rfl rfl (yD N fun x1 w N=>⟨fun _=>N.sn (Fz.Le.refl _),fun a J=>?_⟩)
 refine mP fun a J=>?_
 refine d_e J rfl rfl rfl (jA J N rfl rfl fun y1 w N=>⟨fun _=>N.sn (Fz.Le.refl _),fun a J=>?_⟩)
 refine wA J rfl rfl (yA 2 J N rfl rfl rfl rfl sizeOf66 rfl rfl rfl fun w N=>⟨yJ (by kernel_rfl),fun a J=>?_⟩)
 replace N:=N.nf
 refine go fun a J=>?_
 replace N:=N.ar [] [5,3,4,4,5,5]
 exact b _ _ ⟨y1,w1,x1,Z,H,D,J.pk,N,trivial⟩
 refine mF J rfl rfl rfl (yT N zeroValue66 rfl fun r0 w N=>⟨fun _=>N.sn (Fz.Le.refl _),fun a J=>?_⟩)
 refine y2j ?_
 refine gW ?_ ?_
 refine d_e J rfl rfl rfl (yD N fun z1 w N=>⟨fun _=>N.sn (Fz.Le.refl _),fun a J=>?_⟩)
 refine d_e J rfl rfl rfl (yD N fun A1 w N=>⟨fun _=>N.sn (Fz.Le.refl _),fun a J=>?_⟩)
 refine mP fun a J=>?_
 refine d_e J rfl rfl rfl (jA J N rfl rfl fun B1 w N=>⟨fun _=>N.sn (Fz.Le.refl _),fun a J=>?_⟩)
 refine wA J rfl rfl (yA 3 J N rfl rfl rfl rfl sizeOf66 rfl rfl rfl fun w N=>⟨yJ (by kernel_rfl),fun a J=>?_⟩)
 replace N:=N.nf
 refine go fun a J=>?_
 replace N:=N.ar [] [5,4,3,4,5,5]
 exact b _ _ ⟨B1,r0,z1,A1,H,D,J.pk,N,trivial⟩
 refine d_e J rfl rfl rfl (yD N fun C1 w N=>⟨fun _=>N.sn (Fz.Le.refl _),fun a J=>?_⟩)
 refine d_e J rfl rfl rfl (yD N fun D1 w N=>⟨fun _=>N.sn (Fz.Le.refl _),fun a J=>?_⟩)
 refine mP fun a J=>?_
 refine d_e J rfl rfl rfl (jA J N rfl rfl fun E1 w N=>⟨fun _=>N.sn (Fz.Le.refl _),fun a J=>?_⟩)
 refine wA J rfl rfl (yA 3 J N rfl rfl rfl rfl sizeOf66 rfl rfl rfl fun w N=>⟨yJ (by kernel_rfl),fun a J=>?_⟩)
 replace N:=N.nf
 refine go fun a J=>?_
 replace N:=N.ar [] [5,4,4,4,5,5]
 exact b _ _ ⟨E1,r0,D1,C1,H,D,J.pk,N,trivial⟩
 refine mF J rfl rfl rfl (yD N fun t w N=>⟨fun _=>N.sn (Fz.Le.refl _),fun a J=>?_⟩)
 refine t_e3 ?_ ?_ ?_
 refine mF J rfl rfl rfl (jG J rfl call37 (vC d G o.tidy o.nl N) (fun Y3 w g3 N=>⟨fun _=>N.sn (Fz.Le.refl _),fun a J=>?_⟩))
 obtain ⟨V,T,rfl⟩:=jW N (i:=0) rfl
 replace N:=N.nf
 refine y2j ?_
 refine gW ?_ ?_
 refine d_e J rfl rfl rfl (yD N fun s0 w N=>⟨fun _=>N.sn (Fz.Le.refl _),fun a J=>?_⟩)
 refine mP fun a J=>?_
 refine gW ?_ ?_
 refine d_e J rfl rfl rfl (jA J N rfl rfl fun F1 w N=>⟨fun _=>N.sn (Fz.Le.refl _),fun a J=>?_⟩)
 refine d_e J rfl rfl rfl (yT N zeroValue66 rfl fun G1 w N=>⟨fun _=>N.sn (Fz.Le.refl _),fun a J=>?_⟩)
 refine wA J rfl rfl (yA 0 J N rfl rfl rfl rfl sizeOf66 rfl rfl rfl fun w N=>⟨yJ (by kernel_rfl),fun a J=>?_⟩)
 replace N:=N.nf
 refine go fun a J=>?_
 replace N:=N.ar [] [5,1,3,5,5,5]
 exact b _ _ ⟨F1,G1,t,s0,V,T,J.pk,N,trivial⟩
 refine d_e J rfl rfl rfl (yT N zeroValue66 rfl fun H1 w N=>⟨fun _=>N.sn (Fz.Le.refl _),fun a J=>?_⟩)
 refine d_e J rfl rfl rfl (jA J N rfl rfl fun I1 w N=>⟨fun _=>N.sn (Fz.Le.refl _),fun a J=>?_⟩)
 refine wA J rfl rfl (yA 1 J N rfl rfl rfl rfl sizeOf66 rfl rfl rfl fun w N=>⟨yJ (by kernel_rfl),fun a J=>?_⟩)
 replace N:=N.nf
 refine go fun a J=>?_
 replace N:=N.ar [] [5,2,3,5,5,5]
 exact b _ _ ⟨I1,H1,t,s0,V,T,J.pk,N,trivial⟩
 refine d_e J rfl rfl rfl (yT N zeroValue66 rfl fun J1 w N=>⟨fun _=>N.sn (Fz.Le.refl _),fun a J=>?_⟩)
 refine d_e J rfl rfl rfl (yD N fun K1 w N=>⟨fun _=>N.sn (Fz.Le.refl _),fun a J=>?_⟩)
 refine mP fun a J=>?_
 refine d_e J rfl rfl rfl (jA J N rfl rfl fun L1 w N=>⟨fun _=>N.sn (Fz.Le.refl _),fun a J=>?_⟩)
 refine wA J rfl rfl (yA 2 J N rfl rfl rfl rfl sizeOf66 rfl rfl rfl fun w N=>⟨yJ (by kernel_rfl),fun a J=>?_⟩)
 replace N:=N.nf
 refine go fun a J=>?_
 replace N:=N.ar [] [5,3,3,5,5,5]
 exact b _ _ ⟨L1,J1,t,K1,V,T,J.pk,N,trivial⟩
 refine mF J rfl rfl rfl (yD N fun a0 w N=>⟨fun _=>N.sn (Fz.Le.refl _),fun a J=>?_⟩)
 refine y2j ?_
 refine gW ?_ ?_
 refine d_e J rfl rfl rfl (jG J rfl call37 (vC d G o.tidy o.nl N) (fun Z3 w h3 N=>⟨fun _=>N.sn (Fz.Le.refl _),fun a J=>?_⟩))
 obtain ⟨j0,e0,rfl⟩:=jW N (i:=0) rfl
 replace N:=N.nf
 refine mP fun a J=>?_
 refine gW ?_ ?_
 refine d_e J rfl rfl rfl (jA J N rfl rfl fun M1 w N=>⟨fun _=>N.sn (Fz.Le.refl _),fun a J=>?_⟩)
 refine d_e J rfl rfl rfl (yT N zeroValue66 rfl fun N1 w N=>⟨fun _=>N.sn (Fz.Le.refl _),fun a J=>?_⟩)
 refine wA J rfl rfl (yA 0 J N rfl rfl rfl rfl sizeOf66 rfl rfl rfl fun w N=>⟨yJ (by kernel_rfl),fun a J=>?_⟩)
 replace N:=N.nf
 refine go fun a J=>?_
 replace N:=N.ar [] [5,1,4,5,5,5]
 exact b _ _ ⟨M1,N1,t,a0,j0,e0,J.pk,N,trivial⟩
 refine d_e J rfl rfl rfl (yT N zeroValue66 rfl fun O1 w N=>⟨fun _=>N.sn (Fz.Le.refl _),fun a J=>?_⟩)
 refine d_e J rfl rfl rfl (jA J N rfl rfl fun P1 w N=>⟨fun _=>N.sn (Fz.Le.refl _),fun a J=>?_⟩)
 refine wA J rfl rfl (yA 1 J N rfl rfl rfl rfl sizeOf66 rfl rfl rfl fun w N=>⟨yJ (by kernel_rfl),fun a J=>?_⟩)
 replace N:=N.nf
 refine go fun a J=>?_
 replace N:=N.ar [] [5,2,4,5,5,5]
 exact b _ _ ⟨P1,O1,t,a0,j0,e0,J.pk,N,trivial⟩
 refine d_e J rfl rfl rfl (yT N zeroValue66 rfl fun Q1 w N=>⟨fun _=>N.sn (Fz.Le.refl _),fun a J=>?_⟩)
 refine d_e J rfl rfl rfl (jG J rfl call37 (vC d G o.tidy o.nl N) (fun a4 w i3 N=>⟨fun _=>N.sn (Fz.Le.refl _),fun a J=>?_⟩))
 obtain ⟨T0,E0,rfl⟩:=jW N (i:=0) rfl
 replace N:=N.nf
 refine mP fun a J=>?_
 refine d_e J rfl rfl rfl (jA J N rfl rfl fun R1 w N=>⟨fun _=>N.sn (Fz.Le.refl _),fun a J=>?_⟩)
 refine wA J rfl rfl (yA 2 J N rfl rfl rfl rfl sizeOf66 rfl rfl rfl fun w N=>⟨yJ (by kernel_rfl),fun a J=>?_⟩)
 replace N:=N.nf
 refine go fun a J=>?_
 replace N:=N.ar [] [5,3,4,5,5,5]
 exact b _ _ ⟨R1,Q1,t,a0,T0,E0,J.pk,N,trivial⟩
 refine mF J rfl rfl rfl (yT N zeroValue66 rfl fun t0 w N=>⟨fun _=>N.sn (Fz.Le.refl _),fun a J=>?_⟩)
 refine y2j ?_
 refine gW ?_ ?_
 refine d_e J rfl rfl rfl (jG J rfl call37 (vC d G o.tidy o.nl N) (fun b4 w j3 N=>⟨fun _=>N.sn (Fz.Le.refl _),fun a J=>?_⟩))
 obtain ⟨U0,F0,rfl⟩:=jW N (i:=0) rfl
 replace N:=N.nf
 refine d_e J rfl rfl rfl (yD N fun S1 w N=>⟨fun _=>N.sn (Fz.Le.refl _),fun a J=>?_⟩)
 refine mP fun a J=>?_
 refine d_e J rfl rfl rfl (jA J N rfl rfl fun T1 w N=>⟨fun _=>N.sn (Fz.Le.refl _),fun a J=>?_⟩)
 refine wA J rfl rfl (yA 3 J N rfl rfl rfl rfl sizeOf66 rfl rfl rfl fun w N=>⟨yJ (by kernel_rfl),fun a J=>?_⟩)
 replace N:=N.nf
 refine go fun a J=>?_
 replace N:=N.ar [] [5,4,3,5,5,5]
 exact b _ _ ⟨T1,t0,t,S1,U0,F0,J.pk,N,trivial⟩
 refine d_e J rfl rfl rfl (yD N fun U1 w N=>⟨fun _=>N.sn (Fz.Le.refl _),fun a J=>?_⟩)
 refine d_e J rfl rfl rfl (jG J rfl call37 (vC d G o.tidy o.nl N) (fun d4 w k3 N=>⟨fun _=>N.sn (Fz.Le.refl _),fun a J=>?_⟩))
 obtain ⟨V0,G0,rfl⟩:=jW N (i:=0) rfl
 replace N:=N.nf
 refine mP fun a J=>?_
 refine d_e J rfl rfl rfl (jA J N rfl rfl fun V1 w N=>⟨fun _=>N.sn (Fz.Le.refl _),fun a J=>?_⟩)
 refine wA J rfl rfl (yA 3 J N rfl rfl rfl rfl sizeOf66 rfl rfl rfl fun w N=>⟨yJ (by kernel_rfl),fun a J=>?_⟩)
 replace N:=N.nf
 refine go fun a J=>?_
 replace N:=N.ar [] [5,4,4,5,5,5]
 exact b _ _ ⟨V1,t0,t,U1,V0,G0,J.pk,N,trivial⟩
 refine mF J rfl rfl rfl (yD N fun u w N=>⟨fun _=>N.sn (Fz.Le.refl _),fun a J=>?_⟩)
 refine t_e3 ?_ ?_ ?_
 refine mF J rfl rfl rfl (jG J rfl call37 (vC d G o.tidy o.nl N) (fun f4 w m3 N=>⟨fun _=>N.sn (Fz.Le.refl _),fun a J=>?_⟩))
 obtain ⟨W,U,rfl⟩:=jW N (i:=0) rfl
 replace N:=N.nf
 refine y2j ?_
 refine gW ?_ ?_
 refine d_e J rfl rfl rfl (yD N fun u0 w N=>⟨fun _=>N.sn (Fz.Le.refl _),fun a J=>?_⟩)
 refine mP fun a J=>?_
 refine gW ?_ ?_
 refine d_e J rfl rfl rfl (jA J N rfl rfl fun W1 w N=>⟨fun _=>N.sn (Fz.Le.refl _),fun a J=>?_⟩)
 refine d_e J rfl rfl rfl (yT N zeroValue66 rfl fun X1 w N=>⟨fun _=>N.sn (Fz.Le.refl _),fun a J=>?_⟩)
 refine wA J rfl rfl (yA 0 J N rfl rfl rfl rfl sizeOf66 rfl rfl rfl fun w N=>⟨yJ (by kernel_rfl),fun a J=>?_⟩)
 replace N:=N.nf
 refine go fun a J=>?_
 replace N:=N.ar [] [5,1,5,4,5,5]
 exact b _ _ ⟨W1,X1,u0,u,W,U,J.pk,N,trivial⟩
 refine d_e J rfl rfl rfl (yT N zeroValue66 rfl fun Y1 w N=>⟨fun _=>N.sn (Fz.Le.refl _),fun a J=>?_⟩)
 refine d_e J rfl rfl rfl (jA J N rfl rfl fun Z1 w N=>⟨fun _=>N.sn (Fz.Le.refl _),fun a J=>?_⟩)
 refine wA J rfl rfl (yA 1 J N rfl rfl rfl rfl sizeOf66 rfl rfl rfl fun w N=>⟨yJ (by kernel_rfl),fun a J=>?_⟩)
 replace N:=N.nf
 refine go fun a J=>?_
 replace N:=N.ar [] [5,2,5,4,5,5]
 exact b _ _ ⟨Z1,Y1,u0,u,W,U,J.pk,N,trivial⟩
 refine d_e J rfl rfl rfl (yT N zeroValue66 rfl fun a2 w N=>⟨fun _=>N.sn (Fz.Le.refl _),fun a J=>?_⟩)
 refine d_e J rfl rfl rfl (yD N fun b2 w N=>⟨fun _=>N.sn (Fz.Le.refl _),fun a J=>?_⟩)
 refine mP fun a J=>?_
 refine d_e J rfl rfl rfl (jA J N rfl rfl fun c2 w N=>⟨fun _=>N.sn (Fz.Le.refl _),fun a J=>?_⟩)
 refine wA J rfl rfl (yA 2 J N rfl rfl rfl rfl sizeOf66 rfl rfl rfl fun w N=>⟨yJ (by kernel_rfl),fun a J=>?_⟩)
 replace N:=N.nf
 refine go fun a J=>?_
 replace N:=N.ar [] [5,3,5,4,5,5]
 exact b _ _ ⟨c2,a2,b2,u,W,U,J.pk,N,trivial⟩
 refine mF J rfl rfl rfl (yD N fun b0 w N=>⟨fun _=>N.sn (Fz.Le.refl _),fun a J=>?_⟩)
 refine y2j ?_
 refine gW ?_ ?_
 refine d_e J rfl rfl rfl (jG J rfl call37 (vC d G o.tidy o.nl N) (fun g4 w n3 N=>⟨fun _=>N.sn (Fz.Le.refl _),fun a J=>?_⟩))
 obtain ⟨k0,f0,rfl⟩:=jW N (i:=0) rfl
 replace N:=N.nf
 refine mP fun a J=>?_
 refine gW ?_ ?_
 refine d_e J rfl rfl rfl (jA J N rfl rfl fun d2 w N=>⟨fun _=>N.sn (Fz.Le.refl _),fun a J=>?_⟩)
 refine d_e J rfl rfl rfl (yT N zeroValue66 rfl fun f2 w N=>⟨fun _=>N.sn (Fz.Le.refl _),fun a J=>?_⟩)
 refine wA J rfl rfl (yA 0 J N rfl rfl rfl rfl sizeOf66 rfl rfl rfl fun w N=>⟨yJ (by kernel_rfl),fun a J=>?_⟩)
 replace N:=N.nf
 refine go fun a J=>?_
 replace N:=N.ar [] [5,1,5,5,5,5]
 exact b _ _ ⟨d2,f2,b0,u,k0,f0,J.pk,N,trivial⟩
 refine d_e J rfl rfl rfl (yT N zeroValue66 rfl fun g2 w N=>⟨fun _=>N.sn (Fz.Le.refl _),fun a J=>?_⟩)
 refine d_e J rfl rfl rfl (jA J N rfl rfl fun i2 w N=>⟨fun _=>N.sn (Fz.Le.refl _),fun a J=>?_⟩)
 refine wA J rfl rfl (yA 1 J N rfl rfl rfl rfl sizeOf66 rfl rfl rfl fun w N=>⟨yJ (by kernel_rfl),fun a J=>?_⟩)
 replace N:=N.nf
 refine go fun a J=>?_
 replace N:=N.ar [] [5,2,5,5,5,5]
 exact b _ _ ⟨i2,g2,b0,u,k0,f0,J.pk,N,trivial⟩
 refine d_e J rfl rfl rfl (yT N zeroValue66 rfl fun j2 w N=>⟨fun _=>N.sn (Fz.Le.refl _),fun a J=>?_⟩)
 refine d_e J rfl rfl rfl (jG J rfl call37 (vC d G o.tidy o.nl N) (fun h4 w o3 N=>⟨fun _=>N.sn (Fz.Le.refl _),fun a J=>?_⟩))
 obtain ⟨W0,H0,rfl⟩:=jW N (i:=0) rfl
 replace N:=N.nf
 refine mP fun a J=>?_
 refine d_e J rfl rfl rfl (jA J N rfl rfl fun k2 w N=>⟨fun _=>N.sn (Fz.Le.refl _),fun a J=>?_⟩)
 refine wA J rfl rfl (yA 2 J N rfl rfl rfl rfl sizeOf66 rfl rfl rfl fun w N=>⟨yJ (by kernel_rfl),fun a J=>?_⟩)
 replace N:=N.nf
 refine go fun a J=>?_
 replace N:=N.ar [] [5,3,5,5,5,5]
 exact b _ _ ⟨k2,j2,b0,u,W0,H0,J.pk,N,trivial⟩
 refine mF J rfl rfl rfl (yT N zeroValue66 rfl fun w0 w N=>⟨fun _=>N.sn (Fz.Le.refl _),fun a J=>?_⟩)
 refine y2j ?_
 refine gW ?_ ?_
 refine d_e J rfl rfl rfl (jG J rfl call37 (vC d G o.tidy o.nl N) (fun i4 w q3 N=>⟨fun _=>N.sn (Fz.Le.refl _),fun a J=>?_⟩))
 obtain ⟨X0,I0,rfl⟩:=jW N (i:=0) rfl
 replace N:=N.nf
 refine d_e J rfl rfl rfl (yD N fun m2 w N=>⟨fun _=>N.sn (Fz.Le.refl _),fun a J=>?_⟩)
 refine mP fun a J=>?_
 refine d_e J rfl rfl rfl (jA J N rfl rfl fun n2 w N=>⟨fun _=>N.sn (Fz.Le.refl _),fun a J=>?_⟩)
 refine wA J rfl rfl (yA 3 J N rfl rfl rfl rfl sizeOf66 rfl rfl rfl fun w N=>⟨yJ (by kernel_rfl),fun a J=>?_⟩)
 replace N:=N.nf
 refine go fun a J=>?_
 replace N:=N.ar [] [5,4,5,4,5,5]
 exact b _ _ ⟨n2,w0,m2,u,X0,I0,J.pk,N,trivial⟩
 refine d_e J rfl rfl rfl (yD N fun o2 w N=>⟨fun _=>N.sn (Fz.Le.refl _),fun a J=>?_⟩)
 refine d_e J rfl rfl rfl (jG J rfl call37 (vC d G o.tidy o.nl N) (fun j4 w s3 N=>⟨fun _=>N.sn (Fz.Le.refl _),fun a J=>?_⟩))
 obtain ⟨Y0,J0,rfl⟩:=jW N (i:=0) rfl
 replace N:=N.nf
 refine mP fun a J=>?_
 refine d_e J rfl rfl rfl (jA J N rfl rfl fun p2 w N=>⟨fun _=>N.sn (Fz.Le.refl _),fun a J=>?_⟩)
 refine wA J rfl rfl (yA 3 J N rfl rfl rfl rfl sizeOf66 rfl rfl rfl fun w N=>⟨yJ (by kernel_rfl),fun a J=>?_⟩)
 replace N:=N.nf
 refine go fun a J=>?_
 replace N:=N.ar [] [5,4,5,5,5,5]
 exact b _ _ ⟨p2,w0,o2,u,Y0,J0,J.pk,N,trivial⟩
 refine mF J rfl rfl rfl (yT N zeroValue66 rfl fun L w N=>⟨fun _=>N.sn (Fz.Le.refl _),fun a J=>?_⟩)
 refine t_e3 ?_ ?_ ?_
 refine mF J rfl rfl rfl (jG J rfl call37 (vC d G o.tidy o.nl N) (fun k4 w t3 N=>⟨fun _=>N.sn (Fz.Le.refl _),fun a J=>?_⟩))
 obtain ⟨l0,g0,rfl⟩:=jW N (i:=0) rfl
 replace N:=N.nf
 refine y2j ?_
 refine gW ?_ ?_
 refine d_e J rfl rfl rfl (yD N fun q2 w N=>⟨fun _=>N.sn (Fz.Le.refl _),fun a J=>?_⟩)
 refine d_e J rfl rfl rfl (yD N fun s2 w N=>⟨fun _=>N.sn (Fz.Le.refl _),fun a J=>?_⟩)
 refine mP fun a J=>?_
 refine d_e J rfl rfl rfl (jA J N rfl rfl fun t2 w N=>⟨fun _=>N.sn (Fz.Le.refl _),fun a J=>?_⟩)
 refine wA J rfl rfl (yA 4 J N rfl rfl rfl rfl sizeOf66 rfl rfl rfl fun w N=>⟨yJ (by kernel_rfl),fun a J=>?_⟩)
 replace N:=N.nf
 refine go fun a J=>?_
 replace N:=N.ar [] [5,5,3,4,5,5]
 exact b _ _ ⟨t2,L,q2,s2,l0,g0,J.pk,N,trivial⟩
 refine d_e J rfl rfl rfl (yD N fun u2 w N=>⟨fun _=>N.sn (Fz.Le.refl _),fun a J=>?_⟩)
 refine d_e J rfl rfl rfl (yD N fun v2 w N=>⟨fun _=>N.sn (Fz.Le.refl _),fun a J=>?_⟩)
 refine mP fun a J=>?_
 refine d_e J rfl rfl rfl (jA J N rfl rfl fun w2 w N=>⟨fun _=>N.sn (Fz.Le.refl _),fun a J=>?_⟩)
 refine wA J rfl rfl (yA 4 J N rfl rfl rfl rfl sizeOf66 rfl rfl rfl fun w N=>⟨yJ (by kernel_rfl),fun a J=>?_⟩)
 replace N:=N.nf
 refine go fun a J=>?_
 replace N:=N.ar [] [5,5,4,4,5,5]
 exact b _ _ ⟨w2,L,v2,u2,l0,g0,J.pk,N,trivial⟩
 refine mF J rfl rfl rfl (yD N fun x0 w N=>⟨fun _=>N.sn (Fz.Le.refl _),fun a J=>?_⟩)
 refine y2j ?_
 refine gW ?_ ?_
 refine d_e J rfl rfl rfl (jG J rfl call37 (vC d G o.tidy o.nl N) (fun m4 w u3 N=>⟨fun _=>N.sn (Fz.Le.refl _),fun a J=>?_⟩))
 obtain ⟨Z0,L0,rfl⟩:=jW N (i:=0) rfl
 replace N:=N.nf
 refine d_e J rfl rfl rfl (yD N fun x2 w N=>⟨fun _=>N.sn (Fz.Le.refl _),fun a J=>?_⟩)
 refine mP fun a J=>?_
 refine d_e J rfl rfl rfl (jA J N rfl rfl fun y2 w N=>⟨fun _=>N.sn (Fz.Le.refl _),fun a J=>?_⟩)
 refine wA J rfl rfl (yA 4 J N rfl rfl rfl rfl sizeOf66 rfl rfl rfl fun w N=>⟨yJ (by kernel_rfl),fun a J=>?_⟩)
 replace N:=N.nf
 refine go fun a J=>?_
 replace N:=N.ar [] [5,5,3,5,5,5]
 exact b _ _ ⟨y2,L,x0,x2,Z0,L0,J.pk,N,trivial⟩
 refine d_e J rfl rfl rfl (yD N fun z2 w N=>⟨fun _=>N.sn (Fz.Le.refl _),fun a J=>?_⟩)
 refine d_e J rfl rfl rfl (jG J rfl call37 (vC d G o.tidy o.nl N) (fun n4 w v3 N=>⟨fun _=>N.sn (Fz.Le.refl _),fun a J=>?_⟩))
 obtain ⟨a1,M0,rfl⟩:=jW N (i:=0) rfl
 replace N:=N.nf
 refine mP fun a J=>?_
 refine d_e J rfl rfl rfl (jA J N rfl rfl fun A2 w N=>⟨fun _=>N.sn (Fz.Le.refl _),fun a J=>?_⟩)
 refine wA J rfl rfl (yA 4 J N rfl rfl rfl rfl sizeOf66 rfl rfl rfl fun w N=>⟨yJ (by kernel_rfl),fun a J=>?_⟩)
 replace N:=N.nf
 refine go fun a J=>?_
 replace N:=N.ar [] [5,5,4,5,5,5]
 exact b _ _ ⟨A2,L,x0,z2,a1,M0,J.pk,N,trivial⟩
 refine mF J rfl rfl rfl (yD N fun y0 w N=>⟨fun _=>N.sn (Fz.Le.refl _),fun a J=>?_⟩)
 refine y2j ?_
 refine gW ?_ ?_
 refine d_e J rfl rfl rfl (jG J rfl call37 (vC d G o.tidy o.nl N) (fun o4 w w3 N=>⟨fun _=>N.sn (Fz.Le.refl _),fun a J=>?_⟩))
 obtain ⟨b1,N0,rfl⟩:=jW N (i:=0) rfl
 replace N:=N.nf
 refine d_e J rfl rfl rfl (yD N fun B2 w N=>⟨fun _=>N.sn (Fz.Le.refl _),fun a J=>?_⟩)
 refine mP fun a J=>?_
 refine d_e J rfl rfl rfl (jA J N rfl rfl fun C2 w N=>⟨fun _=>N.sn (Fz.Le.refl _),fun a J=>?_⟩)
 refine wA J rfl rfl (yA 4 J N rfl rfl rfl rfl sizeOf66 rfl rfl rfl fun w N=>⟨yJ (by kernel_rfl),fun a J=>?_⟩)
 replace N:=N.nf
 refine go fun a J=>?_
 replace N:=N.ar [] [5,5,5,4,5,5]
 exact b _ _ ⟨C2,L,B2,y0,b1,N0,J.pk,N,trivial⟩
 refine d_e J rfl rfl rfl (yD N fun D2 w N=>⟨fun _=>N.sn (Fz.Le.refl _),fun a J=>?_⟩)
 refine d_e J rfl rfl rfl (jG J rfl call37 (vC d G o.tidy o.nl N) (fun p4 w x3 N=>⟨fun _=>N.sn (Fz.Le.refl _),fun a J=>?_⟩))
 obtain ⟨c1,O0,rfl⟩:=jW N (i:=0) rfl
 replace N:=N.nf
 refine mP fun a J=>?_
 refine d_e J rfl rfl rfl (jA J N rfl rfl fun E2 w N=>⟨fun _=>N.sn (Fz.Le.refl _),fun a J=>?_⟩)
 refine wA J rfl rfl (yA 4 J N rfl rfl rfl rfl sizeOf66 rfl rfl rfl fun w N=>⟨yJ (by kernel_rfl),fun a J=>?_⟩)
 replace N:=N.nf
 refine go fun a J=>?_
 exact b _ _ ⟨E2,L,D2,y0,c1,O0,J.pk,N,trivial⟩
 refine go fun a J=>?_
 replace N:=N.dl [0]
 replace N:Mem Φ (vM []++(K)) w:=Mem.mid (A:=[]) (B:=vM []) (C:=K) N
 refine hQ _ _ _ (retX2 (ds:=[]) J results41 rfl rfl N fun w N=>?_)
 rw [x0i P0];exact ⟨rfl,N⟩
section
variable {P:Program} {n:Nat} {E:List (Nat×Value)} {D:List Deferred} {a:Act} {Φ:Fz} {K:List Res} {w:World}
variable {dst:Option Tmp} {ty:TypeId} {pos:String} {aft:Array Edge} {g:Option (Nat×Bool)} {Kn:Value->World->Prop} {Qp:List PanicEntry->World->Prop}
theorem x8w {cur:List Value} {k j:Nat} {v:Value} (hl:j < cur.length):(cur.take j++(v::cur.drop (j+1))).take k=(cur.take k).set j v:=by
 have h:cur.take j++(v::cur.drop (j+1))=cur.set j v:=by rw [List.set_eq_take_append_cons_drop,if_pos hl]
 rw [h,List.take_set]
theorem aS (i j:Nat) {x y:Operand} {T:TypeId} {q:Addr} {m c:Nat} {val:Value} {cells:List Value} (J:EnvR n E D a) (N:Mem Φ K w)
  (B:ev E x=some (.pointer (some (q.add (j * 1))))) (G:ev E y=some val) (z:qU K i=some (.gs (.slice (some q) m c) T 1 cells)) (H:j < cells.length) (l:val.cells.toList=[val]) (C:SizeT P T 1) (h1:val.oneCell'=true)
  (kk:∀w',Mem Φ (pU K i (.gs (.slice (some q) m c) T 1 (cells.set j val))) w'->Kn undef w'):Oper.eff P ⟨dst,.store T x y,ty,pos,aft,g⟩ a w Kn Qp:=by
 obtain ⟨I,hl,d⟩:=N.own _ (qV z)
 rcases d with ⟨d,_⟩ | ⟨b,cap,cur,d,k,hb,r,o,p,h⟩
 ·cases d
 ·cases d
  have f:j < cur.toList.length:=by
   have:(cur.toList.take (m * 1)).length=cells.length:=by rw [h]
   rw [List.length_take] at this;omega
  have hb':w.heap[b]? = some (.cells cur.toList.toArray T (0,0)):=by simpa using hb
  have hr:=run_storeCells_at P b j T [val] 0 cur w hb (by have:=f;simp at this ⊢;omega) (fun v A=>by rw [List.mem_singleton] at A;subst A;exact h1)
  have F:(⟨b,0,none⟩:Addr).add (j * 1)=⟨b,j,none⟩:=by
   unfold Addr.add;split
   ·rename_i u;rw [Nat.mul_one] at u;subst u;rfl
   ·simp
  rw [F] at B
  have t:val.cells.size=1:=by rw [<- Array.length_toList,l];rfl
  unfold Oper.eff
  have:(execOp a.eval ⟨dst,.store T x y,ty,pos,aft,g⟩).run P w=.ok .skip (w.setRow b (mN cur.toList j [val]).toArray):=by
   simp only [execOp,J.ev B,J.ev G]
   simp only [Nat.add_zero] at hr
   simp [Instr.storeAt,Instr.sureAddr,storeVar,Sem.run_bind,C w,t,l,hr,tY]
  rw [this]
  refine kk _ (N.upd z rfl rfl (fun x l s=>setRow_other w b x _ (fun e=>s (by simp [Res.foot,Value.ownBlock,e]))) ?_ (.inl rfl))
  refine ⟨m,by rw [List.length_set];exact hl,.inr ⟨b,c,(mN cur.toList j [val]).toArray,rfl,k,setRow_heap w b _ _ T _ hb,r,o,?_,?_⟩⟩
  ·rw [<- p,tY,List.size_toArray]
   simp only [laQ,List.length_take,lcQ,lnQ,List.length_drop,Array.length_toList] at *
   omega
  ·rw [tY,List.toList_toArray,<- h]
   exact x8w f
theorem v0f (i:Nat) {x:Operand} {t kt et:TypeId} {b:Nat} {m:List (Bs×Value)} (J:EnvR n E D a) (O:Sees Φ K w) (h:ev E x=some (.map (some b))) (f:qU K i=some (.mp b m)) (g:Under P t (.map kt et)) :
  Ok P a (.call { callee:=.builtin .len,args:=#[x],argTypes:=#[t] }) ty w (.int .i64 (m.length:Int)):=fun _ _ _ _=>by
 obtain ⟨es,clock,h1,c⟩:=O.own _ (qV f)
 have d:(getObj b).run P w=.ok (.map es clock) w:=by simp [getObj,Sem.run,h1]
 have e:es.size=m.length:=by have:=congrArg List.length c.eq;simpa using this
 simp only [execOp,resolve]
 simp [Sem.run_bind,Result.andThen,invoke,builtin,J.ev h,Builtin.len_,g w,goInt,d,e]
theorem y1a (o:Scope):(yW o).length=o.length:=by
 induction o with
 | nil=>rfl
 | cons p o a=>obtain ⟨k,v⟩:=p;simp only [yW,List.map_cons,lcQ] at a ⊢;omega
end
theorem j0a (l:List Bs) (i:Nat) (x:Bs):strs (l.set i x)=(strs l).set i (.string x):=by simp [strs,List.map_set]
def RvI (l:List Bs) (i j:Nat) (m:List Bs):Prop:=m.length=l.length/\i+j+1=l.length/\∀k,m[k]? = if k < i∨j < k then l.reverse[k]? else l[k]?
theorem j3m {l:List Bs} {k j:Nat} (h:k+j+1=l.length):l.reverse[k]? = l[j]? := by
 rw [List.getElem?_reverse (by omega)];congr 1;omega
theorem RvI.start {l:List Bs} (h:l≠[]):RvI l 0 (l.length - 1) l:=by
 have:=List.length_pos_iff.2 h
 refine ⟨rfl,by omega,fun k=>?_⟩
 by_cases a:l.length - 1 < k
 rw [if_pos (.inr a),List.getElem?_eq_none_iff.2 (by omega),List.getElem?_eq_none_iff.2 (by rw [List.length_reverse];omega)]
 rw [if_neg (by omega)]
theorem RvI.step {l m:List Bs} {i j:Nat} {x y:Bs} (h:RvI l i j m) (c:i < j) (d:m[i]? = some x) (e:m[j]? = some y):RvI l (i+1) (j - 1) ((m.set i y).set j x):=by
 obtain ⟨h1,f,a⟩:=h
 have ex:=a i;rw [if_neg (by omega),d] at ex
 have ey:=a j;rw [if_neg (by omega),e] at ey
 refine ⟨by rw [List.length_set,List.length_set,h1],by omega,fun k=>?_⟩
 rw [List.getElem?_set,List.getElem?_set,List.length_set]
 by_cases kj:j=k
 subst kj;rw [if_pos rfl,if_pos (by omega),if_pos (by omega),j3m (j:=i) (by omega)];exact ex
 rw [if_neg kj]
 by_cases ki:i=k
 subst ki;rw [if_pos rfl,if_pos (by omega),if_pos (by omega),j3m (j:=j) (by omega)];exact ey
 rw [if_neg ki,a k]
 by_cases b:k < i∨j < k
 rw [if_pos b,if_pos (by omega)]
 rw [if_neg b,if_neg (by omega)]
theorem RvI.fin {l m:List Bs} {i j:Nat} (h:RvI l i j m) (c:¬i < j):m=l.reverse:=by
 obtain ⟨h1,d,b⟩:=h
 apply List.ext_getElem?
 intro k
 rw [b k]
 by_cases a:k < i∨j < k
 rw [if_pos a]
 rw [if_neg a,j3m (j:=k) (by omega)]
theorem j3n {Φ:Fz} {K:List Res} {w:World} {v:Value} {l:List Bs} (s:l≠[]) (I:l.length<=2000000000000) (N:Mem Φ (.gs v 9 1 (strs l)::K) w) :
  Calls prog 85 #[v] w (fun ee w'=>ee=.returned (.tuple #[])/\Mem Φ (.gs v 9 1 (strs l.reverse)::K) w'):=by
 obtain ⟨z,d,rfl⟩:=jW N (i:=0) rfl
 have P:=List.length_pos_iff.2 s
 refine zL func85 ntmps85 fun Q hQ a J=>?_
 refine Qq (fun a J=>?_) (o:=by exact fun J O=>wG ((l.length - 1:Nat):Int) J rfl rfl (by rw [jI (by omega)];omega))
 refine go fun a J=>?_
 refine zU (J.ks [0]) N (fun R mm a w=>∃(i:Nat) (j:Nat) (m:List Bs),mm=j - i/\R Φ [(2,.int .i64 i),(3,.int .i64 j)] [(0,.gs (.slice z l.length d) 9 1 (strs m))] a w/\(RvI l i j m)) ((l.length - 1) - 0) ⟨0,l.length - 1,l,rfl,⟨J.pk,N⟩,RvI.start s⟩ ?_
 clear N J
 rintro mm a w ⟨i,j,m,y,⟨J,N⟩,r⟩ U u
 replace N:=N.nf
 obtain ⟨F,G,H⟩:=id r
 by_cases E:i < j
 refine Reg [1,1,1,1,1,1,1,2,1,1,1,2,1,0,1,0] [0] fun w N a J=>?_
 refine go fun a J=>?_
 have b:j < l.length:=by omega
 obtain ⟨A,h⟩:=N.toSees.gsSome (i:=0) rfl b
 obtain ⟨g,n⟩:=zZ (l:=m) (i:=j) (by first | omega | (rw [List.length_set];omega))
 refine Qq (fun a J=>?_) (o:=by exact fun J O=>qX (p:=A) j J (by rw [<- h];rfl) rfl runUnderlying25 sizeOf9 b)
 refine Qq (fun a J=>?_) (o:=by exact fun J O=>pR 0 j J O rfl (by rw [<- h];rfl) (z2l n) isAgg9)
 refine go fun a J=>?_
 have c:i < l.length:=by omega
 obtain ⟨B,k⟩:=N.toSees.gsSome (i:=0) rfl c
 obtain ⟨t,q⟩:=zZ (l:=m) (i:=i) (by first | omega | (rw [List.length_set];omega))
 refine Qq (fun a J=>?_) (o:=by exact fun J O=>qX (p:=B) i J (by rw [<- k];rfl) rfl runUnderlying25 sizeOf9 c)
 refine Qq (fun a J=>?_) (o:=by exact fun J O=>pR 0 i J O rfl (by rw [<- k];rfl) (z2l q) isAgg9)
 obtain ⟨C,e⟩:=N.toSees.gsSome (i:=0) rfl c
 obtain ⟨S,L⟩:=zZ (l:=m) (i:=i) (by first | omega | (rw [List.length_set];omega))
 refine Qq (fun a J=>?_) (o:=by exact fun J O=>qX (p:=C) i J (by rw [<- e];rfl) rfl runUnderlying25 sizeOf9 c)
 refine wA J rfl rfl (aS 0 i J N rfl rfl (by rw [<- e];rfl) (by rw [zR];first | omega | (rw [List.length_set];omega)) rfl sizeOf9 rfl fun w N=>⟨yJ (by kernel_rfl),fun a J=>?_⟩)
 replace N:Mem Φ (.gs (.slice z l.length d) 9 1 (strs (m.set i g))::K) w:=by rw [e,j0a];exact N
 obtain ⟨D,f⟩:=N.toSees.gsSome (i:=0) rfl b
 obtain ⟨T,M⟩:=zZ (l:=(m.set i g)) (i:=j) (by first | omega | (rw [List.length_set];omega))
 refine Qq (fun a J=>?_) (o:=by exact fun J O=>qX (p:=D) j J (by rw [<- f];rfl) rfl runUnderlying25 sizeOf9 b)
 refine wA J rfl rfl (aS 0 j J N rfl rfl (by rw [<- f];rfl) (by rw [zR];first | omega | (rw [List.length_set];omega)) rfl sizeOf9 rfl fun w N=>⟨yJ (by kernel_rfl),fun a J=>?_⟩)
 replace N:Mem Φ (.gs (.slice z l.length d) 9 1 (strs ((m.set i g).set j t))::K) w:=by rw [f,j0a];exact N
 refine Qq (fun a J=>?_) (o:=by exact fun J O=>wG ((j - 1:Nat):Int) J rfl rfl (by rw [jI (by omega)];omega))
 refine go fun a J=>?_
 refine u _ _ _ (by subst y;omega) ⟨(i+1),(j - 1),(((m.set i g).set j t)),rfl,⟨J.pk,N⟩,?_⟩
 exact RvI.step r E q n
 refine go fun a J=>?_
 refine hQ _ _ _ (q2a J results85 ?_)
 rw [RvI.fin r E] at N;exact ⟨rfl,N⟩
theorem x1f:∀l:List Flow,((qK l).flatMap (·.2)).length=l.length:=by
 have put:∀(m:Next) (k x:Bs),((jP m k ((zK m k).getD []++[x])).flatMap (·.2)).length=(m.flatMap (·.2)).length+1:=by
  intro m k x
  induction m with
  | nil=>simp [jP,zK]
  | cons p m a=>
   obtain ⟨j,y⟩:=p
   by_cases h:k=j
   subst h;simp [jP,zK];omega
   simp only [jP,zK,if_neg h,List.flatMap_cons,laQ,a];omega
 refine wR (by simp [qK]) (fun l x a=>?_)
 rw [tR,uX,put,a,laQ];rfl
def PathOk (nx:Next) (rs:List Bs) (n:Bs) (l:List Bs):Prop:=∃p,l=p++[n]/\y3c nx l/\(∀x,l[0]? = some x->x∈rs)/\∀k,Way nx rs k n->p.length<=k
def y6z (nx:Next) (rs:List Bs) (n:Bs):Except Unit Unit:=if (zK (yV nx rs) n).isSome then .ok () else .error ()
theorem y9l {nx:Next} {l:List Bs} {o:From} {q:List Bs} {d:Bs->Nat} (h:Bfs nx l q.length o q d):∀(n:Nat) (s:Bs),d s<=n->(zK o s).isSome=true->∃L:List Bs,L.length=d s+1/\L.Nodup/\(∀x∈L,x∈q)/\∀x∈L,d x<=d s
 | n,s,i,O=>by
  by_cases hl:s∈l
  exact ⟨[s],by rw [(h.root s hl).2];rfl,by simp,fun x a=>by rw [List.mem_singleton] at a;subst a;exact (h.mem _).1 O,fun x a=>by rw [List.mem_singleton] at a;subst a;exact Nat.le_refl _⟩
  obtain ⟨p,f⟩:=Option.isSome_iff_exists.1 O
  obtain ⟨h1,g,c⟩:=h.back s p f hl
  cases n with
  | zero=>omega
  | succ n=>
   obtain ⟨L,b,e2,e3,e4⟩:=y9l h n p (by omega) h1
   refine ⟨s::L,by rw [lcQ,b,c],List.nodup_cons.2 ⟨fun e=>by have:=e4 s e;omega,e2⟩,fun x a=>?_,fun x a=>?_⟩
   rcases List.mem_cons.1 a with rfl | a
   exact (h.mem _).1 O
   exact e3 x a
   rcases List.mem_cons.1 a with rfl | a
   exact Nat.le_refl _
   have:=e4 x a;omega
def PI (nx:Next) (o:From) (d:Bs->Nat) (n:Bs) (acc:List Bs) (s:Bs):Prop:=(zK o s).isSome=true/\acc.length+d s=d n/\y3c nx (s::acc.reverse)/\∃p,s::acc.reverse=p++[n]
section
variable {nx:Next} {l q acc:List Bs} {o:From} {d:Bs->Nat} {n s t:Bs}
theorem PI.start (h:(zK o n).isSome=true):PI nx o d n [] n:=⟨h,by simp,x2j _ _,[],rfl⟩
theorem PI.len (hb:Bfs nx l q.length o q d) (O:(zK o n).isSome=true) (h:PI nx o d n acc s):acc.length+1<=pE nx l:=by
 obtain ⟨L,a,e2,e3,_⟩:=y9l hb _ n (Nat.le_refl _) O
 have h1:=z3h e2 e3
 have b:=y2k hb
 have:=h.2.1;omega
theorem PI.root (hb:Bfs nx l q.length o q d) (a:zK o sE=none) (h:zK o s=some sE):s∈l:=by
 refine Decidable.byContradiction fun hl=>?_
 have:=(hb.back s sE h hl).1
 rw [a] at this;cases this
theorem PI.fin (hb:Bfs nx l q.length o q d) (c:zK o sE=none) (h:PI nx o d n acc s) (O:zK o s=some sE):PathOk nx l n (acc++[s]).reverse:=by
 have hr:=PI.root hb c O
 obtain ⟨h1,e,f,p,a⟩:=h
 rw [List.reverse_append]
 refine ⟨p,a,f,fun x b=>?_,fun k g=>?_⟩
 simp at b;subst b;exact hr
 have hl:p.length=acc.length:=by have:=congrArg List.length a;simp at this;omega
 have i:=(y2l hb k n g).2
 rw [(hb.root s hr).2] at e;omega
theorem PI.step (hb:Bfs nx l q.length o q d) (h:PI nx o d n acc s) (O:zK o s=some t) (k:¬t=sE):PI nx o d n (acc++[s]) t/\d t < d s:=by
 obtain ⟨h1,m,g,p,j⟩:=h
 have hl:s∉l:=fun hl=>k (by have:=(hb.root s hl).1;rw [O] at this;exact Option.some.inj this)
 obtain ⟨f,e2,e3⟩:=hb.back s t O hl
 refine ⟨⟨f,by rw [laQ];simp;omega,?_,t::p,?_⟩,by omega⟩
 rw [List.reverse_append]
 intro i a b e c
 cases i with
 | zero=>simp at e c;subst e;subst c;exact e2
 | succ i=>exact g i a b (by simpa using e) (by simpa using c)
 rw [List.reverse_append];show t::s::acc.reverse=_;rw [j];rfl
end
theorem q8w {Φ:Fz} {K:List Res} {w:World} {b:Addr} {g:Graph} {n:Bs} (rg:RGraph Φ b g) (hb:pE g.next (zV g.core)<=2000000000000) (T:zK (yV g.next (zV g.core)) sE=none) (hz:∀p∈g.core.inputs,p.name.size<=1000) (S:g.core.inputs.length<=1000000000) (N:Mem Φ K w) :
  Calls prog 51 #[.pointer (some b),.string n] w (fun ee w'=>Out (y6z g.next (zV g.core) n) (fun _=>∃y:Value×List Bs,ee=.returned (.tuple #[y.1,.bool true])/\PathOk g.next (zV g.core) n y.2/\Mem Φ (.gs y.1 9 1 (strs y.2)::K) w') (fun _=>ee=.returned (.tuple #[.slice none 0 0,.bool false])/\Mem Φ K w')):=by
 obtain ⟨d1,E0,x0,M0,D0,F0,a0,E,U,F,l0,m0⟩:=id rg
 have n0:=E
 obtain ⟨G0,s0,H0,c22,I0,t0,J0,u0,rfl,y0,z0,A0,B0,b0,f0,c0,g0,d0,h0,e0,i0⟩:=RCore.fm E
 obtain ⟨K0,c38,rfl,M,j0⟩:=U.fm
 obtain ⟨L0,c42,rfl,P,k0⟩:=F.fm
 obtain ⟨q_,H,h⟩:=z9h g.next (zV g.core)
 refine zL func51 ntmps51 fun Q hQ a J=>?_
 refine go fun a J=>?_
 refine wp_scope_straight ?_
 refine Reg [1,1,1,2,1,0,0,1] [] fun w N a J=>?_
 refine yO call39 (fun N0 w Y N a J=>?_) (c:=tW rg hz S N)
 refine d_e J rfl rfl rfl (mG J rfl rfl call67 (tS (l:=(zV g.core)) rg (by omega) N) (fun W w Z N=>⟨yJ (by kernel_rfl),fun a J=>?_⟩))
 refine go fun a J=>?_
 rcases f:yM ((yW (yV g.next (zV g.core)))) n with _ | o0
 have e:=congrArg (zJ true (.string ⟨#[]⟩)) f
 refine Qq (fun a J=>?_) (o:=by exact fun J O=>Ok.cast (zW 0 runUnderlying70 runUnderlying9 zeroValue9 J O rfl rfl rfl) (show zJ true (.string ⟨#[]⟩) (yM ((yW (yV g.next (zV g.core)))) n)=.tuple #[.string ⟨#[]⟩,.bool false] from e))
 refine jB ?_
 replace N:=N.dl [0]
 rw [y6z,show (zK (yV g.next (zV g.core)) n).isSome=false by rw [kI f];rfl];exact ⟨rfl,N⟩
 obtain ⟨X,D,rfl⟩:=kJ f
 have e:=congrArg (zJ true (.string ⟨#[]⟩)) f
 refine Qq (fun a J=>?_) (o:=by exact fun J O=>Ok.cast (zW 0 runUnderlying70 runUnderlying9 zeroValue9 J O rfl rfl rfl) (show zJ true (.string ⟨#[]⟩) (yM ((yW (yV g.next (zV g.core)))) n)=.tuple #[.string X,.bool true] from e))
 have q:(zK (yV g.next (zV g.core)) n).isSome=true:=by rw [D];rfl
 refine go fun a J=>?_
 refine wp_label ?_
 refine go fun a J=>?_
 replace N:=N.nilRow 9 1
 replace N:=N.nf
 refine zU (J.ks [6]) N (fun R mm a w=>∃(u:Value) (acc:List Bs) (s:Bs),mm=H s/\R Φ [(1,.string s),(9,u)] [(0,.gs (u) 9 1 (strs acc))] a w/\(PI g.next (yV g.next (zV g.core)) H n acc s)) (H n) ⟨.slice none 0 0,[],n,rfl,⟨J.pk,N⟩,PI.start q⟩ ?_
 clear N J
 rintro mm a w ⟨u,acc,s,L,⟨J,N⟩,d⟩ r0 C
 replace N:=N.nf
 refine jQ fun V w N a J=>?_
 refine vH 1 xQ (fun G w N a J=>?_) (hb:=by have I:=PI.len h q d;simp only [zR,lcQ,lnQ];omega)
 replace N:Mem Φ (.gs (V) 9 1 [.string s]::.gs (G) 9 1 (strs (acc++[s]))::.mp W (yW (yV g.next (zV g.core)))::K) w:=by rw [qI] at N;exact N
 refine go fun a J=>?_
 rcases i:yM ((yW (yV g.next (zV g.core)))) s with _ | p0
 exact absurd d.1 (by rw [kI i];simp)
 obtain ⟨A,t,rfl⟩:=kJ i
 have v:=congrArg (zJ false (.string ⟨#[]⟩)) i
 refine Qq (fun a J=>?_) (o:=by exact fun J O=>Ok.cast (zW 2 runUnderlying70 runUnderlying9 zeroValue9 J O rfl rfl rfl) (show zJ false (.string ⟨#[]⟩) (yM ((yW (yV g.next (zV g.core)))) s)=.string A from v))
 by_cases B:A=(⟨#[]⟩:Bs)
 replace N:=N.pl 1
 refine zT call85 (fun w N a J=>?_) (c:=j3n (l:=(acc++[s])) (by simp) (by have I:=PI.len h q d;rw [laQ];simp only [lcQ,lnQ];omega) N)
 replace N:=N.nf
 refine jB ?_
 replace N:=N.dl [2,1]
 rw [y6z,if_pos q];exact ⟨(_,_),rfl,PI.fin h T d (t.trans (congrArg some B)),N⟩
 refine go fun a J=>?_
 rcases j:yM ((yW (yV g.next (zV g.core)))) s with _ | q0
 exact absurd d.1 (by rw [kI j];simp)
 obtain ⟨m,k,rfl⟩:=kJ j
 have z:=congrArg (zJ false (.string ⟨#[]⟩)) j
 refine Qq (fun a J=>?_) (o:=by exact fun J O=>Ok.cast (zW 2 runUnderlying70 runUnderlying9 zeroValue9 J O rfl rfl rfl) (show zJ false (.string ⟨#[]⟩) (yM ((yW (yV g.next (zV g.core)))) s)=.string m from z))
 have r:¬m=sE:=fun e_=>B (by rw [show A=m from Option.some.inj (t.symm.trans k)];exact e_)
 refine go fun a J=>?_
 replace N:=N.dl [0]
 refine C (H m) _ _ (by subst L;exact (PI.step h d k r).2) ⟨(G),((acc++[s])),(m),rfl,⟨J.pk,N⟩,?_⟩
 exact (PI.step h d k r).1
section
variable {Φ:Fz} {K:List Res} {w:World}
theorem z4x {c:Core} {x:Unit} (h:y6e c=.ok x):yG c=0:=by
 unfold y6e at h;split at h
 assumption
 cases h
theorem z4w {c:Core} {e:Int} (h:y6e c=.error e):¬yG c=0/\yG c=e:=by
 unfold y6e at h;split at h
 cases h
 cases h;exact ⟨by assumption,rfl⟩
theorem j9i (c:Core):(zQ c).length<=(xW c).length:=aG _
theorem LOk.bound {c:Core} (L:LOk c) (l:List Bs):pE (qK (zQ c)) l<=l.length+1000000000000:=by
 unfold pE;rw [x1f];have:=j9i c;have:=L.al;omega
theorem x1s (c:Core):(zV c).length=c.inputs.length:=by simp [zV]
theorem LOk.boundR {c:Core} (L:LOk c):pE (qK (zQ c)) (zV c)<=1001000000000:=by
 have:=L.bound (zV c);rw [x1s] at this;have:=L.il;omega
theorem dF {c:Core}:∀r∈zV c,r∈zC c:=fun r hr=>by
 simp only [zC,zV] at *;exact List.mem_append_left _ (List.mem_append_left _ hr)
theorem LOk.se {c:Core} (L:LOk c):zK (yV (qK (zQ c)) (zV c)) sE=none:=by
 cases h:zK (yV (qK (zQ c)) (zV c)) sE with
 | none=>rfl
 | some x=>exact absurd (z7b L.gok dF ((z3k _ _ _).1 (by rw [h];rfl))) L.gok.ne
def solP (c:Core):List Bs:=wC (zC c) (yV (qK (zQ c)) (zV c))
def kC (c:Core) (n:Bs):Except Int Unit:=if yG c=0 then (if n∈zC c then .ok () else .error 110) else .error (yG c)
theorem nJ {c:Core} {n:Bs} (a:yG c=0) (h:n∈zC c):kC c n=.ok ():=by rw [kC,if_pos a,if_pos h]
theorem q8f {c:Core} {n:Bs} (a:yG c=0) (h:¬n∈zC c):kC c n=.error 110:=by rw [kC,if_pos a,if_neg h]
theorem q1s {c:Core} {n:Bs} (a:¬yG c=0):kC c n=.error (yG c):=if_neg a
theorem oE {c:Core} {n:Bs} {x:Unit} (h:kC c n=.ok x):yG c=0/\n∈zC c:=by
 unfold kC at h;split at h
 split at h
 exact ⟨by assumption,by assumption⟩
 cases h
 cases h
theorem nW {c:Core} {n:Bs} {e:Int} (h:kC c n=.error e):¬e=0:=by
 unfold kC at h;split at h
 split at h
 cases h
 cases h;decide
 cases h;assumption
theorem z6w {d0:List Value} {c:Core} {n:Bs} (k:RCore Φ d0 c) (G:Glob Φ) (z:yG c=0->LOk c) (N:Mem Φ K w) :
  Calls prog 38 #[.agg d0.toArray,.string n] w (fun ee w'=>Out (kC c n) (fun _=>∃y:Fz×Addr,ee=.returned (.tuple #[.pointer (some y.2),.int .i64 0])/\(Φ.Le y.1/\RGraph y.1 y.2 (pF c))/\Mem y.1 K w') (fun e=>ee=.returned (.tuple #[.pointer none,.int .i64 e])/\Mem Φ K w')):=by
 have b:=k
 obtain ⟨p3,c4,p9,e0,w0,f0,x0,c22,rfl,h2,h8,n0,o0,t0,u0,A,I,B,L,C,M⟩:=RCore.fm k
 refine zL func38 ntmps38 fun Q hQ a J=>?_
 refine Bx fun c0 w N a J=>?_
 refine go fun a J=>?_
 refine st J rfl rfl rfl (xU J rfl call41 (y6f b G z N) (fun s u w f i N a J=>?_) (fun s w f N a J=>?_))
 obtain ⟨Ψg,bg⟩:=u
 obtain ⟨leg,rg⟩:=i
 simp only at leg rg N J
 have l:=z4x f
 have L_:=z l
 replace b:=RCore.mono _ _ _ _ leg b
 replace G:=G.mono leg
 replace N:=N.nf
 obtain ⟨m0,Z,v,b0,Y,a0,m,g,h,j,W,X⟩:=id rg
 have t:=g
 obtain ⟨y0,g0,z0,c53,A0,i0,B0,j0,rfl,p0,q0,r0,s0,D,P,E,R,F,S,H,T⟩:=RCore.fm g
 obtain ⟨C0,k0,rfl,p,U⟩:=h.fm
 obtain ⟨D0,l0,rfl,q,V⟩:=j.fm
 refine Qq (fun a J=>?_) (o:=by exact fun J O=>nF false J rfl rfl rfl)
 refine yH call48 (fun d w N a J=>?_) (fun d w N a J=>?_) (c:=z1f h N)
 refine jB ?_
 replace N:=N.dl [0]
 rw [nJ l (of_decide_eq_true d)];exact ⟨(Ψg,bg),rfl,⟨leg,rg⟩,N⟩
 refine jB ?_
 replace N:=N.dl [0]
 replace N:=N.le (leg)
 rw [q8f l (of_decide_eq_false d)];exact ⟨rfl,N⟩
 obtain ⟨r,rfl⟩:=z4w f
 refine jB ?_
 replace N:=N.dl [0]
 rw [q1s r];exact ⟨rfl,N⟩
def dT (c:Core):Except Int (List Bs):=if yG c=0 then .ok (solP c) else .error (yG c)
theorem x2c {d0:List Value} {c:Core} (j:RCore Φ d0 c) (G:Glob Φ) (C:yG c=0->LOk c) (N:Mem Φ K w) :
  Calls prog 15 #[.agg d0.toArray] w (fun ee w'=>Out (dT c) (fun l=>∃y:Value,ee=.returned (.tuple #[y,.int .i64 0])/\True/\Mem Φ (.gs y 9 1 (strs l)::K) w') (fun e=>ee=.returned (.tuple #[.slice none 0 0,.int .i64 e])/\Mem Φ K w')):=by
 have b:=j
 obtain ⟨p3,c4,p9,i0,z0,j0,A0,c22,rfl,h2,h8,q0,r0,x0,y0,D,P,E,R,F,S⟩:=RCore.fm j
 refine zL func15 ntmps15 fun Q hQ a J=>?_
 refine Bx fun g0 w N a J=>?_
 refine go fun a J=>?_
 refine st J rfl rfl rfl (xU J rfl call41 (y6f b G C N) (fun r t w d g N a J=>?_) (fun r w d N a J=>?_))
 obtain ⟨Ψg,bg⟩:=t
 obtain ⟨leg,rg⟩:=g
 simp only at leg rg N J
 have v:=z4x d
 have k:=C v
 replace b:=RCore.mono _ _ _ _ leg b
 replace G:=G.mono leg
 replace N:=N.nf
 obtain ⟨p0,c0,u,f0,b0,e0,m,f,i,h,Z,a0⟩:=id rg
 have s:=f
 obtain ⟨B0,k0,C0,c53,D0,l0,E0,m0,rfl,s0,t0,u0,w0,H,T,I,U,L,V,M,W⟩:=RCore.fm f
 obtain ⟨F0,n0,rfl,n,X⟩:=i.fm
 obtain ⟨G0,o0,rfl,p,Y⟩:=h.fm
 refine Qq (fun a J=>?_) (o:=by exact fun J O=>nF false J rfl rfl rfl)
 refine Reg [1,1,1,1,2,1,0,0,0,1,1] [0] fun w N a J=>?_
 refine yO call39 (fun H0 w z N a J=>?_) (c:=tW rg k.tidy.inp k.il N)
 refine d_e J rfl rfl rfl (mG J rfl rfl call67 (tS (l:=(zV (pF c).core)) rg (by have:=k.boundR;exact Nat.le_trans this (by decide)) N) (fun I0 w A N=>⟨yJ (by kernel_rfl),fun a J=>?_⟩))
 refine yO call42 (fun J0 w B N a J=>?_) (c:=q1m (o:=(yV (pF c).next (zV (pF c).core))) rg k.nl N)
 refine jB ?_
 replace N:=N.le (leg)
 replace N:=N.dl [2,1]
 rw [dT,if_pos v];exact ⟨_,rfl,trivial,N⟩
 obtain ⟨q,rfl⟩:=z4w d
 refine jB ?_
 replace N:=N.dl [0]
 rw [dT,if_neg q];exact ⟨rfl,N⟩
def q4o (c:Core):Except Int (List Bs):=if yG c=0 then .ok (zC c) else .error (yG c)
theorem x1a {d0:List Value} {c:Core} (f:RCore Φ d0 c) (G:Glob Φ) (h:yG c=0->LOk c) (N:Mem Φ K w) :
  Calls prog 12 #[.agg d0.toArray] w (fun ee w'=>Out (q4o c) (fun l=>∃y:Value,ee=.returned (.tuple #[y,.int .i64 0])/\True/\Mem Φ (.gs y 9 1 (strs l)::K) w') (fun e=>ee=.returned (.tuple #[.slice none 0 0,.int .i64 e])/\Mem Φ K w')):=by
 have b:=f
 obtain ⟨E,c4,F,q,z,r,A,c22,rfl,C,D,s,t,u,v,i,m,j,n,k,o⟩:=RCore.fm f
 refine zL func12 ntmps12 fun Q hQ a J=>?_
 refine Bx fun p w N a J=>?_
 refine zT call36 (fun w N a J=>?_) (c:=y3p b G N)
 by_cases d:(yG c)=0
 refine yO call37 (fun B w g N a J=>?_) (c:=vC b G (h d).tidy (h d).nl N)
 refine jB ?_
 replace N:=N.dl [1]
 rw [q4o,if_pos d];exact ⟨_,rfl,trivial,N⟩
 refine jB ?_
 replace N:=N.dl [0]
 rw [q4o,if_neg d];exact ⟨rfl,N⟩
end
def uT (c:Core) (l:List Bs):Int:=if yG c=0 then (if cB (zC c) (zQ c) (zV c) l then (if (yV (qK (zQ c)) (zV c)).length=l.length then 0 else 112) else 111) else yG c
section
variable {c:Core} {l:List Bs}
theorem q7t {o:From} {n x:Bs} (h:zK o n=some x):(zK o n).isSome=true:=by rw [h];rfl
theorem q7s {o:From} {n:Bs} (h:zK o n=none):(zK o n).isSome=false:=by rw [h];rfl
theorem x0d (a:yG c=0) (h:cB (zC c) (zQ c) (zV c) l=false):uT c l=111:=by rw [uT,if_pos a,h];rfl
theorem x0e (a:yG c=0) (h:cB (zC c) (zQ c) (zV c) l=true) (hl:(yW (yV (qK (zQ c)) (zV c))).length=l.length):uT c l=0:=by rw [y1a] at hl;rw [uT,if_pos a,h,if_pos rfl,if_pos hl]
theorem j2i (a:yG c=0) (h:cB (zC c) (zQ c) (zV c) l=true) (hl:¬(yW (yV (qK (zQ c)) (zV c))).length=l.length):uT c l=112:=by rw [y1a] at hl;rw [uT,if_pos a,h,if_pos rfl,if_neg hl]
end
theorem x0f {Φ:Fz} {K:List Res} {w:World} {d0:List Value} {c:Core} {v:Value} {l:List Bs} (n:RCore Φ d0 c) (rl:SliceOf RStr Φ 1 v l) (G:Glob Φ) (F:yG c=0->LOk c) (N:Mem Φ K w) :
  Calls prog 17 #[.agg d0.toArray,v] w (fun ee w'=>ee=.returned (.int .i64 (uT c l))/\Mem Φ K w'):=by
 have b:=n
 obtain ⟨p3,c4,p9,m0,D0,n0,E0,c22,rfl,h2,h8,u0,w0,B0,C0,H,T,I,U,L,V⟩:=RCore.fm n
 obtain ⟨F0,o0,rfl,s,W⟩:=rl.fm
 refine zL func17 ntmps17 fun Q hQ a J=>?_
 refine Bx fun l0 w N a J=>?_
 refine go fun a J=>?_
 refine st J rfl rfl rfl (xU J rfl call41 (y6f b G F N) (fun z B w f j N a J=>?_) (fun z w f N a J=>?_))
 obtain ⟨Ψg,bg⟩:=B
 obtain ⟨leg,rg⟩:=j
 simp only at leg rg N J
 have p:=z4x f
 have h:=F p
 replace b:=RCore.mono _ _ _ _ leg b
 replace G:=G.mono leg
 replace rl:=rl.up leg
 replace N:=N.nf
 obtain ⟨t0,i0,C,k0,g0,j0,r,g,m,k,e0,f0⟩:=id rg
 have A:=g
 obtain ⟨G0,c51,H0,p0,I0,c63,J0,q0,rfl,x0,y0,z0,A0,M,X,P,Y,R,Z,S,a0⟩:=RCore.fm g
 obtain ⟨K0,r0,rfl,t,b0⟩:=m.fm
 obtain ⟨L0,s0,rfl,u,c0⟩:=k.fm
 refine Qq (fun a J=>?_) (o:=by exact fun J O=>nF false J rfl rfl rfl)
 refine yH call43 (fun d w N a J=>?_) (fun d w N a J=>?_) (c:=j4f rg rl h.tidy.inp h.il h.nl N)
 refine go fun a J=>?_
 refine yI [1,1,1,2,1,0,0,0,1,1,1,1] (.q 0 (.q 1 (.q 2 (.q 3 (.q 4 (.q 8 (.q 9 (.e 5 (.e 6 (.e 7 (.q 10 (.q 11 (.done))))))))))))) [0] J N fun w N=>?_
 refine yO call39 (fun M0 w D N a J=>?_) (c:=tW rg h.tidy.inp h.il N)
 refine d_e J rfl rfl rfl (mG J rfl rfl call67 (tS (l:=(zV (pF c).core)) rg (Nat.le_trans h.boundR (by decide)) N) (fun N0 w E N=>⟨yJ (by kernel_rfl),fun a J=>?_⟩))
 refine d_e J rfl rfl rfl (dO (v0f 0 J N.toSees rfl rfl runUnderlying70) ⟨fun _=>N.sn (Fz.Le.refl _),fun a J=>?_⟩)
 by_cases i:(yW (yV (pF c).next (zV (pF c).core))).length=l.length
 refine zD ?_
 replace N:=N.le (leg)
 replace N:=N.dl [1,0]
 rw [x0e p d i];exact ⟨rfl,N⟩
 refine zD ?_
 replace N:=N.le (leg)
 replace N:=N.dl [1,0]
 rw [j2i p d i];exact ⟨rfl,N⟩
 refine zD ?_
 replace N:=N.le (leg)
 replace N:=N.dl [0]
 rw [x0d p d];exact ⟨rfl,N⟩
 obtain ⟨y,rfl⟩:=z4w f
 refine zD ?_
 replace N:=N.dl [0]
 rw [uT,if_neg y];exact ⟨rfl,N⟩
theorem y3o {Φ:Fz} {K:List Res} {w:World} {d0:List Value} {c:Core} {n:Bs} (r:RCore Φ d0 c) (G:Glob Φ) (H:yG c=0->LOk c) (N:Mem Φ K w) :
  Calls prog 13 #[.agg d0.toArray,.string n] w (fun ee w'=>Out (kC c n) (fun _=>∃_y:Unit,ee=.returned (.tuple #[.bool (zK (yV (qK (zQ c)) (zV c)) n).isSome,.int .i64 0])/\True/\Mem Φ K w') (fun e=>ee=.returned (.tuple #[.bool false,.int .i64 e])/\Mem Φ K w')):=by
 have d:=r
 obtain ⟨p3,c4,p9,n0,F0,o0,G0,c22,rfl,h2,h8,w0,x0,C0,D0,I,U,L,V,M,W⟩:=RCore.fm r
 refine zL func13 ntmps13 fun Q hQ a J=>?_
 refine Bx fun m0 w N a J=>?_
 refine go fun a J=>?_
 refine st J rfl rfl rfl (xU J rfl call38 (z6w d G H N) (fun z B w g i N a J=>?_) (fun z w g N a J=>?_))
 obtain ⟨Ψg,bg⟩:=B
 obtain ⟨leg,rg⟩:=i
 simp only at leg rg N J
 obtain ⟨t,j⟩:=oE g
 have s:=H t
 replace d:=RCore.mono _ _ _ _ leg d
 replace G:=G.mono leg
 replace N:=N.nf
 obtain ⟨u0,i0,D,k0,g0,j0,u,h,p,m,e0,f0⟩:=id rg
 have A:=h
 obtain ⟨H0,p0,I0,c53,J0,q0,K0,r0,rfl,y0,z0,A0,B0,P,X,R,Y,S,Z,T,a0⟩:=RCore.fm h
 obtain ⟨L0,s0,rfl,v,b0⟩:=p.fm
 obtain ⟨M0,t0,rfl,y,c0⟩:=m.fm
 refine Qq (fun a J=>?_) (o:=by exact fun J O=>nF false J rfl rfl rfl)
 refine go fun a J=>?_
 refine yI [1,1,1,2,1,0,0,1,0,1,1,1,1,1] (.q 0 (.q 1 (.q 2 (.q 3 (.q 4 (.q 7 (.e 5 (.e 6 (.e 8 (.q 9 (.q 10 (.q 11 (.q 12 (.q 13 (.done))))))))))))))) [0] J N fun w N=>?_
 refine yO call39 (fun N0 w E N a J=>?_) (c:=tW rg s.tidy.inp s.il N)
 refine d_e J rfl rfl rfl (mG J rfl rfl call67 (tS (l:=(zV (pF c).core)) rg (Nat.le_trans s.boundR (by decide)) N) (fun O0 w F N=>⟨yJ (by kernel_rfl),fun a J=>?_⟩))
 rcases f:yM ((yW (yV (pF c).next (zV (pF c).core)))) n with _ | l0
 have b:=congrArg (zJ true (.string ⟨#[]⟩)) f
 refine d_e J rfl rfl rfl (dO (Ok.cast (zW 0 runUnderlying70 runUnderlying9 zeroValue9 J N.toSees rfl rfl rfl) (show zJ true (.string ⟨#[]⟩) (yM ((yW (yV (pF c).next (zV (pF c).core)))) n)=.tuple #[.string ⟨#[]⟩,.bool false] from b)) ⟨fun _=>N.sn (Fz.Le.refl _),fun a J=>?_⟩)
 refine jB ?_
 replace N:=N.le (leg)
 replace N:=N.dl [1,0]
 rw [nJ t j,show (zK (yV (qK (zQ c)) (zV c)) n).isSome=false from (q7s (kI f))];exact ⟨(),rfl,trivial,N⟩
 obtain ⟨C,k,rfl⟩:=kJ f
 have b:=congrArg (zJ true (.string ⟨#[]⟩)) f
 refine d_e J rfl rfl rfl (dO (Ok.cast (zW 0 runUnderlying70 runUnderlying9 zeroValue9 J N.toSees rfl rfl rfl) (show zJ true (.string ⟨#[]⟩) (yM ((yW (yV (pF c).next (zV (pF c).core)))) n)=.tuple #[.string C,.bool true] from b)) ⟨fun _=>N.sn (Fz.Le.refl _),fun a J=>?_⟩)
 refine jB ?_
 replace N:=N.le (leg)
 replace N:=N.dl [1,0]
 rw [nJ t j,show (zK (yV (qK (zQ c)) (zV c)) n).isSome=true from (q7t k)];exact ⟨(),rfl,trivial,N⟩
 have E0:=nW g
 refine jB ?_
 replace N:=N.dl [0]
 rw [g];exact ⟨rfl,N⟩
def depP (c:Core) (n:Bs) (p:Param):Bool:=(zK (yV (qK (zQ c)) [inN p.name]) n).isSome
def z0w (c:Core) (n:Bs) (l:List Param):List Bs:=(l.filter (depP c n)).map (·.name)
def tD (c:Core) (n:Bs):List Bs:=z0w c n c.inputs
theorem y3x {c:Core} {n:Bs} {l:List Param} {i:Nat} {x:Param} (h:l[i]? = some x) (a:depP c n x=true):z0w c n (l.drop i)=x.name::z0w c n (l.drop (i+1)):=by
 rw [zA h,z0w,List.filter_cons,if_pos a];rfl
theorem j5w {c:Core} {n:Bs} {l:List Param} {i:Nat} {x:Param} (h:l[i]? = some x) (a:depP c n x=false):z0w c n (l.drop i)=z0w c n (l.drop (i+1)):=by
 rw [zA h,z0w,List.filter_cons,if_neg (by rw [a];simp)];rfl
theorem q6n (c:Core) (n:Bs):(tD c n).length<=c.inputs.length:=by rw [tD,z0w,List.length_map];exact List.length_filter_le _ _
def mB (c:Core) (n:Bs):Except Int Unit:=match kC c n with
 | .error e=>.error e
 | .ok _=>if (zK (yV (qK (zQ c)) (zV c)) n).isSome then .ok () else .error 3
theorem q8v {nx:Next} {rs:List Bs} {n:Bs} {x:Unit} (h:y6z nx rs n=.ok x):(zK (yV nx rs) n).isSome=true:=by
 unfold y6z at h;split at h
 assumption
 cases h
theorem y7a {nx:Next} {rs:List Bs} {n:Bs} {x:Unit} (h:y6z nx rs n=.error x):(zK (yV nx rs) n).isSome=false:=by
 unfold y6z at h;split at h
 cases h
 exact Bool.eq_false_iff.2 (by assumption)
theorem j1g {c:Core} {n:Bs} {e:Int} (h:kC c n=.error e):mB c n=.error e:=by rw [mB,h]
theorem z2y {c:Core} {n:Bs} (a:yG c=0) (b:n∈zC c) (h:(zK (yV (qK (zQ c)) (zV c)) n).isSome=true):mB c n=.ok ():=by simp only [mB,nJ a b,h,if_true]
theorem z2x {c:Core} {n:Bs} (a:yG c=0) (b:n∈zC c) (h:(zK (yV (qK (zQ c)) (zV c)) n).isSome=false):mB c n=.error 3:=by simp only [mB,nJ a b,h];rfl
theorem z1h {Φ:Fz} {K:List Res} {w:World} {d0:List Value} {c:Core} {n:Bs} (H:RCore Φ d0 c) (G:Glob Φ) (hL:yG c=0->LOk c) (N:Mem Φ K w) :
  Calls prog 14 #[.agg d0.toArray,.string n] w (fun ee w'=>Out (kC c n) (fun _=>∃y:Value,ee=.returned (.tuple #[y,.int .i64 0])/\True/\Mem Φ (.gs y 9 1 (strs (tD c n))::K) w') (fun e=>ee=.returned (.tuple #[.slice none 0 0,.int .i64 e])/\Mem Φ K w')):=by
 have g:=H
 obtain ⟨p3,c4,p9,T,b0,U,c0,c22,rfl,h2,h8,V0,W0,b1,c1,r0,z0,s0,A0,t0,B0⟩:=RCore.fm H
 refine zL func14 ntmps14 fun Q hQ a J=>?_
 refine Bx fun P w N a J=>?_
 refine go fun a J=>?_
 refine st J rfl rfl rfl (xU J rfl call38 (z6w g G hL N) (fun e0 i0 w j z N a J=>?_) (fun e0 w j N a J=>?_))
 obtain ⟨Ψg,bg⟩:=i0
 obtain ⟨leg,rg⟩:=z
 simp only at leg rg N J
 obtain ⟨h0,Z⟩:=oE j
 have M:=hL h0
 replace g:=RCore.mono _ _ _ _ leg g
 replace G:=G.mono leg
 replace N:=N.nf
 obtain ⟨U0,L0,l0,N0,K0,M0,W,r,F,E,I0,J0⟩:=id rg
 have f0:=r
 obtain ⟨e1,P0,f1,c53,g1,Q0,h1,R0,rfl,X0,V,Y0,Z0,u0,C0,w0,B,x0,D0,y0,E0⟩:=RCore.fm r
 obtain ⟨i1,S0,rfl,X,F0⟩:=F.fm
 obtain ⟨j1,T0,rfl,Y,G0⟩:=E.fm
 refine Qq (fun a J=>?_) (o:=by exact fun J O=>nF false J rfl rfl rfl)
 refine go fun a J=>?_
 replace N:=N.nilRow 9 1
 replace N:=N.nf
 refine go fun a J=>?_
 refine zU (J.ks [1,6,26,27]) N (fun R mm a w=>∃(i:Nat) (u:Value) (acc:List Bs),mm=c.inputs.length - i/\R Ψg [(8,u),(28,.int .i64 i)] [(0,.gs (u) 9 1 (strs acc))] a w/\(tD c n=acc++z0w c n (c.inputs.drop i))) (c.inputs.length - 0) ⟨0,.slice none 0 0,[],rfl,⟨J.pk,N⟩,rfl⟩ ?_
 clear N J
 rintro mm a w ⟨i,u,acc,A,⟨J,N⟩,h⟩ O0 p
 replace N:=N.nf
 by_cases v:i < c.inputs.length
 refine go fun a J=>?_
 obtain ⟨l1,rfl,b,k,k0,q0,p0,D⟩:=V.el B v
 obtain rfl:=id D
 refine Alc fun S w N a J=>?_
 refine Sto 0 fun w N a J=>?_
 refine go fun a J=>?_
 refine yI [1,1,1,2,1,2,1,0,0,0,1,0,1,1,1,1,1] (.q 0 (.q 1 (.q 2 (.q 3 (.q 4 (.q 5 (.q 6 (.q 10 (.e 7 (.e 8 (.e 9 (.e 11 (.q 12 (.q 13 (.q 14 (.q 15 (.q 16 (.done)))))))))))))))))) [0,1,2] J N fun w N=>?_
 have H0:=M.tidy.inp _ (mgQ k)
 refine qO fun a J=>?_
 refine zT call40 (fun w N a J=>?_) (c:=y5a (by omega) N)
 refine jQ fun m1 w N a J=>?_
 refine d_e J rfl rfl rfl (mG J rfl rfl call67 (tS (l:=[(inN b.name)]) rg (Nat.le_trans (M.bound _) (by simp)) N) (fun j0 w n0 N=>⟨fun _=>N.sn (Fz.Le.refl _),fun a J=>?_⟩))
 rcases d:yM ((yW (yV (pF c).next [(inN b.name)]))) n with _ | g0
 have f:=congrArg (zJ true (.string ⟨#[]⟩)) d
 refine d_e J rfl rfl rfl (dO (Ok.cast (zW 0 runUnderlying70 runUnderlying9 zeroValue9 J N.toSees rfl rfl rfl) (show zJ true (.string ⟨#[]⟩) (yM ((yW (yV (pF c).next [(inN b.name)]))) n)=.tuple #[.string ⟨#[]⟩,.bool false] from f)) ⟨fun _=>N.sn (Fz.Le.refl _),fun a J=>?_⟩)
 have m:depP c n b=false:=(q7s (kI d))
 refine go fun a J=>?_
 replace N:=N.dl [1,0]
 refine p _ _ _ (by subst A;omega) ⟨(i+1),(u),(acc),rfl,⟨J.pk,N⟩,?_⟩
 rw [h,j5w (l:=c.inputs) k m]
 obtain ⟨L,t,rfl⟩:=kJ d
 have f:=congrArg (zJ true (.string ⟨#[]⟩)) d
 refine d_e J rfl rfl rfl (dO (Ok.cast (zW 0 runUnderlying70 runUnderlying9 zeroValue9 J N.toSees rfl rfl rfl) (show zJ true (.string ⟨#[]⟩) (yM ((yW (yV (pF c).next [(inN b.name)]))) n)=.tuple #[.string L,.bool true] from f)) ⟨fun _=>N.sn (Fz.Le.refl _),fun a J=>?_⟩)
 have m:depP c n b=true:=(q7t t)
 refine jQ fun I w N a J=>?_
 refine vH 3 xQ (fun s w N a J=>?_) (hb:=by have C:=congrArg List.length h;rw [y3x (l:=c.inputs) k m] at C;have a0:=q6n c n;have a1:=M.il;simp only [laQ,zR,lcQ,lnQ] at C ⊢;omega)
 replace N:Mem Ψg (.gs (I) 9 1 [.string b.name]::.mp j0 (yW (yV (pF c).next [(inN b.name)]))::.blk S (ob [.string b.name,.string b.type] 36)::.gs (s) 9 1 (strs (acc++[b.name]))::.blk P (ob [.slice p3 c.datas.length c4,.slice p9 c.inputs.length T,.slice b0 c.funs.length U,.slice c0 c.outputs.length c22] 27)::K) w:=by rw [qI] at N;exact N
 refine go fun a J=>?_
 replace N:=N.dl [2,1,0]
 refine p _ _ _ (by subst A;omega) ⟨(i+1),(s),((acc++[b.name])),rfl,⟨J.pk,N⟩,?_⟩
 rw [h,y3x (l:=c.inputs) k m];simp
 refine jB ?_
 replace N:=N.le (leg)
 replace N:=N.dl [1]
 have h_:=h
 rw [zB v,z0w,List.filter_nil,List.map_nil,List.append_nil] at h_
 rw [nJ h0 Z,h_];exact ⟨_,rfl,trivial,N⟩
 have a0:=nW j
 refine jB ?_
 replace N:=N.dl [0]
 rw [j];exact ⟨rfl,N⟩
theorem z7v {Φ:Fz} {K:List Res} {w:World} {d0:List Value} {c:Core} {n:Bs} (q:RCore Φ d0 c) (G:Glob Φ) (F:yG c=0->LOk c) (N:Mem Φ K w) :
  Calls prog 26 #[.agg d0.toArray,.string n] w (fun ee w'=>Out (mB c n) (fun _=>∃y:Value×List Bs,ee=.returned (.tuple #[y.1,.int .i64 0])/\PathOk (qK (zQ c)) (zV c) n y.2/\Mem Φ (.gs y.1 9 1 (strs y.2)::K) w') (fun e=>ee=.returned (.tuple #[.slice none 0 0,.int .i64 e])/\Mem Φ K w')):=by
 have b:=q
 obtain ⟨p3,c4,p9,l0,D0,m0,E0,c22,rfl,h2,h8,t0,u0,A0,B0,H,T,I,U,L,V⟩:=RCore.fm q
 refine zL func26 ntmps26 fun Q hQ a J=>?_
 refine Bx fun k0 w N a J=>?_
 refine go fun a J=>?_
 refine st J rfl rfl rfl (xU J rfl call38 (z6w b G F N) (fun z C w d j N a J=>?_) (fun z w d N a J=>?_))
 obtain ⟨Ψg,bg⟩:=C
 obtain ⟨leg,rg⟩:=j
 simp only at leg rg N J
 obtain ⟨s,l⟩:=oE d
 have r:=F s
 replace b:=RCore.mono _ _ _ _ leg b
 replace G:=G.mono leg
 replace N:=N.nf
 obtain ⟨s0,g0,E,j0,f0,i0,t,i,p,m,c0,e0⟩:=id rg
 have B:=i
 obtain ⟨F0,n0,G0,c53,H0,o0,I0,p0,rfl,w0,x0,y0,z0,M,W,P,X,R,Y,S,Z⟩:=RCore.fm i
 obtain ⟨J0,q0,rfl,u,a0⟩:=p.fm
 obtain ⟨K0,r0,rfl,v,b0⟩:=m.fm
 refine Qq (fun a J=>?_) (o:=by exact fun J O=>nF false J rfl rfl rfl)
 refine go fun a J=>?_
 refine st J rfl rfl rfl (xU J rfl call51 (q8w rg (Nat.le_trans r.boundR (by decide)) r.se r.tidy.inp r.il N) (fun A D w f k N a J=>?_) (fun A w f N a J=>?_))
 obtain ⟨pv,pl⟩:=D
 have h:=k
 simp only at h N J
 have g:=q8v f
 replace N:=N.nf
 refine jB ?_
 replace N:=N.le (leg)
 replace N:=N.dl [1]
 rw [z2y s l g];exact ⟨(pv,pl),rfl,h,N⟩
 have g:=y7a f
 refine jB ?_
 replace N:=N.le (leg)
 replace N:=N.dl [0]
 rw [z2x s l g];exact ⟨rfl,N⟩
 have C0:=nW d
 refine jB ?_
 replace N:=N.dl [0]
 rw [j1g d];exact ⟨rfl,N⟩
end Go.Sw
