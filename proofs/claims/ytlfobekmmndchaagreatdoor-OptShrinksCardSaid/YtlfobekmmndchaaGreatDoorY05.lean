import Derived.Test.YtlfobekmmndchaaGreatDoorY04
set_option linter.unusedVariables false
set_option linter.unusedSimpArgs false
namespace Go.Sw
open Go.Proofs Go.Proofs.Tryz
set_option maxRecDepth 20000
set_option maxHeartbeats 4000000
theorem call_no {T:Trc} {s:BS} {e:TE} {c:Bool} (h:zK (aP T) e.op=none):s.call T e c=false:=by rw [BS.call,j1f (gQ h)]
theorem z8u {T:Trc} {s:BS} {e:TE} {c:Bool} {j:Nat} {f:TFn} (h:T.funs.findIdx? (fun f=>decide (f.name=e.op))=some j) (a:T.funs[j]? = some f):s.call T e c=((f.chg==c)&&s.atomL e.args (f.params.map TPar.mod)):=by
 rw [BS.call,j1e h a];dsimp only;cases hq:f.chg <;> cases c <;> simp
theorem y_beqG {n:Nat} {E:List (Nat×Value)} {D:List Deferred} {a:Act} {w:World} {x y:Operand} {b c:Bool} {t ty:TypeId} (J:EnvR n E D a) (d:ev E x=some (.bool b)) (e:ev E y=some (.bool c)) :
  Ok prog a (.binOp .eql 4 x y t) ty w (.bool (b==c)):=by
 cases b <;> cases c
 exact jB (v:=.bool true) J d e rfl (by kernel_rfl);exact jB (v:=.bool false) J d e rfl (by kernel_rfl);exact jB (v:=.bool false) J d e rfl (by kernel_rfl);exact jB (v:=.bool true) J d e rfl (by kernel_rfl)
theorem z8m {Φ:Fz} {K:List Res} {w:World} {bb mb mk ms:Nat} {pa fa:Addr} {lv:Value} {T:Trc} {s:BS} {c:Bool} (RP:RProg Φ pa T ms) {fd:List Value} {F:TFn} (R1:At Φ fa fd) (rf:RTFn Φ fd F) {a0:Addr} {d:List Value} {e:TE} (V:At Φ a0 d) (re:RTE Φ d e) (N:Mem Φ (.blk bb (ob [.pointer (some pa),.pointer (some fa),.map (some mb),.map (some mk),lv] 199)::.mp mk (yB s.kinds)::K) w) :
  Calls prog 196 #[.pointer (some ⟨bb,0,none⟩),.pointer (some a0),.bool c] w (fun ee w'=>Out (dem (s.call T e c)) (fun _=>ee=.returned (.tuple #[])/\Mem Φ (.blk bb (ob [.pointer (some pa),.pointer (some fa),.map (some mb),.map (some mk),lv] 199)::.mp mk (yB s.kinds)::K) w') (fun _=>ee=.panicked jK/\Mem Φ K w')):=by
 obtain ⟨I1,C0,D0,m,Y,m1,B⟩:=RP.ex;obtain ⟨E0,d0,F0,e0,G0,c23,H0,f0,rfl,U0,h9,J1,h0,K1,b1,n1,c1,o1,d1,X,e1,p1⟩:=RTrc.fm Y;replace m:At Φ pa [.slice E0 T.cons.length d0,.slice F0 T.inputs.length e0,.slice G0 T.funs.length c23,.slice H0 T.outputs.length f0,.map (some C0),.map (some D0),.map (some ms)]:=m;obtain ⟨S1,c36,E1,rfl,L1,G,f1,q1⟩:=RTFn.fm rf;obtain ⟨T1,c44,U1,c50,V1,F1,rfl,V0,X0,M1,N1,O1,g1,r1,h1,s1,i1,t1⟩:=RTE.fm G;have D:=re;obtain ⟨W1,G1,X1,H1,Y1,c76,rfl,Y0,Z0,H,P1,Q1,j1,u1,k1,v1,l1,w1⟩:=RTE.fm re;refine zJ func196 ntmps196 fun Q hQ a J=>?_;refine Reg [1,1,1,2,1,1,2,1,1,1,2,2,1,1,1,1,1] [0,1] fun w N a J=>?_;refine go fun a J=>?_;rcases n:jR ((yB (aP T))) e.op with _ | D1
 have j:=congrArg (yA true (ZA)) n;refine Qq (fun a J=>?_) (o:=by exact fun J O=>Ok.cast (yS runUnderlying98 runUnderlying9 zeroValue3 J O rfl rfl B) (show yA true (ZA) (jR ((yB (aP T))) e.op)=.tuple #[ZA,.bool false] from j));refine qI call83 (fun w N=>?_) (c:=zI N);replace N:=N.dl [1,0];rw [call_no (vY n),show dem false=.error () from rfl];exact ⟨rfl,N⟩;obtain ⟨a2,Z,rfl⟩:=mG n;obtain ⟨B0,rfl,t,W⟩:=gR Z;have j:=congrArg (yA true (ZA)) n;refine Qq (fun a J=>?_) (o:=by exact fun J O=>Ok.cast (yS runUnderlying98 runUnderlying9 zeroValue3 J O rfl rfl B) (show yA true (ZA) (jR ((yB (aP T))) e.op)=.tuple #[.int .i64 B0,.bool true] from j));refine go fun a J=>?_;obtain ⟨Z1,rfl,g,q,P0,a1,z,u⟩:=h0.el X W;obtain ⟨x1,K0,J0,rfl,i0,r,o0,L⟩:=RTFn.fm u;obtain ⟨y1,L0,z1,M0,A1,N0,rfl,l0,m0,Q0,R0,S0,p0,u0,q0,w0,r0,x0⟩:=RTE.fm r;refine Qq (fun a J=>?_) (o:=by exact fun J O=>y_beqG J rfl rfl);refine yF call83 (fun b0 w h N a J=>?_) (fun b0 w h N=>?_) (c:=yC (b:=(g.chg==c)) N);refine go fun a J=>?_;have z0:=(j5t RP.ok q).2.2;replace N:=N.nilRow 4 1;replace N:=N.nf;refine yO (J.ks [0,1,55,56]) N (fun R mm a w=>∃(i:Nat) (vr:Value),mm=g.params.length - i/\R Φ [(8,vr),(57,.int .i64 i)] [(0,.gs (vr) 4 1 (gK ((g.params.take i).map TPar.mod)))] a w/\(True)) (g.params.length - 0) ⟨0,ZB,rfl,⟨J.pk,N⟩,trivial⟩ ?_;clear N J;rintro mm a w ⟨i,vr,t0,⟨J,N⟩,j0⟩ I0 I;replace N:=N.nf;by_cases y:i < g.params.length;refine go fun a J=>?_;obtain ⟨C1,rfl,x,P,g0,n0,k0,M⟩:=i0.el L y;obtain rfl:=id M
 refine Alc fun U w N a J=>?_;refine Sto 0 fun w N a J=>?_;refine qR fun v146 w N a J=>?_;refine vU 2 j2w (fun E w N a J=>?_) (hb:=by simp only [oF,List.length_map,List.length_take,lcQ,lnQ];omega);refine go fun a J=>?_;replace N:Mem Φ (.gs (v146) 4 1 [.bool x.mod]::.blk U (ob [.string x.name,.bool x.mod] 125)::.gs (E) 4 1 (gK ((g.params.take (i+1)).map TPar.mod))::.blk bb (ob [.pointer (some pa),.pointer (some fa),.map (some mb),.map (some mk),lv] 199)::.mp mk (yB s.kinds)::K) w:=by rw [jJ P,List.map_append,<- j4p];exact N
 replace N:=N.dl [1,0];refine I _ _ _ (by subst t0;omega) ⟨(i+1),(E),rfl,⟨J.pk,N⟩,?_⟩;trivial;refine go fun a J=>?_;replace N:Mem Φ (.gs (vr) 4 1 (gK (g.params.map TPar.mod))::.blk bb (ob [.pointer (some pa),.pointer (some fa),.map (some mb),.map (some mk),lv] 199)::.mp mk (yB s.kinds)::K) w:=by rw [<- List.take_of_length_le (l:=g.params) (Nat.le_of_not_lt y)];exact N
 have A:=N;clear N;obtain ⟨S,f,N,v⟩:=A.freezeRow (i:=0) rfl;clear A;replace m:=m.mono f;replace G:=RTE.mono _ _ _ _ f G;replace H:=H.mono RAtom.mono f;replace V:=V.mono f;replace D:=RTE.mono _ _ _ _ f D;replace z:=z.mono f;replace u:=RTFn.mono _ _ _ _ f u;replace r:=RTE.mono _ _ _ _ f r;replace N:=N.nf;have p:SliceOf RBoo S 1 _ ((g.params.map TPar.mod)):=⟨_,v,(kX (g.params.map TPar.mod))⟩;obtain ⟨B1,O0,A0,s0,y0⟩:=p.form (by decide);have C:=N;clear N;subst A0;have N:=C;clear C;replace N:=N.ar [] [1,1];refine yF call195 (fun c0 w k N a J=>?_) (fun c0 w k N=>?_) (c:=nE (s:=s) H p N);refine go fun a J=>?_;replace N:=N.le (f);refine hQ _ _ _ (yN J results196 ?_);rw [z8u t q,zC h,Bool.true_and,zC k,show dem true=.ok () from rfl];exact ⟨rfl,N⟩;replace N:=N.le (f);rw [z8u t q,zC h,Bool.true_and,zP k,show dem false=.error () from rfl];exact ⟨rfl,N⟩;replace N:=N.dl [1,0];rw [z8u t q,zP h,Bool.false_and,show dem false=.error () from rfl];exact ⟨rfl,N⟩
section
variable {Φ:Fz} {K:List Res} {w:World}
theorem x4l {s:BS} {e:TE} {n:Int} (a:oB s.sites e.site=none) (b:1<=e.site) (c:e.site<=20000):s.site e n=some ⟨s.list,s.kinds,s.sites++[(e.site,n)]⟩:=by rw [BS.site,if_pos ⟨a,b,c⟩]
theorem z1g {s z:BS} {e:TE} {n:Int} (h:s.site e n=some z):z.list=s.list/\z.kinds=s.kinds:=by
 rw [BS.site] at h;split at h
 cases h;exact ⟨rfl,rfl⟩;cases h
theorem z3u {s:BS} {e:TE} {n:Int} (h:¬(oB s.sites e.site=none/\1<=e.site/\e.site<=20000)):s.site e n=none:=by rw [BS.site,if_neg h]
theorem q0y {bb mb mk ms:Nat} {pa fa:Addr} {lv:Value} {T:Trc} {s:BS} {n:Int} (RP:RProg Φ pa T ms) {fd:List Value} {F:TFn} (G0:At Φ fa fd) (rf:RTFn Φ fd F) {l:Addr} {d:List Value} {e:TE} (F0:At Φ l d) (re:RTE Φ d e) (N:Mem Φ (.blk bb (ob [.pointer (some pa),.pointer (some fa),.map (some mb),.map (some mk),lv] 199)::.imp ms (xZ s.sites)::K) w) :
  Calls prog 197 #[.pointer (some ⟨bb,0,none⟩),.pointer (some l),.int .i64 n] w (fun ee w'=>Out (xQ (s.site e n)) (fun z=>ee=.returned (.tuple #[])/\Mem Φ (.blk bb (ob [.pointer (some pa),.pointer (some fa),.map (some mb),.map (some mk),lv] 199)::.imp ms (xZ z.sites)::K) w') (fun _=>ee=.panicked jK/\Mem Φ K w')):=by
 obtain ⟨t0,x,y,h,k,b0,c0⟩:=RP.ex;obtain ⟨A,p,B,q,C,c23,D,r,rfl,E,h9,u0,w0,x0,M,d0,P,e0,R,f0,S,g0⟩:=RTrc.fm k;replace h:At Φ pa [.slice A T.cons.length p,.slice B T.inputs.length q,.slice C T.funs.length c23,.slice D T.outputs.length r,.map (some x),.map (some y),.map (some ms)]:=h;obtain ⟨H0,c36,p0,rfl,y0,t,U,h0⟩:=RTFn.fm rf;obtain ⟨I0,c44,J0,c50,K0,q0,rfl,G,H,z0,A0,B0,V,i0,W,j0,X,k0⟩:=RTE.fm t;have o0:=re;obtain ⟨L0,r0,M0,s0,N0,c76,rfl,I,L,C0,D0,E0,Y,l0,Z,m0,a0,n0⟩:=RTE.fm re;refine zJ func197 ntmps197 fun Q hQ a J=>?_;refine Reg [1,1,1,2,1,1,2,1,1,1,2,2,1,1,1,1,1] [0,1] fun w N a J=>?_;refine go fun a J=>?_;rcases b:oB s.sites e.site with _ | m
 have f:yA true (.int .i64 0) (z9u (xZ s.sites) e.site)=.tuple #[.int .i64 0,.bool false]:=by rw [y3k,b];rfl
 refine Qq (fun a J=>?_) (o:=by exact fun J O=>Ok.cast (gE 1 runUnderlying158 runUnderlying3 zeroValue3 J O rfl rfl rfl) f);by_cases i:1<=e.site;by_cases j:e.site<=20000;refine zE call83 (fun w N a J=>?_) (c:=pV N);refine Reg [1,1,1,2,1,1,2,1,1,1,2,1,0] [0,1] fun w N a J=>?_;refine go fun a J=>?_;refine aJ J rfl rfl (sW 1 runUnderlying158 runUnderlying3 J N rfl rfl rfl rfl fun w N=>⟨jT (by kernel_rfl),fun a J=>?_⟩);rw [q5t n b] at N;refine go fun a J=>?_;refine hQ _ _ _ (yN J results197 ?_);rw [x4l b i j];exact ⟨rfl,N⟩;refine qI call83 (fun w N=>?_) (c:=zI N);replace N:=N.dl [1,0];rw [z3u fun g=>j g.2.2];exact ⟨rfl,N⟩;refine qI call83 (fun w N=>?_) (c:=zI N);replace N:=N.dl [1,0];rw [z3u fun g=>i g.2.1];exact ⟨rfl,N⟩;have f:yA true (.int .i64 0) (z9u (xZ s.sites) e.site)=.tuple #[.int .i64 m,.bool true]:=by rw [y3k,b];rfl
 refine Qq (fun a J=>?_) (o:=by exact fun J O=>Ok.cast (gE 1 runUnderlying158 runUnderlying3 zeroValue3 J O rfl rfl rfl) f);by_cases u:1<=e.site;by_cases v:e.site<=20000;refine qI call83 (fun w N=>?_) (c:=zI N);replace N:=N.dl [1,0];rw [z3u fun g=>absurd (b.symm.trans g.1) (by simp)];exact ⟨rfl,N⟩;refine qI call83 (fun w N=>?_) (c:=zI N);replace N:=N.dl [1,0];rw [z3u fun g=>v g.2.2];exact ⟨rfl,N⟩;refine qI call83 (fun w N=>?_) (c:=zI N);replace N:=N.dl [1,0];rw [z3u fun g=>u g.2.1];exact ⟨rfl,N⟩
theorem dI {T:Trc} {c:Bool} {e:TE} {s:BS} (a:e.kind=1):yY T c e s=(if zB e true true false false true false true&&gP e.op&&s.atomL e.args [false,false] then some s else none):=by
 unfold yY;simp only [a];simp
theorem z2t {T:Trc} {c:Bool} {e:TE} {s:BS} (a:e.kind=2):yY T c e s=(if zB e true true false false true false true then (match (wH T e.op).bind fun i=>T.cons[i]? with | some c=>(if s.atomL e.args c.fields then some s else none) | none=>none) else none):=by
 unfold yY;rw [if_neg (by omega),if_pos a];rfl
theorem mF {T:Trc} {c:Bool} {e:TE} {s:BS} (a:e.kind=3):yY T c e s=(if zB e true true false false true false true&&s.call T e false then some s else none):=by
 unfold yY;simp only [a];simp
theorem gO {T:Trc} {c:Bool} {e:TE} {s:BS} (a:e.kind=4):yY T c e s=(if zB e true true false true true false true&&s.call T e true then s.site e e.args.length else none):=by
 unfold yY;simp only [a];simp
theorem mE {T:Trc} {c:Bool} {e:TE} {s:BS} (a:e.kind=5):yY T c e s=(if zB e true false false true true false true&&c&&s.atomL e.args [true] then s.site e (-1) else none):=by
 unfold yY;simp only [a];simp
theorem wZ {T:Trc} {c:Bool} {e:TE} {s:BS} (a:e.kind=6):yY T c e s=(if zB e true false true false false false true&&decide (0<=e.num)&&decide (e.num < T.inputs.length) then some s else none):=by
 unfold yY;simp only [a];simp
theorem nW {T:Trc} {c:Bool} {e:TE} {s:BS} (a:e.kind=8):yY T c e s=(if zB e false false false false true false false && !c&&s.atomL e.args [false] then some s else none):=by
 unfold yY;simp only [a];simp
theorem pA {T:Trc} {c:Bool} {e:TE} {s:BS} (a:e.kind=9):yY T c e s=(if zB e false false false false true false false&&c&&s.atomL e.args [false] then some s else none):=by
 unfold yY;simp only [a];simp
theorem cG {T:Trc} {c:Bool} {e:TE} {s:BS} (a:e.kind=10):yY T c e s=(if zB e false true false false true false false&&s.call T e c then some s else none):=by
 unfold yY;simp only [a];simp
theorem q2h {T:Trc} {c:Bool} {e:TE} {s:BS} (a:e.kind=2) (h:T.cons.findIdx? (fun c=>decide (c.name=e.op))=none):yY T c e s=none:=by
 rw [z2t a,show wH T e.op=none from h];simp
theorem dH {T:Trc} {c:Bool} {e:TE} {s:BS} {j:Nat} {x:TCon} (a:e.kind=2) (h:T.cons.findIdx? (fun c=>decide (c.name=e.op))=some j) (b:T.cons[j]? = some x):yY T c e s=(if zB e true true false false true false true&&s.atomL e.args x.fields then some s else none):=by
 rw [z2t a,show wH T e.op=some j from h];simp only [Option.bind_some,b];cases zB e true true false false true false true <;> simp
theorem bop_ok {bb mb mk ms:Nat} {pa fa:Addr} {lv:Value} {T:Trc} {s:BS} (RP:RProg Φ pa T ms) {fd:List Value} {F:TFn} (U0:At Φ fa fd) (rf:RTFn Φ fd F) {C:Addr} {d:List Value} {e:TE} (A:At Φ C d) (re:RTE Φ d e) (r:e.kind=1) (N:Mem Φ (.blk bb (ob [.pointer (some pa),.pointer (some fa),.map (some mb),.map (some mk),lv] 199)::.mp mb (yB (vV s.list))::.mp mk (yB s.kinds)::.gs lv 125 2 (vL s.list)::.imp ms (xZ s.sites)::K) w) :
  Calls prog 159 #[.pointer (some ⟨bb,0,none⟩),.pointer (some C)] w (fun ee w'=>Out (xQ (yY T F.chg e s)) (fun z=>ee=.returned (.tuple #[])/\Mem Φ (.blk bb (ob [.pointer (some pa),.pointer (some fa),.map (some mb),.map (some mk),lv] 199)::.mp mb (yB (vV z.list))::.mp mk (yB z.kinds)::.gs lv 125 2 (vL z.list)::.imp ms (xZ z.sites)::K) w') (fun _=>ee=.panicked jK/\Mem Φ K w')):=by
 have v:=rf;obtain ⟨J0,L,M,k,B,p0,q0⟩:=RP.ex;obtain ⟨P,E,R,G,S,c23,U,H,rfl,Y,h9,K0,L0,M0,d0,r0,e0,s0,f0,t0,g0,u0⟩:=RTrc.fm B;replace k:At Φ pa [.slice P T.cons.length E,.slice R T.inputs.length G,.slice S T.funs.length c23,.slice U T.outputs.length H,.map (some L),.map (some M),.map (some ms)]:=k;obtain ⟨V0,c36,E0,rfl,N0,x,h0,w0⟩:=RTFn.fm rf;obtain ⟨X0,c44,Y0,c50,Z0,F0,rfl,Z,a0,O0,P0,Q0,i0,x0,j0,y0,k0,z0⟩:=RTE.fm x;have p:=re;obtain ⟨a1,G0,b1,H0,c1,c76,rfl,b0,c0,y,R0,S0,l0,A0,m0,B0,n0,C0⟩:=RTE.fm re;refine zJ func159 ntmps159 fun Q hQ a J=>?_;refine yF call194 (fun V w j N a J=>?_) (fun V w j N=>?_) (c:=y9f A p N);refine zE call183 (fun w N a J=>?_) (c:=j1x N);refine yF call83 (fun W w l N a J=>?_) (fun W w l N=>?_) (c:=yC (b:=(gP e.op)) N);refine qR fun e1 w N a J=>?_;replace N:=N.nf;have t:=N;clear N;obtain ⟨D,f,N,q⟩:=t.freezeRow (i:=0) rfl;clear t;replace k:=k.mono f;replace x:=RTE.mono _ _ _ _ f x;replace y:=y.mono RAtom.mono f;replace A:=A.mono f;replace p:=RTE.mono _ _ _ _ f p;replace v:=RTFn.mono _ _ _ _ f v;replace N:=N.nf;have o:SliceOf RBoo D 1 _ ([false,false]):=⟨_,q,(kX ([false,false]))⟩;obtain ⟨d1,I0,I,o0,D0⟩:=o.form (by decide);have u:=N;clear N;subst I;have N:=u;clear u;replace N:=N.ar [] [2,1];refine yF call195 (fun X w n N a J=>?_) (fun X w n N=>?_) (c:=nE (s:=s) y o N);refine go fun a J=>?_;replace N:=N.le (f);replace N:=N.ar [] [4,4,3,4,4];refine hQ _ _ _ (yN J results159 ?_);have g:=zC j;have h:=zC l;have m:=zC n
 first | (rw [dI r,if_pos (by simp [g,h,m])];exact ⟨rfl,N⟩) | (rw [dI r,if_pos (by simp [g,h,m] <;> omega)];exact ⟨rfl,N⟩)
 replace N:=N.le (f);replace N:=N.dl [2,1,0];have g:=zC j;have h:=zC l;have m:=zP n
 first | (rw [dI r,if_neg (by simp [g,h,m])];exact ⟨rfl,N⟩) | (rw [dI r,if_neg (by simp [g,h,m] <;> omega)];exact ⟨rfl,N⟩)
 replace N:=N.dl [4,3,2,1,0];have g:=zC j;have h:=zP l
 first | (rw [dI r,if_neg (by simp [g,h])];exact ⟨rfl,N⟩) | (rw [dI r,if_neg (by simp [g,h] <;> omega)];exact ⟨rfl,N⟩)
 replace N:=N.dl [4,3,2,1,0];have g:=zP j
 first | (rw [dI r,if_neg (by simp [g])];exact ⟨rfl,N⟩) | (rw [dI r,if_neg (by simp [g] <;> omega)];exact ⟨rfl,N⟩)
theorem bcon_ok {bb mb mk ms:Nat} {pa fa:Addr} {lv:Value} {T:Trc} {s:BS} (RP:RProg Φ pa T ms) {fd:List Value} {F:TFn} (Z0:At Φ fa fd) (rf:RTFn Φ fd F) {y:Addr} {d:List Value} {e:TE} (I:At Φ y d) (re:RTE Φ d e) (p:e.kind=2) (N:Mem Φ (.blk bb (ob [.pointer (some pa),.pointer (some fa),.map (some mb),.map (some mk),lv] 199)::.mp mb (yB (vV s.list))::.mp mk (yB s.kinds)::.gs lv 125 2 (vL s.list)::.imp ms (xZ s.sites)::K) w) :
  Calls prog 160 #[.pointer (some ⟨bb,0,none⟩),.pointer (some y)] w (fun ee w'=>Out (xQ (yY T F.chg e s)) (fun z=>ee=.returned (.tuple #[])/\Mem Φ (.blk bb (ob [.pointer (some pa),.pointer (some fa),.map (some mb),.map (some mk),lv] 199)::.mp mb (yB (vV z.list))::.mp mk (yB z.kinds)::.gs lv 125 2 (vL z.list)::.imp ms (xZ z.sites)::K) w') (fun _=>ee=.panicked jK/\Mem Φ K w')):=by
 have G0:=rf;obtain ⟨M0,R,S,m,v,n,t0⟩:=RP.ex;obtain ⟨U,C,V,D,W,c23,X,E,rfl,c0,h9,N0,O0,P0,i0,u,j0,u0,k0,w0,l0,x0⟩:=RTrc.fm v;replace m:At Φ pa [.slice U T.cons.length C,.slice V T.inputs.length D,.slice W T.funs.length c23,.slice X T.outputs.length E,.map (some R),.map (some S),.map (some ms)]:=m;obtain ⟨a1,c36,I0,rfl,Q0,G,m0,y0⟩:=RTFn.fm rf;obtain ⟨b1,c44,c1,c50,d1,J0,rfl,d0,e0,R0,S0,U0,n0,z0,o0,A0,p0,B0⟩:=RTE.fm G;have B:=re;obtain ⟨e1,K0,f1,L0,g1,c76,rfl,f0,g0,H,V0,X0,q0,C0,r0,D0,s0,E0⟩:=RTE.fm re;refine zJ func160 ntmps160 fun Q hQ a J=>?_;refine yF call194 (fun Y w j N a J=>?_) (fun Y w j N=>?_) (c:=y9f I B N);refine Reg [1,1,1,2,1,1,2,1,1,1,2,2,1,1,1,1,1] [0,1,2,3,4] fun w N a J=>?_;refine go fun a J=>?_;rcases h:jR ((yB (dF T))) e.op with _ | H0
 have f:=congrArg (yA true (ZA)) h;refine Qq (fun a J=>?_) (o:=by exact fun J O=>Ok.cast (yS runUnderlying98 runUnderlying9 zeroValue3 J O rfl rfl n) (show yA true (ZA) (jR ((yB (dF T))) e.op)=.tuple #[ZA,.bool false] from f));refine qI call83 (fun w N=>?_) (c:=zI N);replace N:=N.dl [4,3,2,1,0];rw [q2h p (gQ (vY h))];exact ⟨rfl,N⟩;obtain ⟨j1,x,rfl⟩:=mG h;obtain ⟨P,rfl,i,t⟩:=gR x;have f:=congrArg (yA true (ZA)) h;refine Qq (fun a J=>?_) (o:=by exact fun J O=>Ok.cast (yS runUnderlying98 runUnderlying9 zeroValue3 J O rfl rfl n) (show yA true (ZA) (jR ((yB (dF T))) e.op)=.tuple #[.int .i64 P,.bool true] from f));refine zE call83 (fun w N a J=>?_) (c:=pV N);refine Reg [1,1,1,1,2,1,1,1,2,1,1,1,2,1,1,1,2,0] [0,1,2,3,4] fun w N a J=>?_;refine go fun a J=>?_;obtain ⟨h1,rfl,i1,k,a0,h0,b0,q⟩:=h9.el u t;obtain ⟨F0,Z,rfl,r,L,M⟩:=RTCon.fm q;replace N:=N.ar [] [2,1];refine yF call195 (fun A w g N a J=>?_) (fun A w g N=>?_) (c:=nE (s:=s) H r N);refine go fun a J=>?_;replace N:=N.ar [] [4,4,3,4,4];refine hQ _ _ _ (yN J results160 ?_);have b:=zC j;have l:=zC g
 first | (rw [dH p i k,if_pos (by simp [b,l])];exact ⟨rfl,N⟩) | (rw [dH p i k,if_pos (by simp [b,l] <;> omega)];exact ⟨rfl,N⟩)
 replace N:=N.dl [2,1,0];have b:=zC j;have l:=zP g
 first | (rw [dH p i k,if_neg (by simp [b,l])];exact ⟨rfl,N⟩) | (rw [dH p i k,if_neg (by simp [b,l] <;> omega)];exact ⟨rfl,N⟩)
 replace N:=N.dl [4,3,2,1,0];have b:=zP j
 first | (rw [z2t p,if_neg (by simp [b])];exact ⟨rfl,N⟩) | (rw [z2t p,if_neg (by simp [b] <;> omega)];exact ⟨rfl,N⟩)
theorem q6p {bb mb mk ms:Nat} {pa fa:Addr} {lv:Value} {T:Trc} {s:BS} (RP:RProg Φ pa T ms) {fd:List Value} {F:TFn} (u:At Φ fa fd) (rf:RTFn Φ fd F) {n:Addr} {d:List Value} {e:TE} (l:At Φ n d) (re:RTE Φ d e) (k:e.kind=3) (N:Mem Φ (.blk bb (ob [.pointer (some pa),.pointer (some fa),.map (some mb),.map (some mk),lv] 199)::.mp mb (yB (vV s.list))::.mp mk (yB s.kinds)::.gs lv 125 2 (vL s.list)::.imp ms (xZ s.sites)::K) w) :
  Calls prog 161 #[.pointer (some ⟨bb,0,none⟩),.pointer (some n)] w (fun ee w'=>Out (xQ (yY T F.chg e s)) (fun z=>ee=.returned (.tuple #[])/\Mem Φ (.blk bb (ob [.pointer (some pa),.pointer (some fa),.map (some mb),.map (some mk),lv] 199)::.mp mb (yB (vV z.list))::.mp mk (yB z.kinds)::.gs lv 125 2 (vL z.list)::.imp ms (xZ z.sites)::K) w') (fun _=>ee=.panicked jK/\Mem Φ K w')):=by
 have o:=rf;obtain ⟨t0,v,x,i,m,c0,d0⟩:=RP.ex;obtain ⟨y,p,A,q,B,c23,C,r,rfl,G,h9,u0,w0,x0,P,e0,R,f0,S,g0,U,h0⟩:=RTrc.fm m;replace i:At Φ pa [.slice y T.cons.length p,.slice A T.inputs.length q,.slice B T.funs.length c23,.slice C T.outputs.length r,.map (some v),.map (some x),.map (some ms)]:=i;obtain ⟨F0,c36,p0,rfl,y0,t,V,i0⟩:=RTFn.fm rf;obtain ⟨G0,c44,H0,c50,I0,q0,rfl,H,I,z0,A0,B0,W,j0,X,k0,Y,l0⟩:=RTE.fm t;have j:=re;obtain ⟨J0,r0,K0,s0,L0,c76,rfl,L,M,C0,D0,E0,Z,m0,a0,n0,b0,o0⟩:=RTE.fm re;refine zJ func161 ntmps161 fun Q hQ a J=>?_;refine yF call194 (fun D w f N a J=>?_) (fun D w f N=>?_) (c:=y9f l j N);replace N:=N.ar [] [2,1];refine yF call196 (fun E w h N a J=>?_) (fun E w h N=>?_) (c:=z8m (s:=s) (c:=false) RP u o l j N);refine go fun a J=>?_;replace N:=N.ar [] [4,4,3,4,4];refine hQ _ _ _ (yN J results161 ?_);have b:=zC f;have g:=zC h
 first | (rw [mF k,if_pos (by simp [b,g])];exact ⟨rfl,N⟩) | (rw [mF k,if_pos (by simp [b,g] <;> omega)];exact ⟨rfl,N⟩)
 replace N:=N.dl [2,1,0];have b:=zC f;have g:=zP h
 first | (rw [mF k,if_neg (by simp [b,g])];exact ⟨rfl,N⟩) | (rw [mF k,if_neg (by simp [b,g] <;> omega)];exact ⟨rfl,N⟩)
 replace N:=N.dl [4,3,2,1,0];have b:=zP f
 first | (rw [mF k,if_neg (by simp [b])];exact ⟨rfl,N⟩) | (rw [mF k,if_neg (by simp [b] <;> omega)];exact ⟨rfl,N⟩)
theorem bmod_ok {bb mb mk ms:Nat} {pa fa:Addr} {lv:Value} {T:Trc} {s:BS} (RP:RProg Φ pa T ms) {fd:List Value} {F:TFn} (p:At Φ fa fd) (rf:RTFn Φ fd F) {r:Addr} {d:List Value} {e:TE} (m:At Φ r d) (re:RTE Φ d e) (o:e.kind=4) (N:Mem Φ (.blk bb (ob [.pointer (some pa),.pointer (some fa),.map (some mb),.map (some mk),lv] 199)::.mp mb (yB (vV s.list))::.mp mk (yB s.kinds)::.gs lv 125 2 (vL s.list)::.imp ms (xZ s.sites)::K) w) :
  Calls prog 162 #[.pointer (some ⟨bb,0,none⟩),.pointer (some r)] w (fun ee w'=>Out (xQ (yY T F.chg e s)) (fun z=>ee=.returned (.tuple #[])/\Mem Φ (.blk bb (ob [.pointer (some pa),.pointer (some fa),.map (some mb),.map (some mk),lv] 199)::.mp mb (yB (vV z.list))::.mp mk (yB z.kinds)::.gs lv 125 2 (vL z.list)::.imp ms (xZ z.sites)::K) w') (fun _=>ee=.panicked jK/\Mem Φ K w')):=by
 have l:=rf;obtain ⟨z0,B,C,k,q,h0,i0⟩:=RP.ex;obtain ⟨D,t,E,u,G,c23,H,v,rfl,P,h9,A0,B0,C0,W,j0,X,k0,Y,l0,Z,m0⟩:=RTrc.fm q;replace k:At Φ pa [.slice D T.cons.length t,.slice E T.inputs.length u,.slice G T.funs.length c23,.slice H T.outputs.length v,.map (some B),.map (some C),.map (some ms)]:=k;obtain ⟨K0,c36,u0,rfl,D0,x,a0,n0⟩:=RTFn.fm rf;obtain ⟨L0,c44,M0,c50,N0,w0,rfl,R,S,E0,F0,G0,b0,o0,c0,p0,d0,q0⟩:=RTE.fm x;have j:=re;obtain ⟨O0,x0,P0,y0,Q0,c76,rfl,U,V,H0,I0,J0,e0,r0,f0,s0,g0,t0⟩:=RTE.fm re;refine zJ func162 ntmps162 fun Q hQ a J=>?_;refine yF call194 (fun I w f N a J=>?_) (fun I w f N=>?_) (c:=x2o m j N);replace N:=N.ar [] [2,1];refine yF call196 (fun L w g N a J=>?_) (fun L w g N=>?_) (c:=z8m (s:=s) (c:=true) RP p l m j N);replace N:=N.ar [] [4,1];refine yF call197 (fun M w h N a J=>?_) (fun M w h N=>?_) (c:=q0y (s:=s) (n:=((e.args.length:Nat):Int)) RP p l m j N);refine go fun a J=>?_;replace N:=N.ar [] [1,4,3,4,4];refine hQ _ _ _ (yN J results162 ?_);have b:=zC f;have i:=zC g;rw [gO o,if_pos (by simp [b,i])];obtain ⟨A,y⟩:=z1g (zS h);rw [h];refine ⟨rfl,?_⟩;rw [A,y];exact N;replace N:=N.dl [2,1,0];have b:=zC f;have i:=zC g;rw [gO o,if_pos (by simp [b,i])];rw [h];exact ⟨rfl,N⟩;replace N:=N.dl [2,1,0];have b:=zC f;have i:=zP g
 first | (rw [gO o,if_neg (by simp [b,i])];exact ⟨rfl,N⟩) | (rw [gO o,if_neg (by simp [b,i] <;> omega)];exact ⟨rfl,N⟩)
 replace N:=N.dl [4,3,2,1,0];have b:=zP f
 first | (rw [gO o,if_neg (by simp [b])];exact ⟨rfl,N⟩) | (rw [gO o,if_neg (by simp [b] <;> omega)];exact ⟨rfl,N⟩)
theorem j8z {bb mb mk ms:Nat} {pa fa:Addr} {lv:Value} {T:Trc} {s:BS} (RP:RProg Φ pa T ms) {fd:List Value} {F:TFn} (D:At Φ fa fd) (rf:RTFn Φ fd F) {G:Addr} {d:List Value} {e:TE} (u:At Φ G d) (re:RTE Φ d e) (x:e.kind=5) (N:Mem Φ (.blk bb (ob [.pointer (some pa),.pointer (some fa),.map (some mb),.map (some mk),lv] 199)::.mp mb (yB (vV s.list))::.mp mk (yB s.kinds)::.gs lv 125 2 (vL s.list)::.imp ms (xZ s.sites)::K) w) :
  Calls prog 163 #[.pointer (some ⟨bb,0,none⟩),.pointer (some G)] w (fun ee w'=>Out (xQ (yY T F.chg e s)) (fun z=>ee=.returned (.tuple #[])/\Mem Φ (.blk bb (ob [.pointer (some pa),.pointer (some fa),.map (some mb),.map (some mk),lv] 199)::.mp mb (yB (vV z.list))::.mp mk (yB z.kinds)::.gs lv 125 2 (vL z.list)::.imp ms (xZ z.sites)::K) w') (fun _=>ee=.panicked jK/\Mem Φ K w')):=by
 have t:=rf;obtain ⟨P0,U,V,m,E,w0,x0⟩:=RP.ex;obtain ⟨W,I,X,L,Y,c23,Z,M,rfl,e0,h9,Q0,R0,S0,j0,y0,k0,z0,l0,A0,m0,B0⟩:=RTrc.fm E;replace m:At Φ pa [.slice W T.cons.length I,.slice X T.inputs.length L,.slice Y T.funs.length c23,.slice Z T.outputs.length M,.map (some U),.map (some V),.map (some ms)]:=m;obtain ⟨b1,c36,K0,rfl,U0,B,n0,C0⟩:=RTFn.fm rf;obtain ⟨c1,c44,d1,c50,e1,L0,rfl,f0,g0,V0,X0,Y0,o0,D0,p0,E0,q0,F0⟩:=RTE.fm B;have p:=re;obtain ⟨f1,M0,g1,N0,h1,c76,rfl,h0,i0,C,Z0,a1,r0,G0,s0,H0,t0,I0⟩:=RTE.fm re;refine zJ func163 ntmps163 fun Q hQ a J=>?_;refine yF call194 (fun a0 w h N a J=>?_) (fun a0 w h N=>?_) (c:=j6o u p N);refine yF call83 (fun b0 w l N a J=>?_) (fun b0 w l N=>?_) (c:=yC (b:=F.chg) N);refine qR fun j1 w N a J=>?_;replace N:=N.nf;have y:=N;clear N;obtain ⟨H,f,N,v⟩:=y.freezeRow (i:=0) rfl;clear y;replace RP:=RP.mono f;replace m:=m.mono f;replace B:=RTE.mono _ _ _ _ f B;replace D:=D.mono f;replace C:=C.mono RAtom.mono f;replace u:=u.mono f;replace p:=RTE.mono _ _ _ _ f p;replace t:=RTFn.mono _ _ _ _ f t;replace N:=N.nf;have r:SliceOf RBoo H 1 _ ([true]):=⟨_,v,(kX [true])⟩;obtain ⟨i1,O0,S,u0,J0⟩:=r.form (by decide);have A:=N;clear N;subst S;have N:=A;clear A;replace N:=N.ar [] [2,1];refine yF call195 (fun c0 w o N a J=>?_) (fun c0 w o N=>?_) (c:=nE (s:=s) C r N);replace N:=N.ar [] [4,1];refine yF call197 (fun d0 w k N a J=>?_) (fun d0 w k N=>?_) (c:=q0y (s:=s) (n:=-1) RP D t u p N);refine go fun a J=>?_;replace N:=N.le (f);replace N:=N.ar [] [1,4,3,4,4]
 refine hQ _ _ _ (yN J results163 ?_);have g:=zC h;have j:=zC l;have q:=zC o;rw [mE x,if_pos (by simp [g,j,q])];obtain ⟨R,P⟩:=z1g (zS k);rw [k];refine ⟨rfl,?_⟩;rw [R,P];exact N;replace N:=N.le (f);replace N:=N.dl [2,1,0];have g:=zC h;have j:=zC l;have q:=zC o;rw [mE x,if_pos (by simp [g,j,q])];rw [k];exact ⟨rfl,N⟩;replace N:=N.le (f);replace N:=N.dl [2,1,0];have g:=zC h;have j:=zC l;have q:=zP o
 first | (rw [mE x,if_neg (by simp [g,j,q])];exact ⟨rfl,N⟩) | (rw [mE x,if_neg (by simp [g,j,q] <;> omega)];exact ⟨rfl,N⟩)
 replace N:=N.dl [4,3,2,1,0];have g:=zC h;have j:=zP l
 first | (rw [mE x,if_neg (by simp [g,j])];exact ⟨rfl,N⟩) | (rw [mE x,if_neg (by simp [g,j] <;> omega)];exact ⟨rfl,N⟩)
 replace N:=N.dl [4,3,2,1,0];have g:=zP h
 first | (rw [mE x,if_neg (by simp [g])];exact ⟨rfl,N⟩) | (rw [mE x,if_neg (by simp [g] <;> omega)];exact ⟨rfl,N⟩)
theorem j4k {bb mb mk ms:Nat} {pa fa:Addr} {lv:Value} {T:Trc} {s:BS} (RP:RProg Φ pa T ms) {fd:List Value} {F:TFn} (H0:At Φ fa fd) (rf:RTFn Φ fd F) {n:Addr} {d:List Value} {e:TE} (v:At Φ n d) (re:RTE Φ d e) (l:e.kind=6) (N:Mem Φ (.blk bb (ob [.pointer (some pa),.pointer (some fa),.map (some mb),.map (some mk),lv] 199)::.mp mb (yB (vV s.list))::.mp mk (yB s.kinds)::.gs lv 125 2 (vL s.list)::.imp ms (xZ s.sites)::K) w) :
  Calls prog 164 #[.pointer (some ⟨bb,0,none⟩),.pointer (some n)] w (fun ee w'=>Out (xQ (yY T F.chg e s)) (fun z=>ee=.returned (.tuple #[])/\Mem Φ (.blk bb (ob [.pointer (some pa),.pointer (some fa),.map (some mb),.map (some mk),lv] 199)::.mp mb (yB (vV z.list))::.mp mk (yB z.kinds)::.gs lv 125 2 (vL z.list)::.imp ms (xZ z.sites)::K) w') (fun _=>ee=.panicked jK/\Mem Φ K w')):=by
 have q0:=rf;obtain ⟨w0,x,y,k,m,d0,e0⟩:=RP.ex;obtain ⟨A,q,B,r,C,c23,D,t,rfl,H,h9,x0,y0,z0,R,f0,S,g0,U,h0,V,i0⟩:=RTrc.fm m;replace k:At Φ pa [.slice A T.cons.length q,.slice B T.inputs.length r,.slice C T.funs.length c23,.slice D T.outputs.length t,.map (some x),.map (some y),.map (some ms)]:=k;obtain ⟨I0,c36,r0,rfl,A0,u,W,j0⟩:=RTFn.fm rf;obtain ⟨J0,c44,K0,c50,L0,s0,rfl,I,L,B0,C0,D0,X,k0,Y,l0,Z,m0⟩:=RTE.fm u;have p:=re;obtain ⟨M0,t0,N0,u0,O0,c76,rfl,M,P,E0,F0,G0,a0,n0,b0,o0,c0,p0⟩:=RTE.fm re;refine zJ func164 ntmps164 fun Q hQ a J=>?_;refine yF call194 (fun E w g N a J=>?_) (fun E w g N=>?_) (c:=q8k v p N);refine Reg [1,1,1,2,1,1,1,1,1,2,1,1,1,2,1,1,1,2,1,1,1,0] [0,1,2,3,4] fun w N a J=>?_;by_cases h:0<=e.num;refine Qq (fun a J=>?_) (o:=by exact fun J O=>j0h J rfl rfl);refine yF call83 (fun G w j N a J=>?_) (fun G w j N=>?_) (c:=yC (b:=(decide (e.num < ((T.inputs.length:Nat):Int)))) N);refine go fun a J=>?_;refine hQ _ _ _ (yN J results164 ?_);have f:=zC g;have i:=zC j
 first | (rw [wZ l,if_pos (by simp [f,i,h])];exact ⟨rfl,N⟩) | (rw [wZ l,if_pos (by simp [f,i,h] <;> omega)];exact ⟨rfl,N⟩)
 replace N:=N.dl [4,3,2,1,0];have f:=zC g;have i:=zP j
 first | (rw [wZ l,if_neg (by simp [f,i,h])];exact ⟨rfl,N⟩) | (rw [wZ l,if_neg (by simp [f,i,h] <;> omega)];exact ⟨rfl,N⟩)
 refine qI call83 (fun w N=>?_) (c:=zI N);replace N:=N.dl [4,3,2,1,0];have f:=zC g
 first | (rw [wZ l,if_neg (by simp [f,h])];exact ⟨rfl,N⟩) | (rw [wZ l,if_neg (by simp [f,h] <;> omega)];exact ⟨rfl,N⟩)
 replace N:=N.dl [4,3,2,1,0];have f:=zP g
 first | (rw [wZ l,if_neg (by simp [f])];exact ⟨rfl,N⟩) | (rw [wZ l,if_neg (by simp [f] <;> omega)];exact ⟨rfl,N⟩)
theorem bret_ok {bb mb mk ms:Nat} {pa fa:Addr} {lv:Value} {T:Trc} {s:BS} (RP:RProg Φ pa T ms) {fd:List Value} {F:TFn} (U0:At Φ fa fd) (rf:RTFn Φ fd F) {C:Addr} {d:List Value} {e:TE} (A:At Φ C d) (re:RTE Φ d e) (r:e.kind=8) (N:Mem Φ (.blk bb (ob [.pointer (some pa),.pointer (some fa),.map (some mb),.map (some mk),lv] 199)::.mp mb (yB (vV s.list))::.mp mk (yB s.kinds)::.gs lv 125 2 (vL s.list)::.imp ms (xZ s.sites)::K) w) :
  Calls prog 166 #[.pointer (some ⟨bb,0,none⟩),.pointer (some C)] w (fun ee w'=>Out (xQ (yY T F.chg e s)) (fun z=>ee=.returned (.tuple #[])/\Mem Φ (.blk bb (ob [.pointer (some pa),.pointer (some fa),.map (some mb),.map (some mk),lv] 199)::.mp mb (yB (vV z.list))::.mp mk (yB z.kinds)::.gs lv 125 2 (vL z.list)::.imp ms (xZ z.sites)::K) w') (fun _=>ee=.panicked jK/\Mem Φ K w')):=by
 have v:=rf;obtain ⟨J0,L,M,k,B,p0,q0⟩:=RP.ex;obtain ⟨P,E,R,G,S,c23,U,H,rfl,Y,h9,K0,L0,M0,d0,r0,e0,s0,f0,t0,g0,u0⟩:=RTrc.fm B;replace k:At Φ pa [.slice P T.cons.length E,.slice R T.inputs.length G,.slice S T.funs.length c23,.slice U T.outputs.length H,.map (some L),.map (some M),.map (some ms)]:=k;obtain ⟨V0,c36,E0,rfl,N0,x,h0,w0⟩:=RTFn.fm rf;obtain ⟨X0,c44,Y0,c50,Z0,F0,rfl,Z,a0,O0,P0,Q0,i0,x0,j0,y0,k0,z0⟩:=RTE.fm x;have p:=re;obtain ⟨a1,G0,b1,H0,c1,c76,rfl,b0,c0,y,R0,S0,l0,A0,m0,B0,n0,C0⟩:=RTE.fm re;refine zJ func166 ntmps166 fun Q hQ a J=>?_;refine yF call194 (fun V w j N a J=>?_) (fun V w j N=>?_) (c:=q2y A p N);refine yF call83 (fun W w l N a J=>?_) (fun W w l N=>?_) (c:=yC (b:=(!F.chg)) N);refine qR fun e1 w N a J=>?_;replace N:=N.nf;have t:=N;clear N;obtain ⟨D,f,N,q⟩:=t.freezeRow (i:=0) rfl;clear t;replace k:=k.mono f;replace x:=RTE.mono _ _ _ _ f x;replace y:=y.mono RAtom.mono f;replace A:=A.mono f;replace p:=RTE.mono _ _ _ _ f p;replace v:=RTFn.mono _ _ _ _ f v;replace N:=N.nf;have o:SliceOf RBoo D 1 _ ([false]):=⟨_,q,(kX [false])⟩;obtain ⟨d1,I0,I,o0,D0⟩:=o.form (by decide);have u:=N;clear N;subst I;have N:=u;clear u;replace N:=N.ar [] [2,1];refine yF call195 (fun X w n N a J=>?_) (fun X w n N=>?_) (c:=nE (s:=s) y o N);refine go fun a J=>?_;replace N:=N.le (f);replace N:=N.ar [] [4,4,3,4,4];refine hQ _ _ _ (yN J results166 ?_);have g:=zC j;have h:=zC l;have m:=zC n
 first | (rw [nW r,if_pos (by simp [g,h,m])];exact ⟨rfl,N⟩) | (rw [nW r,if_pos (by simp [g,h,m] <;> omega)];exact ⟨rfl,N⟩)
 replace N:=N.le (f);replace N:=N.dl [2,1,0];have g:=zC j;have h:=zC l;have m:=zP n
 first | (rw [nW r,if_neg (by simp [g,h,m])];exact ⟨rfl,N⟩) | (rw [nW r,if_neg (by simp [g,h,m] <;> omega)];exact ⟨rfl,N⟩)
 replace N:=N.dl [4,3,2,1,0];have g:=zC j;have h:=zP l
 first | (rw [nW r,if_neg (by simp [g,h])];exact ⟨rfl,N⟩) | (rw [nW r,if_neg (by simp [g,h] <;> omega)];exact ⟨rfl,N⟩)
 replace N:=N.dl [4,3,2,1,0];have g:=zP j
 first | (rw [nW r,if_neg (by simp [g])];exact ⟨rfl,N⟩) | (rw [nW r,if_neg (by simp [g] <;> omega)];exact ⟨rfl,N⟩)
theorem j4s {bb mb mk ms:Nat} {pa fa:Addr} {lv:Value} {T:Trc} {s:BS} (RP:RProg Φ pa T ms) {fd:List Value} {F:TFn} (U0:At Φ fa fd) (rf:RTFn Φ fd F) {C:Addr} {d:List Value} {e:TE} (A:At Φ C d) (re:RTE Φ d e) (r:e.kind=9) (N:Mem Φ (.blk bb (ob [.pointer (some pa),.pointer (some fa),.map (some mb),.map (some mk),lv] 199)::.mp mb (yB (vV s.list))::.mp mk (yB s.kinds)::.gs lv 125 2 (vL s.list)::.imp ms (xZ s.sites)::K) w) :
  Calls prog 167 #[.pointer (some ⟨bb,0,none⟩),.pointer (some C)] w (fun ee w'=>Out (xQ (yY T F.chg e s)) (fun z=>ee=.returned (.tuple #[])/\Mem Φ (.blk bb (ob [.pointer (some pa),.pointer (some fa),.map (some mb),.map (some mk),lv] 199)::.mp mb (yB (vV z.list))::.mp mk (yB z.kinds)::.gs lv 125 2 (vL z.list)::.imp ms (xZ z.sites)::K) w') (fun _=>ee=.panicked jK/\Mem Φ K w')):=by
 have v:=rf;obtain ⟨J0,L,M,k,B,p0,q0⟩:=RP.ex;obtain ⟨P,E,R,G,S,c23,U,H,rfl,Y,h9,K0,L0,M0,d0,r0,e0,s0,f0,t0,g0,u0⟩:=RTrc.fm B;replace k:At Φ pa [.slice P T.cons.length E,.slice R T.inputs.length G,.slice S T.funs.length c23,.slice U T.outputs.length H,.map (some L),.map (some M),.map (some ms)]:=k;obtain ⟨V0,c36,E0,rfl,N0,x,h0,w0⟩:=RTFn.fm rf;obtain ⟨X0,c44,Y0,c50,Z0,F0,rfl,Z,a0,O0,P0,Q0,i0,x0,j0,y0,k0,z0⟩:=RTE.fm x;have p:=re;obtain ⟨a1,G0,b1,H0,c1,c76,rfl,b0,c0,y,R0,S0,l0,A0,m0,B0,n0,C0⟩:=RTE.fm re;refine zJ func167 ntmps167 fun Q hQ a J=>?_;refine yF call194 (fun V w j N a J=>?_) (fun V w j N=>?_) (c:=q2y A p N);refine yF call83 (fun W w l N a J=>?_) (fun W w l N=>?_) (c:=yC (b:=F.chg) N);refine qR fun e1 w N a J=>?_;replace N:=N.nf;have t:=N;clear N;obtain ⟨D,f,N,q⟩:=t.freezeRow (i:=0) rfl;clear t;replace k:=k.mono f;replace x:=RTE.mono _ _ _ _ f x;replace y:=y.mono RAtom.mono f;replace A:=A.mono f;replace p:=RTE.mono _ _ _ _ f p;replace v:=RTFn.mono _ _ _ _ f v;replace N:=N.nf;have o:SliceOf RBoo D 1 _ ([false]):=⟨_,q,(kX [false])⟩;obtain ⟨d1,I0,I,o0,D0⟩:=o.form (by decide);have u:=N;clear N;subst I;have N:=u;clear u;replace N:=N.ar [] [2,1];refine yF call195 (fun X w n N a J=>?_) (fun X w n N=>?_) (c:=nE (s:=s) y o N);refine go fun a J=>?_;replace N:=N.le (f);replace N:=N.ar [] [4,4,3,4,4];refine hQ _ _ _ (yN J results167 ?_);have g:=zC j;have h:=zC l;have m:=zC n
 first | (rw [pA r,if_pos (by simp [g,h,m])];exact ⟨rfl,N⟩) | (rw [pA r,if_pos (by simp [g,h,m] <;> omega)];exact ⟨rfl,N⟩)
 replace N:=N.le (f);replace N:=N.dl [2,1,0];have g:=zC j;have h:=zC l;have m:=zP n
 first | (rw [pA r,if_neg (by simp [g,h,m])];exact ⟨rfl,N⟩) | (rw [pA r,if_neg (by simp [g,h,m] <;> omega)];exact ⟨rfl,N⟩)
 replace N:=N.dl [4,3,2,1,0];have g:=zC j;have h:=zP l
 first | (rw [pA r,if_neg (by simp [g,h])];exact ⟨rfl,N⟩) | (rw [pA r,if_neg (by simp [g,h] <;> omega)];exact ⟨rfl,N⟩)
 replace N:=N.dl [4,3,2,1,0];have g:=zP j
 first | (rw [pA r,if_neg (by simp [g])];exact ⟨rfl,N⟩) | (rw [pA r,if_neg (by simp [g] <;> omega)];exact ⟨rfl,N⟩)
theorem j9a {bb mb mk ms:Nat} {pa fa:Addr} {lv:Value} {T:Trc} {s:BS} (RP:RProg Φ pa T ms) {fd:List Value} {F:TFn} (u:At Φ fa fd) (rf:RTFn Φ fd F) {n:Addr} {d:List Value} {e:TE} (l:At Φ n d) (re:RTE Φ d e) (k:e.kind=10) (N:Mem Φ (.blk bb (ob [.pointer (some pa),.pointer (some fa),.map (some mb),.map (some mk),lv] 199)::.mp mb (yB (vV s.list))::.mp mk (yB s.kinds)::.gs lv 125 2 (vL s.list)::.imp ms (xZ s.sites)::K) w) :
  Calls prog 168 #[.pointer (some ⟨bb,0,none⟩),.pointer (some n)] w (fun ee w'=>Out (xQ (yY T F.chg e s)) (fun z=>ee=.returned (.tuple #[])/\Mem Φ (.blk bb (ob [.pointer (some pa),.pointer (some fa),.map (some mb),.map (some mk),lv] 199)::.mp mb (yB (vV z.list))::.mp mk (yB z.kinds)::.gs lv 125 2 (vL z.list)::.imp ms (xZ z.sites)::K) w') (fun _=>ee=.panicked jK/\Mem Φ K w')):=by
 have o:=rf;obtain ⟨t0,v,x,i,m,c0,d0⟩:=RP.ex;obtain ⟨y,p,A,q,B,c23,C,r,rfl,G,h9,u0,w0,x0,P,e0,R,f0,S,g0,U,h0⟩:=RTrc.fm m;replace i:At Φ pa [.slice y T.cons.length p,.slice A T.inputs.length q,.slice B T.funs.length c23,.slice C T.outputs.length r,.map (some v),.map (some x),.map (some ms)]:=i;obtain ⟨F0,c36,p0,rfl,y0,t,V,i0⟩:=RTFn.fm rf;obtain ⟨G0,c44,H0,c50,I0,q0,rfl,H,I,z0,A0,B0,W,j0,X,k0,Y,l0⟩:=RTE.fm t;have j:=re;obtain ⟨J0,r0,K0,s0,L0,c76,rfl,L,M,C0,D0,E0,Z,m0,a0,n0,b0,o0⟩:=RTE.fm re;refine zJ func168 ntmps168 fun Q hQ a J=>?_;refine yF call194 (fun D w f N a J=>?_) (fun D w f N=>?_) (c:=j6p l j N);replace N:=N.ar [] [2,1];refine yF call196 (fun E w h N a J=>?_) (fun E w h N=>?_) (c:=z8m (s:=s) (c:=F.chg) RP u o l j N);refine go fun a J=>?_;replace N:=N.ar [] [4,4,3,4,4];refine hQ _ _ _ (yN J results168 ?_);have b:=zC f;have g:=zC h
 first | (rw [cG k,if_pos (by simp [b,g])];exact ⟨rfl,N⟩) | (rw [cG k,if_pos (by simp [b,g] <;> omega)];exact ⟨rfl,N⟩)
 replace N:=N.dl [2,1,0];have b:=zC f;have g:=zP h
 first | (rw [cG k,if_neg (by simp [b,g])];exact ⟨rfl,N⟩) | (rw [cG k,if_neg (by simp [b,g] <;> omega)];exact ⟨rfl,N⟩)
 replace N:=N.dl [4,3,2,1,0];have b:=zP f
 first | (rw [cG k,if_neg (by simp [b])];exact ⟨rfl,N⟩) | (rw [cG k,if_neg (by simp [b] <;> omega)];exact ⟨rfl,N⟩)
end
theorem j5c {Φ:Fz} {K:List Res} {w:World} {mk:Nat} {ks:List (Bs×Int)} (E:NoK ks) (N:Mem Φ (.mp mk (yB ks)::K) w) :
  Calls prog 198 #[.map (some mk)] w (fun ee w'=>∃y:Nat×List (Bs×Int),ee=.returned (.map (some y.1))/\((∀n,zK y.2 n=zK ks n)/\NoK y.2)/\Mem Φ (.mp y.1 (yB y.2)::.mp mk (yB ks)::K) w'):=by
 refine zJ func198 ntmps198 fun Q hQ a J=>?_;refine Qq (fun a J=>?_) (o:=by exact fun J O=>x5d 0 J O rfl rfl runUnderlying98);refine st J rfl rfl rfl (y8f runUnderlying98 J rfl N fun z w N a J=>?_);replace N:=N.nf;refine go fun a J=>?_;refine st J rfl rfl rfl (y5g 1 runUnderlying98 J N rfl rfl fun B g f w b N a J=>?_);refine go fun a J=>?_;refine yO (J.ks [3,10]) N (fun R mm a w=>∃(seen:Array Nat) (q:List (Bs×Int)),mm=(wQ g seen).length/\R Φ [] [(0,.blk B (.mapIter (some mk) f seen f)),(1,.mp z (yB q))] a w/\(Copying g seen ks q)) ((wQ g #[]).length) ⟨#[],[],rfl,⟨J.pk,N⟩,Copying.start⟩ ?_;clear N J;rintro mm a w ⟨seen,q,A,⟨J,N⟩,r⟩ D s;replace N:=N.nf;have l:=r;refine go fun a J=>?_;refine st J rfl rfl rfl (q1l 0 2 J N rfl rfl rfl b (fun t w N a J=>?_) (fun d w c N a J=>?_));refine go fun a J=>?_;replace N:Mem Φ (.blk B (.mapIter (some mk) f seen f)::.mp z (yB q)::.mp mk (yB ks)::K) w:=q2t (i:=2) N rfl b;refine yG ?_;replace N:=N.dl [0];exact ⟨(z,q),rfl,⟨l.done b t,l.nok⟩,N⟩;obtain ⟨e,C,k,u,h⟩:=y5h b (leftE_mem.1 c).1;have m:Value.tuple #[d.key,d.val]=Value.tuple #[.string e,d.val]:=by rw [k]
 refine Qq (fun a J=>?_) (o:=by exact fun J O=>Ok.cast (j3k (i:=0) (j:=2) J O rfl rfl rfl b c) m);obtain ⟨p,v,x⟩:=x2g h;rw [show d.val=.int .i64 p from u.trans v] at J;refine uU 1 runUnderlying98 runUnderlying9 fun w N a J=>?_;rw [pB q e p] at N;refine go fun a J=>?_;refine s ((wQ g ((seen.push d.born))).length) _ _ (by subst A;exact y0c c) ⟨((seen.push d.born)),((qT q e p)),rfl,⟨J.pk,N⟩,?_⟩;exact l.next E b c k x
theorem qZ {P:Program} {n:Nat} {E:List (Nat×Value)} {D:List Deferred} {a:Act} {w:World} {ty:TypeId} (i:Nat) {x ix:Operand} {t e:TypeId} {kk:IntKind} {b off len k z:Nat} (J:EnvR n E D a) (d:ev E x=some (.pointer (some ⟨b,off,none⟩)))
  (hi:ev E ix=some (.int kk (i:Int))) (c:Under P t (.array len e)) (O:SizeT P e k) (hb:i < len) (f:off+i * k=z) :
  Ok P a (.indexAddr t x ix) ty w (.pointer (some ⟨b,z,none⟩)):=fun _ _ _ _=>by
 subst f;simp only [execOp,J.ev d,J.ev hi]
 simp [Instr.indexAt,Instr.sureAddr,asIntOf,Sem.run_bind,c w,O w,Result.andThen,hb,Addr.add]
theorem At.part {Φ:Fz} {p:Addr} {l ds:List Value} (h:At Φ p (l++ds)):At Φ (p.add l.length) ds:=h.sub fun j v a=>by
 rw [List.getElem?_append_right (by omega),Nat.add_sub_cancel_left];exact a
theorem At.part2 {Φ:Fz} {p:Addr} {a b:Value} {ds:List Value} (h:At Φ p (a::b::ds)):At Φ (p.add 2) ds:=At.part (l:=[a,b]) h
theorem At.part3 {Φ:Fz} {p:Addr} {a b c:Value} {ds:List Value} (h:At Φ p (a::b::c::ds)):At Φ (p.add 3) ds:=At.part (l:=[a,b,c]) h
theorem oE {s z:BS} {n:Bs} {m:Bool} (h:s.bind n m=some z):z.sites=s.sites:=by
 rw [BS.bind] at h;split at h
 ·cases h;rfl
 ·cases h
theorem z1x {s z:BS} {n:Bs} {m:Bool} (h:s.bind n m=some z) (a:NoK s.kinds):NoK z.kinds:=by
 rw [BS.bind] at h;split at h
 ·cases h;exact a.put _ _
 ·cases h
theorem q0t {s:BS} {vs:List Bs} {ms:List Bool} {k:Nat} {v:Bs} {m:Bool} (a:vs[k]? = some v) (b:ms[k]? = some m):s.binds (vs.drop k) (ms.drop k)=(s.bind v m).bind fun s=>s.binds (vs.drop (k+1)) (ms.drop (k+1)):=by
 rw [yM a,yM b,BS.binds]
theorem j4j {s:BS} {vs:List Bs} {ms:List Bool} {k:Nat} (h:¬k < vs.length):s.binds (vs.drop k) (ms.drop k)=some s:=by rw [qV h,BS.binds]
section
variable {T:Trc} {c:Bool} {first:Nat} {o:List (Bs×Int)} {l:List TA} {i:Nat} {s sk y z:BS} {a:TA} {d:TCon} {A:Option BS}
theorem y7u (e:l[i]? = some a) (f:T.cons[first+i]? = some d):armsT T c first o i (l.drop i) s=if mM T first i a then ((⟨s.list,o,s.sites⟩:BS).binds a.vars d.fields).bind fun s=>(jH T c a.body s).bind (armsT T c first o (i+1) (l.drop (i+1))) else none:=by
 rw [yM e];cases a with
 | mk n vs b=>rw [armsT,f];rfl
theorem j3z (e:OEqv A (armsT T c first o i (l.drop i) s)) (f:l[i]? = some a) (b:mM T first i a=true) (g:T.cons[first+i]? = some d) (hb:OEqv ((⟨s.list,o,s.sites⟩:BS).binds a.vars d.fields) (some sk)) (J:jH T c a.body sk=some z) (j:y.Eqv z):OEqv A (armsT T c first o (i+1) (l.drop (i+1)) y):=by
 rw [y7u f g,if_pos b] at e;refine e.trans ((hb.bind fun p q h=>(BS.Eqv.expr T c a.body h).bind fun _ _ h=>BS.Eqv.arms T c first (i+1) (l.drop (i+1)) (fun _=>rfl) h).trans ?_);rw [Option.bind_some,J,Option.bind_some];exact BS.Eqv.arms T c first (i+1) _ (fun _=>rfl) j.symm
theorem z7f (d:OEqv A (armsT T c first o i (l.drop i) s)) (f:l[i]? = some a) (e:mM T first i a=false):OEqv A none:=by
 rw [yM f] at d;cases a with
 | mk n vs b=>rw [armsT,if_neg (by rw [e];decide)] at d;exact d
theorem j8k (b:OEqv A (armsT T c first o i (l.drop i) s)) (e:l[i]? = some a) (f:T.cons[first+i]? = some d) (hb:OEqv ((⟨s.list,o,s.sites⟩:BS).binds a.vars d.fields) none):OEqv A none:=by
 rw [y7u e f] at b;refine b.trans ?_;split
 ·rw [hb.none_iff.2 rfl];exact trivial
 ·exact trivial
theorem j8l (b:OEqv A (armsT T c first o i (l.drop i) s)) (e:l[i]? = some a) (f:T.cons[first+i]? = some d) (hb:OEqv ((⟨s.list,o,s.sites⟩:BS).binds a.vars d.fields) (some sk)) (J:jH T c a.body sk=none):OEqv A none:=by
 rw [y7u e f] at b;refine b.trans ?_;split
 ·refine (hb.bind fun p q h=>(BS.Eqv.expr T c a.body h).bind fun _ _ h=>BS.Eqv.arms T c first (i+1) (l.drop (i+1)) (fun _=>rfl) h).trans ?_
  rw [Option.bind_some,J];exact trivial
 ·exact trivial
theorem z1u (a:OEqv A (armsT T c first o i (l.drop i) s)) (h:¬i < l.length):OEqv A (some s):=by
 rw [qV h,armsT] at a;exact a
theorem z8q {B:Option BS} {vs:List Bs} {ms:List Bool} {k:Nat} {v:Bs} {m:Bool} (a:OEqv B (s.binds (vs.drop k) (ms.drop k))) (b:vs[k]? = some v) (c:ms[k]? = some m) (h:s.bind v m=some z):OEqv B (z.binds (vs.drop (k+1)) (ms.drop (k+1))):=by
 rw [q0t b c,h,Option.bind_some] at a;exact a
theorem q0u {B:Option BS} {vs:List Bs} {ms:List Bool} {k:Nat} {v:Bs} {m:Bool} (a:OEqv B (s.binds (vs.drop k) (ms.drop k))) (b:vs[k]? = some v) (c:ms[k]? = some m) (h:s.bind v m=none):OEqv B none:=by
 rw [q0t b c,h] at a;exact a
theorem y5b {B:Option BS} {vs:List Bs} {ms:List Bool} {k:Nat} (a:OEqv B (s.binds (vs.drop k) (ms.drop k))) (h:¬k < vs.length):OEqv B (some s):=by
 rw [j4j h] at a;exact a
theorem q0v {q:List (Bs×Int)} (h:∀n,zK q n=zK o n) (vs:List Bs) (ms:List Bool):OEqv ((⟨s.list,o,s.sites⟩:BS).binds vs ms) ((⟨s.list,q,s.sites⟩:BS).binds (vs.drop 0) (ms.drop 0)) :=
 BS.Eqv.binds vs ms ⟨rfl,rfl,fun n=>(h n).symm⟩
end
theorem z1t {T:Trc} {first i:Nat} {a:TA} {c d:TCon} (b:T.cons[first]? = some c) (e:T.cons[first+i]? = some d):mM T first i a=(decide (d.name=a.con)&&decide (d.type=c.type)&&decide (a.vars.length=d.fields.length)):=by
 unfold mM;simp only [b,e]
theorem q6c {T:Trc} {first i:Nat} {a:TA} (h:¬first+i < T.cons.length):mM T first i a=false:=by
 have b:T.cons[first+i]? = none:=List.getElem?_eq_none (Nat.le_of_not_lt h);unfold mM;rw [b];split
 ·rename_i h;cases h
 ·rfl
theorem wU (T:Trc) (f n:Nat):jN T f n=((decide (f=0) || (match T.cons[f - 1]?,T.cons[f]? with | some c,some d=> !decide (c.type=d.type) | _,_=>false)) &&
  (decide (f+n=T.cons.length) || (match T.cons[f]?,T.cons[f+n]? with | some c,some d=> !decide (d.type=c.type) | _,_=>false))):=by
 cases f <;> rfl
section
variable {T:Trc} {c:Bool} {e:TE} {s:BS} {a:Atom} {b:TA} {j:Nat}
theorem j4u (h:zB e false false false false true true false=false):jO T c e s=none:=by rw [jO,h];rfl
theorem j4v (h:s.atomL e.args [false]=false):jO T c e s=none:=by rw [jO,h,Bool.and_false];rfl
theorem q6s {g:Bool} {args:List Atom} {arms:List TA} (b:args[0]? = some a) (h:a.name=sNo):dV T c s g args arms=none:=by
 cases g with
 | false=>rfl
 | true=>cases args with
  | nil=>rfl
  | cons x l=>cases b;cases arms with
   | nil=>rfl
   | cons y r=>cases y;rw [dV,if_pos h]
theorem j4w (b:e.args[0]? = some a) (h:a.name=sNo):jO T c e s=none:=q6s b h
theorem q6t {g:Bool} {args:List Atom} {arms:List TA} (h:¬0 < arms.length):dV T c s g args arms=none:=by
 cases arms with
 | nil=>cases g <;> cases args <;> rfl
 | cons y r=>simp at h
theorem j4x (h:¬0 < e.arms.length):jO T c e s=none:=q6t h
theorem q6u {g:Bool} {args:List Atom} {arms:List TA} (hb:arms[0]? = some b) (h:T.cons.findIdx? (fun c=>decide (c.name=b.con))=none):dV T c s g args arms=none:=by
 cases g with
 | false=>rfl
 | true=>cases args with
  | nil=>rfl
  | cons x l=>cases arms with
   | nil=>rfl
   | cons y r=>
    cases y;cases hb;have h':wH T _=none:=h;dsimp only [TA.con] at h';rw [dV,h'];split <;> rfl
theorem j4y (hb:e.arms[0]? = some b) (h:T.cons.findIdx? (fun c=>decide (c.name=b.con))=none):jO T c e s=none:=q6u hb h
theorem j4t {args:List Atom} {arms:List TA} (d:args[0]? = some a) (e:¬a.name=sNo) (hb:arms[0]? = some b) (h:T.cons.findIdx? (fun c=>decide (c.name=b.con))=some j) :
  dV T c s true args arms=(armsT T c j s.kinds 0 (arms.drop 0) s).bind fun f=>if jN T j arms.length then some { f with kinds:=s.kinds } else none:=by
 cases args with
 | nil=>cases d
 | cons x l=>cases d;cases arms with
  | nil=>cases hb
  | cons y r=>
   cases y;cases hb;have h':wH T _=some j:=h;dsimp only [TA.con] at h';rw [dV,if_neg e,h'];rfl
theorem j9e (d:zB e false false false false true true false=true) (f:s.atomL e.args [false]=true) (g:e.args[0]? = some a) (i:¬a.name=sNo) (hb:e.arms[0]? = some b) (h:T.cons.findIdx? (fun c=>decide (c.name=b.con))=some j) :
  jO T c e s=(armsT T c j s.kinds 0 (e.arms.drop 0) s).bind fun k=>if jN T j e.arms.length then some { k with kinds:=s.kinds } else none:=by
 rw [jO,d,f];exact j4t g i hb h
theorem nF (h:jO T c e s=(armsT T c j s.kinds 0 (e.arms.drop 0) s).bind fun b=>if jN T j e.arms.length then some { b with kinds:=s.kinds } else none) (a:OEqv (armsT T c j s.kinds 0 (e.arms.drop 0) s) none):jO T c e s=none:=by
 rw [h,a.none_iff.2 rfl];rfl
theorem oG {z:BS} (h:jO T c e s=(armsT T c j s.kinds 0 (e.arms.drop 0) s).bind fun d=>if jN T j e.arms.length then some { d with kinds:=s.kinds } else none) (a:OEqv (armsT T c j s.kinds 0 (e.arms.drop 0) s) (some z)) (b:jN T j e.arms.length=true):∃y,jO T c e s=some y/\(⟨z.list,s.kinds,z.sites⟩:BS).Eqv y:=by
 rw [h];cases hq:armsT T c j s.kinds 0 (e.arms.drop 0) s with
 | none=>rw [hq] at a;exact a.elim
 | some y=>rw [hq] at a;exact ⟨{ y with kinds:=s.kinds },by rw [Option.bind_some,if_pos b],⟨a.1.symm,a.2.symm,fun _=>rfl⟩⟩
theorem z4k (h:jO T c e s=(armsT T c j s.kinds 0 (e.arms.drop 0) s).bind fun b=>if jN T j e.arms.length then some { b with kinds:=s.kinds } else none) (a:jN T j e.arms.length=false):jO T c e s=none:=by
 rw [h,a];cases armsT T c j s.kinds 0 (e.arms.drop 0) s <;> rfl
end
def eOk (m:Nat) (o:Oper):Bool:=o.after.toList.all fun e=>bif m.testBit e.on then true else !Region.binds .any e
def q1t (ops:Array Oper) (oi:Oper) (i m:Nat):Nat->List Oper->Bool
 | _,[]=>true
 | j,o::r=>(bif m.testBit j then true else bif Nat.beq j i then true else bif o.after.toList.any (fun e=>Region.binds .any e&&Nat.beq e.on i) then true else oi.apart ops o)&&q1t ops oi i m (j+1) r
def z7w (i m:Nat):Nat->List Oper->Bool
 | _,[]=>true
 | j,o::r=>(bif m.testBit j then true else bif Nat.beq j i then true else o.after.toList.any (fun e=>Region.binds .any e && !m.testBit e.on))&&z7w i m (j+1) r
def z6h (ops:Array Oper) (l:List Oper) (kd:List Nat):Plan->Nat->Bool
 | .done,m=>Nat.beq m (2 ^ l.length - 1)
 | .q i p,m=>match l[i]? with
  | some o=> !m.testBit i&&eOk m o&&q1t ops o i m 0 l&&yQ kd i != 0&&z6h ops l kd p (m ||| (1 <<< i))
  | none=>false
 | .e i p,m=>match l[i]? with
  | some o=> !m.testBit i&&eOk m o&&z7w i m 0 l&&yQ kd i==0&&z6h ops l kd p (m ||| (1 <<< i))
  | none=>false
 | .e2 _ _ _ _,_=>false
structure Bits (n:Nat) (l:Array Bool) (m:Nat):Prop where
 size:l.size=n
 bit:∀i,i < n->l[i]? = some (m.testBit i)
 hi:∀i,n<=i->m.testBit i=false
theorem Bits.getD {n:Nat} {l:Array Bool} {m i:Nat} (h:Bits n l m) (b:Bool) (hi:i < n):l.getD i b=m.testBit i:=by
 have a:=h.bit i hi;have c:i < l.size:=by rw [h.size];exact hi
 simp [Array.getD,c]
 rw [Array.getElem?_eq_getElem c] at a;exact Option.some.inj a
theorem Bits.getD_hi {n:Nat} {l:Array Bool} {m i:Nat} (h:Bits n l m) (b:Bool) (hi:¬i < n):l.getD i b=b:=by
 have a:¬i < l.size:=by rw [h.size];exact hi
 simp [Array.getD,a]
theorem Bits.set {n:Nat} {l:Array Bool} {m i:Nat} (h:Bits n l m) (hi:i < n):Bits n (l.setIfInBounds i true) (m ||| (1 <<< i)):=by
 refine ⟨by simp [h.size],fun j a=>?_,fun j a=>?_⟩
 ·by_cases e:i=j
  ·subst e
   rw [Array.getElem?_setIfInBounds_self_of_lt (by rw [h.size];exact hi)]
   simp [Nat.testBit_or,Nat.testBit_shiftLeft]
  ·rw [Array.getElem?_setIfInBounds_ne e,h.bit j a]
   congr 1
   rw [Nat.testBit_or,Nat.testBit_shiftLeft];by_cases q:i<=j
   ·have:(1:Nat).testBit (j - i)=false:=by
     cases b:j - i with
     | zero=>omega
     | succ k=>simp [Nat.testBit_succ]
    simp [this]
   ·simp [q]
 ·rw [Nat.testBit_or,Nat.testBit_shiftLeft,h.hi j a]
  have:(1:Nat).testBit (j - i)=false:=by
   cases b:j - i with
   | zero=>omega
   | succ k=>simp [Nat.testBit_succ]
  simp [this]
theorem z9m {ops:Array Oper} {oi:Oper} {i m:Nat}:∀{r:List Oper} {s:Nat},q1t ops oi i m s r=true->∀k o,r[k]? = some o->m.testBit (s+k)=false->s+k≠i->(∀e∈o.after,Region.binds .any e=true->e.on≠i)->oi.apart ops o=true
 | [],_,_,k,o,h,_,_,_=>by simp at h
 | x::r,s,h,0,o,c,N,b,a=>by
  simp only [List.getElem?_cons_zero,Option.some.injEq] at c;subst c;rw [q1t,Nat.add_zero] at *;simp only [baQ] at h;have d:=h.1;rw [N,cond_false,show Nat.beq s i=false from Bool.eq_false_iff.2 fun h=>b (Nat.eq_of_beq_eq_true h),cond_false] at d
  have:x.after.toList.any (fun e=>Region.binds .any e&&Nat.beq e.on i)=false:=by
   rw [List.any_eq_false];intro e J;rw [Array.mem_toList_iff] at J;have:=a e J;intro f;simp only [baQ] at f;exact this f.1 (Nat.eq_of_beq_eq_true f.2)
  rw [this,cond_false] at d;exact d
 | x::r,s,h,k+1,o,c,N,b,a=>by
  rw [q1t] at h;simp only [baQ] at h;exact z9m h.2 k o (by simpa using c) (by rw [<- N];congr 1;omega) (by omega) a
theorem z5u {i m:Nat}:∀{r:List Oper} {s:Nat},z7w i m s r=true->∀k o,r[k]? = some o->m.testBit (s+k)=false->s+k≠i->∃e∈o.after,Region.binds .any e=true/\m.testBit e.on=false
 | [],_,_,k,o,h,_,_=>by simp at h
 | x::r,s,h,0,o,b,N,a=>by
  simp only [List.getElem?_cons_zero,Option.some.injEq] at b;subst b;rw [z7w,Nat.add_zero] at *;simp only [baQ] at h;have c:=h.1;rw [N,cond_false,show Nat.beq s i=false from Bool.eq_false_iff.2 fun h=>a (Nat.eq_of_beq_eq_true h),cond_false] at c;obtain ⟨e,J,d⟩:=List.any_eq_true.1 c;simp only [baQ,Bool.not_eq_true'] at d;exact ⟨e,Array.mem_toList_iff.1 J,d⟩
 | x::r,s,h,k+1,o,b,N,a=>by
  rw [z7w] at h;simp only [baQ] at h;exact z5u h.2 k o (by simpa using b) (by rw [<- N];congr 1;omega) (by omega)
theorem q1j {m n:Nat} {l:Array Bool} {o:Oper} (hb:Bits n l m) (h:eOk m o=true):∀e∈o.after,Region.binds .any e=true->l.getD e.on false=true:=fun e J hq=>by
 have a:=List.all_eq_true.1 h e (Array.mem_toList_iff.2 J)
 have a:m.testBit e.on=true:=by
  rw [hq] at a;cases c:m.testBit e.on with
  | true=>rfl
  | false=>rw [c] at a;cases a
 by_cases b:e.on < n
 ·rw [hb.getD false b];exact a
 ·rw [hb.hi _ (Nat.le_of_not_lt b)] at a;cases a
section
variable {P:Program} {ops:Array Oper} {B:World->Prop} {kd:List Nat} {Qp:List PanicEntry->World->Prop} {D:List Deferred}
theorem nP {Q:Act->World->Prop} {l:List Oper} (hl:ops=l.toArray) (O:Region.noSelect ops=true):∀(p:Plan) (listed:Array Bool) (m:Nat) (a:Act) (w:World),Bits ops.size listed m->z6h ops l kd p m=true ->
  zU P .any ops B kd Qp Q p a w->z7c P .any ops B kd Qp Q p.len listed a w
 | .done,L,m,a,w,hb,c,h=>by
  refine ⟨?_,h⟩;simp only [z6h] at c;have N:m=2 ^ l.length - 1:=by simpa using c
  rw [List.eq_nil_iff_forall_not_mem];intro j r;obtain ⟨n,o,k,_⟩:=mem_ready.1 r;have b:j < ops.size:=(Array.getElem?_eq_some_iff.1 k).1;rw [hb.getD true b,N,Nat.testBit_two_pow_sub_one] at n;simp only [decide_eq_false_iff_not] at n;exact n (by rw [hl] at b;simpa using b)
 | .q i p,L,m,a,w,hb,c,h=>by
  simp only [z6h] at c;cases d:l[i]? with
  | none=>rw [d] at c;cases c
  | some o=>
   rw [d] at c;simp only [baQ,Bool.not_eq_true',bne_iff_ne,ne_eq] at c;obtain ⟨⟨⟨⟨n,x⟩,E⟩,C⟩,c⟩:=c;have k:ops[i]? = some o:=by rw [hl];simpa using d
   have b:i < ops.size:=(Array.getElem?_eq_some_iff.1 k).1;have z:i∈Region.ready .any ops L:=mem_ready.2 ⟨by rw [hb.getD true b];exact n,o,k,q1j hb x⟩
   have f:∀j oj,ops[j]? = some oj->j≠i->L.getD j true=false->(∀e∈oj.after,Region.binds .any e=true->e.on≠i)->o.apart ops oj=true:=fun j oj r t g I=>by
    have hj':l[j]? = some oj:=by rw [hl] at r;simpa using r
    have s:j < ops.size:=(Array.getElem?_eq_some_iff.1 r).1;rw [hb.getD true s] at g;exact z9m E j oj hj' (by rw [Nat.zero_add];exact g) (by rw [Nat.zero_add];exact t) I
   unfold zU vR at h;simp only [k] at h;by_cases D:Region.wanted o (yielded ops a.tmps)=true
   ·rw [if_pos D,if_neg C] at h
    obtain ⟨v,n,x⟩:=h;exact nL k (Region.noSelect_spec O) C _ _ _ _ f z (.inl ⟨D,n⟩) (nP hl O p _ _ _ _ (hb.set b) c x)
   ·rw [if_neg D] at h
    exact nL k (Region.noSelect_spec O) C _ _ _ _ f z (.inr ⟨by simpa using D,rfl⟩) (nP hl O p _ _ _ _ (hb.set b) c h)
 | .e i p,L,m,a,w,hb,c,h=>by
  simp only [z6h] at c;cases d:l[i]? with
  | none=>rw [d] at c;cases c
  | some o=>
   rw [d] at c;simp only [baQ,Bool.not_eq_true',beq_iff_eq] at c;obtain ⟨⟨⟨⟨n,x⟩,E⟩,C⟩,c⟩:=c;have k:ops[i]? = some o:=by rw [hl];simpa using d
   have b:i < ops.size:=(Array.getElem?_eq_some_iff.1 k).1;have z:i∈Region.ready .any ops L:=mem_ready.2 ⟨by rw [hb.getD true b];exact n,o,k,q1j hb x⟩;simp only [Plan.len,z7c];refine ⟨fun K=>(by rw [K] at z;cases z),fun j r=>?_⟩
   have G:j=i:=by
    refine Decidable.byContradiction fun t=>?_;obtain ⟨g,oj,u,y⟩:=mem_ready.1 r;have s:j < ops.size:=(Array.getElem?_eq_some_iff.1 u).1;rw [hb.getD true s] at g;have hj':l[j]? = some oj:=by rw [hl] at u;simpa using u
    obtain ⟨e,J,F,H⟩:=z5u E j oj hj' (by rw [Nat.zero_add];exact g) (by rw [Nat.zero_add];exact t);have A:=y e J F;by_cases b:e.on < ops.size
    ·rw [hb.getD false b,H] at A;cases A
    ·rw [hb.getD_hi false b] at A;cases A
   subst G;exact kP (fun a' w' _ M=>nP hl O p _ _ _ _ (hb.set b) c M) h
 | .e2 _ _ _ _,_,_,_,_,_,c,_=>by simp [z6h] at c
def planG (l:List Oper) (kd:List Nat) (p:Plan):Bool:=Region.noSelect l.toArray&&Nat.beq p.len l.length&&z6h l.toArray l kd p 0
theorem z7d {id:Nat} {l:List Oper} {Q:Exit->Act->World->Prop} {a:Act} {w:World} (kd:List Nat) (p:Plan) (B:World->Prop) (Qp:List PanicEntry->World->Prop)
  (N:P.follows .mixedOrders=true) (d:planG l kd p=true) (f:∀c a w,a.defers=D->Qp c w->Q (.panic c) a w) (e:a.defers=D) (g:B { w with drawn:=w.drawn+1 })
  (h:zU P .any l.toArray B kd Qp (Q .normal) p a { w with drawn:=w.drawn+1 }):(Code.region id l.toArray true).wp P Q a w:=by
 simp only [planG,baQ] at d;obtain ⟨⟨O,hl⟩,b⟩:=d;replace hl:=Nat.eq_of_beq_eq_true hl;refine (wpIn_wide (n:=3)).1 (wpIn_region_any N (kS (r:=none) (Inv:=fun a=>a.defers=D) (kd:=kd) (B:=B) (Qp:=Qp) (Q:=Q .normal) (fun h=>absurd rfl h) (fun i o a v _ J=>by cases j:o.dst <;> exact J) (fun _ _ h=>h) (fun c a w J h=>f c a w J h) _ _ _ _ e (fun _=>g) ?_));have:=nP rfl O p (Array.replicate l.toArray.size false) 0 a { w with drawn:=w.drawn+1 } ⟨by simp,fun i hi=>by simp at hi;simp [hi],fun i _=>by simp⟩ b h;rw [hl] at this
 simpa using this
end
theorem qO {P:Program} {n:Nat} {E:List (Nat×Value)} {D:List Deferred} {a:Act} {Φ:Fz} {K:List Res} {w:World} {id:Nat} {l:List Oper} {Q:Exit->Act->World->Prop} (kd:List Nat) (p:Plan) (K':List Res) (J:EnvR n E D a) (N:Mem Φ K w) (g:P.follows .mixedOrders=true) (b:planG l kd p=true) (d:∀r∈K',r∈K)
  (h:∀w,Mem Φ K w->zU P .any l.toArray (Sees Φ K') kd (fun c w=>∀a,a.defers=D->Q (.panic c) a w) (Q .normal) p a w):(Code.region id l.toArray true).wp P Q a w:=by
 have hm':=N.drew;exact z7d (D:=D) kd p (Sees Φ K') (fun c w=>∀a,a.defers=D->Q (.panic c) a w) g b (fun c a w e h=>h a e) J.defs ⟨hm'.fz,fun r f=>hm'.own r (d r f)⟩ (h _ hm')
def y4o (T:Trc) (e:TE):Prop:=∀{Φ:Fz} {K:List Res} {w:World} {bb mb mk ms:Nat} {pa fa a:Addr} {lv:Value} {s:BS} {fd d:List Value} {F:TFn},RProg Φ pa T ms->At Φ fa fd->RTFn Φ fd F->At Φ a d->RTE Φ d e->Glob Φ->NoK s.kinds->Mem Φ (.blk bb (ob [.pointer (some pa),.pointer (some fa),.map (some mb),.map (some mk),lv] 199)::.mp mb (yB (vV s.list))::.mp mk (yB s.kinds)::.gs lv 125 2 (vL s.list)::.imp ms (xZ s.sites)::K) w ->
  Calls prog 128 #[.pointer (some ⟨bb,0,none⟩),.pointer (some a)] w (fun ee w'=>Out (xQ (jH T F.chg e s)) (fun z=>∃y:Value×BS,ee=.returned (.tuple #[])/\(y.2.Eqv z/\NoK y.2.kinds)/\Mem Φ (.blk bb (ob [.pointer (some pa),.pointer (some fa),.map (some mb),.map (some mk),y.1] 199)::.mp mb (yB (vV y.2.list))::.mp mk (yB y.2.kinds)::.gs y.1 125 2 (vL y.2.list)::.imp ms (xZ y.2.sites)::K) w') (fun _=>ee=.panicked jK/\Mem Φ K w'))
theorem j4g {Φ:Fz} {K:List Res} {w:World} {bb mb mk ms:Nat} {pa fa:Addr} {lv:Value} {T:Trc} {s:BS} (RP:RProg Φ pa T ms) {fd:List Value} {F:TFn} (e1:At Φ fa fd) (rf:RTFn Φ fd F) {H1:Addr} {d:List Value} {e:TE} (b1:At Φ H1 d) (re:RTE Φ d e) (hk:e.kind=7) (hx:∀a∈e.arms,y4o T a.body) (G:Glob Φ) (hn:NoK s.kinds) (N:Mem Φ (.blk bb (ob [.pointer (some pa),.pointer (some fa),.map (some mb),.map (some mk),lv] 199)::.mp mb (yB (vV s.list))::.mp mk (yB s.kinds)::.gs lv 125 2 (vL s.list)::.imp ms (xZ s.sites)::K) w) :
  Calls prog 165 #[.pointer (some ⟨bb,0,none⟩),.pointer (some H1)] w (fun ee w'=>Out (xQ (jO T F.chg e s)) (fun z=>∃y:Value×BS,ee=.returned (.tuple #[])/\(y.2.Eqv z/\NoK y.2.kinds)/\Mem Φ (.blk bb (ob [.pointer (some pa),.pointer (some fa),.map (some mb),.map (some mk),y.1] 199)::.mp mb (yB (vV y.2.list))::.mp mk (yB y.2.kinds)::.gs y.1 125 2 (vL y.2.list)::.imp ms (xZ y.2.sites)::K) w') (fun _=>ee=.panicked jK/\Mem Φ K w')):=by
 have z0:=rf;obtain ⟨j5,n3,o3,g0,F1,h0,x4⟩:=RP.ex;obtain ⟨p3,T1,q3,U1,r3,c23,s3,V1,rfl,e4,h9,k5,l5,m5,l4,p0,m4,y4,n4,z4,o4,A4⟩:=RTrc.fm F1;replace g0:At Φ pa [.slice p3 T.cons.length T1,.slice q3 T.inputs.length U1,.slice r3 T.funs.length c23,.slice s3 T.outputs.length V1,.map (some n3),.map (some o3),.map (some ms)]:=g0;obtain ⟨t5,c36,e5,rfl,n5,V0,p4,B4⟩:=RTFn.fm rf;obtain ⟨u5,c44,v5,c50,w5,f5,rfl,f4,g4,o5,p5,q5,q4,C4,r4,D4,s4,E4⟩:=RTE.fm V0;have y0:=re;obtain ⟨x5,g5,y5,h5,z5,c76,rfl,h4,i4,C0,D0,r5,t4,C1,u4,D1,v4,F4⟩:=RTE.fm re;refine zJ func165 ntmps165 fun Q hQ a J=>?_;refine yF call194 (fun t3 w q0 N a J=>?_) (fun t3 w q0 N=>?_) (c:=q8j b1 y0 N);refine qR fun v85 w N a J=>?_;replace N:=N.nf;have K0:=N;clear N;obtain ⟨B0,f,N,F0⟩:=K0.freezeRow (i:=0) rfl;clear K0;replace h9:=h9.mono RTCon.mono f;replace RP:=RP.mono f;replace g0:=g0.mono f;replace h0:=h0.mono f;replace V0:=RTE.mono _ _ _ _ f V0;replace e1:=e1.mono f;replace C0:=C0.mono RAtom.mono f;replace D0:=D0.mono RTA.mono f;replace b1:=b1.mono f;replace y0:=RTE.mono _ _ _ _ f y0;replace z0:=RTFn.mono _ _ _ _ f z0;replace G:=G.mono f;replace N:=N.nf;have r0:SliceOf RBoo B0 1 _ ([false]):=⟨_,F0,(kX [false])⟩;obtain ⟨A5,i5,m3,w4,G4⟩:=r0.form (by decide);have L0:=N;clear N;subst m3;have N:=L0;clear L0;replace N:=N.ar [] [2,1];refine yF call195 (fun u3 w i0 N a J=>?_) (fun u3 w i0 N=>?_) (c:=nE (s:=s) C0 r0 N);have A1:0 < e.args.length:=by rw [xK (zC i0)];decide
 refine go fun a J=>?_;obtain ⟨B5,rfl,w3,s0,W1,x2,h2,j1⟩:=C0.el C1 A1;obtain ⟨rfl,s2⟩:=id j1;by_cases G0:w3.name=(⟨#[]⟩:Bs);refine qI call83 (fun w N=>?_) (c:=zI N);replace N:=N.le (f);replace N:=N.dl [4,3,2,1,0];rw [show jO T F.chg e s=none from j4w s0 G0];exact ⟨rfl,N⟩;refine Qq (fun a J=>?_) (o:=by exact fun J O=>y_gtrN (i:=e.arms.length) (j:=0) J rfl rfl);refine yF call83 (fun I1 w Y N a J=>?_) (fun I1 w Y N=>?_) (c:=yC (b:=(decide (0 < e.arms.length))) N);refine go fun a J=>?_;refine qO [1,1,1,2,1,1,2,1,1,1,2,1,1,2,2,1,1,1,1,1] (.q 0 (.q 1 (.q 2 (.q 3 (.q 4 (.q 5 (.q 6 (.q 7 (.q 8 (.q 9 (.q 10 (.q 11 (.q 12 (.q 13 (.q 14 (.q 15 (.q 16 (.q 17 (.q 18 (.q 19 (.done))))))))))))))))))))) [.blk bb (ob [.pointer (some pa),.pointer (some fa),.map (some mb),.map (some mk),lv] 199),.mp mk (yB s.kinds),.mp mb (yB (vV s.list)),.gs (lv) 125 2 (vL s.list),.imp ms (xZ s.sites)] J N mixed (by kernel_rfl) (by simp) fun w N=>?_;have c1:0 < e.arms.length:=of_decide_eq_true (zC Y);refine go fun a J=>?_;obtain ⟨X4,rfl,A0,t0,X1,y2,i2,k1⟩:=D0.el D1 c1;obtain ⟨I4,C3,A3,rfl,Q3,x1,J2,Y2⟩:=RTA.fm k1;obtain ⟨J4,D3,K4,E3,L4,F3,rfl,t2,u2,R3,S3,T3,K2,Z2,L2,a3,M2,b3⟩:=RTE.fm x1;refine go fun a J=>?_;rcases I:jR ((yB (dF T))) A0.con with _ | v3
 have L:=congrArg (yA true (ZA)) I;refine Qq (fun a J=>?_) (o:=by exact fun J O=>Ok.cast (yS runUnderlying98 runUnderlying9 zeroValue3 J O rfl rfl h0) (show yA true (ZA) (jR ((yB (dF T))) A0.con)=.tuple #[ZA,.bool false] from L));refine qI call83 (fun w N=>?_) (c:=zI N);replace N:=N.le (f);replace N:=N.dl [4,3,2,1,0];rw [show jO T F.chg e s=none from j4y t0 (gQ (vY I))];exact ⟨rfl,N⟩;obtain ⟨d5,v1,rfl⟩:=mG I;obtain ⟨h,rfl,f1,l⟩:=gR v1;have L:=congrArg (yA true (ZA)) I;refine Qq (fun a J=>?_) (o:=by exact fun J O=>Ok.cast (yS runUnderlying98 runUnderlying9 zeroValue3 J O rfl rfl h0) (show yA true (ZA) (jR ((yB (dF T))) A0.con)=.tuple #[.int .i64 h,.bool true] from L));refine zE call83 (fun w N a J=>?_) (c:=pV N);have g:=j9e (T:=T) (c:=F.chg) (e:=e) (s:=s) (zC q0) (zC i0) s0 G0 t0 f1;refine go fun a J=>?_;refine yO (J.ks [0,1,4,6,66]) N (fun R mm a w=>∃(i:Nat) (si:BS) (x:Value) (kv:Value),mm=e.arms.length - i/\R B0 [(67,.int .i64 i)] [(0,.blk bb (ob [.pointer (some pa),.pointer (some fa),.map (some mb),kv,x] 199)),(2,.mp mb (yB (vV si.list))),(3,.gs (x) 125 2 (vL si.list)),(4,.imp ms (xZ si.sites))] a w/\(OEqv (armsT T F.chg h s.kinds 0 (e.arms.drop 0) s) (armsT T F.chg h s.kinds i (e.arms.drop i) si)/\i<=e.arms.length/\h+i<=T.cons.length)) (e.arms.length - 0) ⟨0,s,lv,.map (some mk),rfl,⟨J.pk,N⟩,⟨.refl _,Nat.zero_le _,Nat.le_of_lt l⟩⟩ ?_;clear N J;rintro mm a w ⟨i,si,x,kv,g1,⟨J,N⟩,k⟩ y3 Y0;replace N:=N.nf;by_cases V:i < e.arms.length;refine go fun a J=>?_;obtain ⟨r,p⟩:=zW V
 obtain ⟨Y1,z2,a1,l1⟩:=D0.elem p;obtain ⟨M4,G3,B3,rfl,y1,H0,N2,h1⟩:=RTA.fm l1;obtain ⟨N4,H3,O4,I3,P4,J3,rfl,v2,w2,U3,V3,W3,O2,d3,P2,e3,Q2,f3⟩:=RTE.fm H0;refine go fun a J=>?_;refine qO [1,1,1,1,1,1,2,1,1,1,2,1,1,1,1,1,1,2,1,1,1,2,1,1,1,1,1,2,1,1,1,2,1,1,1,1,1,1,2,1,1,1,2,1,1,1,1,1,2,1,1,1,2,1,1,1,2,1,1,1,2,1,1,1,1,1,1,2,1,1,1,1,2,1,1,1,2,1,1,1,1,1,2,1,1,1,0] (.q 0 (.q 1 (.q 2 (.q 3 (.q 4 (.q 5 (.q 6 (.q 7 (.q 8 (.q 9 (.q 10 (.q 11 (.q 12 (.q 13 (.q 14 (.q 15 (.q 16 (.q 17 (.q 18 (.q 19 (.q 20 (.q 21 (.q 22 (.q 23 (.q 24 (.q 25 (.q 26 (.q 27 (.q 28 (.q 29 (.q 30 (.q 31 (.q 32 (.q 33 (.q 34 (.q 35 (.q 36 (.q 37 (.q 38 (.q 39 (.q 40 (.q 41 (.q 42 (.q 43 (.q 44 (.q 45 (.q 46 (.q 47 (.q 48 (.q 49 (.q 50 (.q 51 (.q 52 (.q 53 (.q 54 (.q 55 (.q 56 (.q 57 (.q 58 (.q 59 (.q 60 (.q 61 (.q 62 (.q 63 (.q 64 (.q 65 (.q 66 (.q 67 (.q 68 (.q 69 (.q 70 (.q 71 (.q 72 (.q 73 (.q 74 (.q 75 (.q 76 (.q 77 (.q 78 (.q 79 (.q 80 (.q 81 (.q 82 (.q 83 (.q 84 (.q 85 (.e 86 (.done)))))))))))))))))))))))))))))))))))))))))))))))))))))))))))))))))))))))))))))))))))))))) [.blk bb (ob [.pointer (some pa),.pointer (some fa),.map (some mb),kv,x] 199),.mp mk (yB s.kinds),.mp mb (yB (vV si.list)),.gs (x) 125 2 (vL si.list),.imp ms (xZ si.sites)] J N mixed (by kernel_rfl) (by simp) fun w N=>?_;refine Qq (fun a J=>?_) (o:=by exact fun J O=>xJ (i:=h) (j:=i) J rfl rfl (by omega));by_cases I0:(h+i) < T.cons.length;refine Qq (fun a J=>?_) (o:=by exact fun J O=>xJ (i:=h) (j:=i) J rfl rfl (by omega))
 obtain ⟨Y4,rfl,v,t,Z1,A2,j2,m1⟩:=h9.el p0 I0;obtain ⟨Q4,c213,rfl,z1,R2,i1⟩:=RTCon.fm m1;by_cases e0:v.name=r.con;refine Qq (fun a J=>?_) (o:=by exact fun J O=>xJ (i:=h) (j:=i) J rfl rfl (by omega));refine go fun a J=>?_;obtain ⟨N1,P⟩:=zW l;obtain ⟨a2,B2,k2,n1⟩:=h9.elem P;obtain ⟨R4,K3,rfl,X3,S2,g3⟩:=RTCon.fm n1;by_cases k0:v.type=N1.type;refine Qq (fun a J=>?_) (o:=by exact fun J O=>xJ (i:=h) (j:=i) J rfl rfl (by omega));refine Qq (fun a J=>?_) (o:=by exact fun J O=>wE (i:=r.vars.length) (j:=v.fields.length) J rfl rfl);refine yF call83 (fun J1 w M N a J=>?_) (fun J1 w M N=>?_) (c:=yC (b:=(decide (r.vars.length=v.fields.length))) N);replace N:=N.pl 1;refine yI call198 (fun j0 w o0 N a J=>?_) (c:=j5c hn N);refine Sto 2 fun w N a J=>?_;refine go fun a J=>?_;refine yO (J.ks [0,1,4,6,7,8,66,67,171,172]) N (fun R mm a w=>∃(k_:Nat) (sk:BS) (w1:Value),mm=r.vars.length - k_/\R B0 [(173,.int .i64 k_)] [(0,.mp j0.1 (yB sk.kinds)),(2,.blk bb (ob [.pointer (some pa),.pointer (some fa),.map (some mb),.map (some j0.1),w1] 199)),(3,.mp mb (yB (vV sk.list))),(4,.gs (w1) 125 2 (vL sk.list)),(5,.imp ms (xZ sk.sites))] a w/\(OEqv ((⟨si.list,s.kinds,si.sites⟩:BS).binds r.vars v.fields) (sk.binds (r.vars.drop k_) (v.fields.drop k_))/\NoK sk.kinds)) (r.vars.length - 0) ⟨0,⟨si.list,j0.2,si.sites⟩,x,rfl,⟨J.pk,N⟩,⟨q0v o0.1 _ _,o0.2⟩⟩ ?_;clear N J;rintro mm a w ⟨k_,sk,w1,g1,⟨J,N⟩,A⟩ z3 Z0;replace N:=N.nf;by_cases J0:k_ < r.vars.length;refine go fun a J=>?_;obtain ⟨Z4,rfl,O0,u0,S0,C2,l2,o1⟩:=y1.el h1 J0
 obtain rfl:S0=[.string O0]:=o1;have H4:r.vars.length=v.fields.length:=of_decide_eq_true (zC M);refine Qq (fun a J=>?_) (o:=by exact fun J O=>xJ (i:=h) (j:=i) J rfl rfl (by omega));refine go fun a J=>?_;have d1:k_ < v.fields.length:=by omega
 obtain ⟨a5,rfl,P0,w0,U0,D2,m2,p1⟩:=z1.el i1 d1;obtain rfl:U0=[.bool P0]:=p1;replace N:=N.ar [] [4,1,4,4];refine dB call127 (fun N0 S1 w C g2 N a J=>?_) (fun N0 w C N=>?_) (c:=z1v (s:=sk) (nm:=O0) (m:=P0) G N);rw [<- oE (zS C)] at N;refine go fun a J=>?_;replace N:=N.ar [] [5,4,3,3,5,5];refine Z0 _ _ _ (by subst g1;omega) ⟨(k_+1),(N0),(S1),rfl,⟨J.pk,N⟩,?_⟩;exact ⟨z8q A.1 u0 w0 (zS C),z1x (zS C) A.2⟩;replace N:=N.le (f);replace N:=N.dl [1,0];rw [show jO T F.chg e s=none from nF g (j8k k.1 p t (q0u A.1 u0 w0 (yK C)))];exact ⟨rfl,N⟩;refine go fun a J=>?_;have n0:=y5b A.1 J0;replace N:=N.ar [] [5,5,2,5,5];refine dB call128 (fun K1 R0 w Z X0 N a J=>?_) (fun K1 w Z N=>?_) (c:=hx _ (mgQ p) RP e1 z0 (At.part2 a1) H0 G A.2 N);refine go fun a J=>?_;replace N:=N.ar [2] [3,3,3,4,4];refine Y0 _ _ _ (by subst g1;omega) ⟨(i+1),(R0.2),(R0.1),(.map (some j0.1)),rfl,⟨J.pk,N⟩,?_⟩;have E1:mM T h i r=true:=(by rw [z1t P t];simp only [baQ,decide_eq_true_eq];exact ⟨⟨e0,k0⟩,of_decide_eq_true (zC M)⟩);exact ⟨j3z k.1 p E1 t n0 (zS Z) X0.1,by omega,by omega⟩;replace N:=N.le (f);replace N:=N.dl [0];rw [show jO T F.chg e s=none from nF g (j8l k.1 p t n0 (yK Z))];exact ⟨rfl,N⟩;replace N:=N.le (f);replace N:=N.dl [4,3,2,1,0];have U:=zP M;rw [show jO T F.chg e s=none from nF g (z7f k.1 p (by rw [z1t P t];simp [e0,k0,U]))];exact ⟨rfl,N⟩;refine qI call83 (fun w N=>?_) (c:=zI N);replace N:=N.le (f);replace N:=N.dl [4,3,2,1,0]
 rw [show jO T F.chg e s=none from nF g (z7f k.1 p (by rw [z1t P t];simp [e0,k0]))];exact ⟨rfl,N⟩;refine qI call83 (fun w N=>?_) (c:=zI N);replace N:=N.le (f);replace N:=N.dl [4,3,2,1,0];obtain ⟨C5,G1⟩:=zW l;rw [show jO T F.chg e s=none from nF g (z7f k.1 p (by rw [z1t G1 t];simp [e0]))];exact ⟨rfl,N⟩;refine qI call83 (fun w N=>?_) (c:=zI N);replace N:=N.le (f);replace N:=N.dl [4,3,2,1,0];rw [show jO T F.chg e s=none from nF g (z7f k.1 p (q6c I0))];exact ⟨rfl,N⟩;have j4:i=e.arms.length:=by have:=k.2.1;omega
 have k4:=k.2.2;refine Sto 0 fun w N a J=>?_;refine Qq (fun a J=>?_) (o:=by exact fun J O=>xJ (i:=h) (j:=e.arms.length) J rfl rfl (by omega));refine go fun a J=>?_;refine qO [1,1,1,1,1,1,2,1,1,1,2,1,1,1,1,2,1,1,1,2,1,1,1,2,1,1,1,2,1,1,1,1,1,1,1,2,1,1,1,2,1,1,1,1,1,1,2,1,1,1,2,1,1,1,2,1,1,1,2,1,1,1,2,1,1,1,2,1,1,1,0] (.q 0 (.q 1 (.q 2 (.q 3 (.q 4 (.q 5 (.q 6 (.q 7 (.q 8 (.q 9 (.q 10 (.q 11 (.q 12 (.q 13 (.q 14 (.q 15 (.q 16 (.q 17 (.q 18 (.q 19 (.q 20 (.q 21 (.q 22 (.q 23 (.q 24 (.q 25 (.q 26 (.q 27 (.q 28 (.q 29 (.q 30 (.q 31 (.q 32 (.q 33 (.q 34 (.q 35 (.q 36 (.q 37 (.q 38 (.q 39 (.q 40 (.q 41 (.q 42 (.q 43 (.q 44 (.q 45 (.q 46 (.q 47 (.q 48 (.q 49 (.q 50 (.q 51 (.q 52 (.q 53 (.q 54 (.q 55 (.q 56 (.q 57 (.q 58 (.q 59 (.q 60 (.q 61 (.q 62 (.q 63 (.q 64 (.q 65 (.q 66 (.q 67 (.q 68 (.q 69 (.e 70 (.done)))))))))))))))))))))))))))))))))))))))))))))))))))))))))))))))))))))))) [.blk bb (ob [.pointer (some pa),.pointer (some fa),.map (some mb),.map (some mk),x] 199),.mp mk (yB s.kinds),.mp mb (yB (vV si.list)),.gs (x) 125 2 (vL si.list),.imp ms (xZ si.sites)] J N mixed (by kernel_rfl) (by simp) fun w N=>?_;by_cases u:h=0;by_cases l0:(h+e.arms.length)=T.cons.length;refine zE call83 (fun w N a J=>?_) (c:=pV N);refine go fun a J=>?_;replace N:=N.le (f);replace N:=N.ar [] [4,4,3,4,4];refine hQ _ _ _ (yN J results165 ?_);have n:jN T h e.arms.length=true:=(by rw [wU];first | (simp [l,u,l0];done) | (simp_all;done));obtain ⟨z_,E,H⟩:=oG g (z1u k.1 V) n
 rw [E];exact ⟨(x,⟨si.list,s.kinds,si.sites⟩),rfl,⟨H,hn⟩,N⟩;refine go fun a J=>?_;have W:(h+e.arms.length) < T.cons.length:=by omega
 obtain ⟨b5,rfl,O1,x0,b2,E2,n2,q1⟩:=h9.el p0 W;obtain ⟨S4,L3,rfl,Y3,T2,h3⟩:=RTCon.fm q1;refine go fun a J=>?_;obtain ⟨P1,c0⟩:=zW l;obtain ⟨c2,F2,o2,r1⟩:=h9.elem c0;obtain ⟨T4,M3,rfl,Z3,U2,i3⟩:=RTCon.fm r1;refine Qq (fun a J=>?_) (o:=by exact fun J O=>j3l J rfl rfl);refine yF call83 (fun L1 w a0 N a J=>?_) (fun L1 w a0 N=>?_) (c:=yC (b:=((!decide (O1.type=P1.type)))) N);refine go fun a J=>?_;replace N:=N.le (f);replace N:=N.ar [] [4,4,3,4,4];refine hQ _ _ _ (yN J results165 ?_);have n:jN T h e.arms.length=true:=(by have U:=zC a0;rw [wU];first | (simp [x0,c0,l,u,W,l0,U];done) | (simp_all;done));obtain ⟨z_,E,H⟩:=oG g (z1u k.1 V) n;rw [E];exact ⟨(x,⟨si.list,s.kinds,si.sites⟩),rfl,⟨H,hn⟩,N⟩;replace N:=N.le (f);replace N:=N.dl [4,3,2,1,0];have n:jN T h e.arms.length=false:=(by have U:=zP a0;rw [wU];first | (simp [x0,c0,l,u,W,l0,U];done) | (simp_all;done));rw [show jO T F.chg e s=none from z4k g n];exact ⟨rfl,N⟩;refine Qq (fun a J=>?_) (o:=by exact fun J O=>z4f ((h - 1:Nat):Int) J rfl rfl (by have:=u;rw [aM (by omega)];omega));have B:h - 1 < T.cons.length:=by omega
 obtain ⟨c5,rfl,Q1,S,d2,G2,p2,s1⟩:=h9.el p0 B;obtain ⟨U4,N3,rfl,a4,V2,j3⟩:=RTCon.fm s1;refine go fun a J=>?_;obtain ⟨Q0,D⟩:=zW l;obtain ⟨e2,H2,q2,t1⟩:=h9.elem D;obtain ⟨V4,O3,rfl,b4,W2,k3⟩:=RTCon.fm t1;by_cases f0:Q1.type=Q0.type;refine qI call83 (fun w N=>?_) (c:=zI N);replace N:=N.le (f);replace N:=N.dl [4,3,2,1,0];have n:jN T h e.arms.length=false:=(by rw [wU];first | (simp [S,D,l,B,f0,u];done) | (simp_all;done));rw [show jO T F.chg e s=none from z4k g n];exact ⟨rfl,N⟩;by_cases m0:(h+e.arms.length)=T.cons.length;refine zE call83 (fun w N a J=>?_) (c:=pV N);refine go fun a J=>?_;replace N:=N.le (f);replace N:=N.ar [] [4,4,3,4,4];refine hQ _ _ _ (yN J results165 ?_);have n:jN T h e.arms.length=true:=(by rw [wU];first | (simp [S,D,l,B,m0,u,f0];done) | (simp_all;done));obtain ⟨z_,E,H⟩:=oG g (z1u k.1 V) n;rw [E];exact ⟨(x,⟨si.list,s.kinds,si.sites⟩),rfl,⟨H,hn⟩,N⟩;refine go fun a J=>?_;have X:(h+e.arms.length) < T.cons.length:=by omega
 obtain ⟨R1,d0⟩:=zW X;obtain ⟨f2,I2,r2,u1⟩:=h9.elem d0;obtain ⟨W4,P3,rfl,d4,X2,l3⟩:=RTCon.fm u1;refine Qq (fun a J=>?_) (o:=by exact fun J O=>j3l J rfl rfl);refine yF call83 (fun M1 w b0 N a J=>?_) (fun M1 w b0 N=>?_) (c:=yC (b:=((!decide (R1.type=Q0.type)))) N);refine go fun a J=>?_;replace N:=N.le (f);replace N:=N.ar [] [4,4,3,4,4];refine hQ _ _ _ (yN J results165 ?_);have n:jN T h e.arms.length=true:=(by have U:=zC b0;rw [wU];first | (simp [S,D,d0,l,B,X,u,f0,m0,U];done) | (simp_all;done));obtain ⟨z_,E,H⟩:=oG g (z1u k.1 V) n;rw [E];exact ⟨(x,⟨si.list,s.kinds,si.sites⟩),rfl,⟨H,hn⟩,N⟩;replace N:=N.le (f);replace N:=N.dl [4,3,2,1,0];have n:jN T h e.arms.length=false:=(by have U:=zP b0;rw [wU];first | (simp [S,D,d0,l,B,X,u,f0,m0,U];done) | (simp_all;done));rw [show jO T F.chg e s=none from z4k g n];exact ⟨rfl,N⟩;replace N:=N.le (f);replace N:=N.dl [4,3,2,1,0];rw [show jO T F.chg e s=none from j4x (of_decide_eq_false (zP Y))];exact ⟨rfl,N⟩;replace N:=N.le (f);replace N:=N.dl [2,1,0];rw [show jO T F.chg e s=none from j4v (zP i0)];exact ⟨rfl,N⟩;replace N:=N.dl [4,3,2,1,0];rw [show jO T F.chg e s=none from j4u (zP q0)];exact ⟨rfl,N⟩
end Go.Sw
