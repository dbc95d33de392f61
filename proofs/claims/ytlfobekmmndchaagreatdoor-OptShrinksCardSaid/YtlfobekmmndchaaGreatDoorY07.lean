import Derived.LoopNIn
import Derived.Test.YtlfobekmmndchaaGreatDoorY06
set_option linter.unusedVariables false
set_option linter.unusedSimpArgs false
namespace Go.Sw
open Go.Proofs Go.Proofs.Tryz
set_option maxRecDepth 20000
set_option maxHeartbeats 4000000
theorem Row.cap {Φ:Fz} {q:Option Addr} {m c c' k:Nat} {cs:List Value} (h:Row Φ (.slice q m c) k cs) (b:q=none->c'=0):Row Φ (.slice q m c') k cs:=by
 rcases h with ⟨h,a⟩ | ⟨p,m',g,e,a,d,f⟩
 ·cases h;rw [b rfl];exact .inl ⟨rfl,a⟩
 ·cases e;exact .inr ⟨p,m,c',rfl,a,d,f⟩
theorem SliceOf.full {α:Type} {R:Fz->List Value->α->Prop} {Φ:Fz} {k c:Nat} {q:Option Addr} {l:List α} (h:SliceOf R Φ k (.slice q l.length c) l):SliceOf R Φ k (.slice q l.length l.length) l:=by
 obtain ⟨cs,a,b⟩:=h;refine ⟨cs,a.cap fun e=>?_,b⟩;rcases a with ⟨h,f⟩ | ⟨p,m',d,e',_⟩
 ·injection h
 ·cases e';cases e
theorem sF {n:Nat} {E:List (Nat×Value)} {D:List Deferred} {a:Act} {x hi mx:Operand} {t e ty:TypeId} {q:Option Addr} {m c i k:Nat} {w:World} {P:Program} (J:EnvR n E D a) (h:ev E x=some (.slice q m c)) (f:ev E hi=some (.int .i64 i))
  (b:ev E mx=some (.int .i64 i)) (g:Under P t (.slice e)) (O:SizeT P e k) (d:i<=c):Ok P a (.slice t x none (some hi) (some mx)) ty w (.slice q i i):=fun _ _ _ _=>by
 simp only [execOp,J.ev h,Option.map_some,Option.map_none,J.ev f,J.ev b,Instr.sliceAt]
 simp [Sem.run_bind,g w,O w,Instr.slice,Instr.sliceBounds,Instr.sliceBound,asIntOf,Result.andThen,Addr.add,d]
section
variable {P:Program} {n:Nat} {E:List (Nat×Value)} {D:List Deferred} {a:Act} {Φ Ψ:Fz} {K:List Res} {w:World}
variable {Kn:Value->World->Prop} {Qp:List PanicEntry->World->Prop} {dst:Option Tmp} {ty:TypeId} {pos:String} {aft:Array Edge} {g:Option (Nat×Bool)}
theorem cL {s x:Operand} {t e:TypeId} {size bytes m:Nat} {q:Option Addr} {vx:Value} {olds news:List Value} (o:RowT P t e size bytes) (J:EnvR n E D a) (N:Mem Φ K w)
  (O:ev E s=some (.slice q m m)) (I:Row Φ (.slice q m m) size olds) (Q:ev E x=some vx) (M:y4q w vx size news) (y:news≠[]) (R:news.all Value.oneCell'=true)
  (hb:(olds.length+news.length) * bytes<=140737488355328)
  (k:∀v' w',Mem Φ (.gs v' e size (olds++news)::K) w'->Kn v' w') :
  Oper.eff P ⟨dst,.call { callee:=.builtin .append,args:=#[s,x],argTypes:=#[t,t] },ty,pos,aft,g⟩ a w Kn Qp:=by
 rcases I with ⟨h,S⟩ | ⟨p,m',X,e',f,U,B⟩
 ·cases h;subst S
  exact wX 0 o J (N.nilRow e size) O rfl Q M R hb fun v' w' h=>k v' w' h
 ·cases e'
  obtain ⟨inf,z,hi,W,A,C,L⟩:=o.info;have V:=o.pos;rcases M with ⟨_,rfl⟩ | ⟨a',n',c,rfl,hl,hat'⟩
  ·exact absurd rfl y
  have hn':0 < n':=by
   cases n' with
   | zero=>rw [Nat.zero_mul] at hl;exact absurd (List.eq_nil_of_length_eq_zero hl) y
   | succ k=>exact Nat.succ_pos k
  have r:(m+n') * bytes<=140737488355328:=by
   refine Nat.le_trans (Nat.mul_le_mul_right _ ?_) hb;rw [f,hl,<- Nat.add_mul];exact Nat.le_mul_of_pos_right _ V
  have l:m+n'<=Go.maxLen:=by
   have:=Nat.le_trans (Nat.le_mul_of_pos_right (m+n') o.bpos) r;simp only [Go.maxLen];omega
  have hsmall:m+n'<=9223372036854775807:=by simp only [Go.maxLen] at l;omega
  have holds:∀j u,olds[j]? = some u->w.cell? (p.add j)=some u:=fun j u H=>N.toSees.at (B fun e=>by rw [e] at H;simp at H) j u H;have d:=run_append_grow (P:=P) w t ty e inf z o.under hi W p m m olds (by rw [A];exact f) holds a' n' c news (by rw [A];exact hl) hat' (by omega) (by omega) (by rw [C];exact growslice_fits (by omega) r)
  have v:∀v' w',(Builtin.append_ #[t,t] ty #[.slice (some p) m m,.slice (some a') n' c]).run P w=.ok v' w'->Kn v' w' ->
    Oper.eff P ⟨dst,.call { callee:=.builtin .append,args:=#[s,x],argTypes:=#[t,t] },ty,pos,aft,g⟩ a w Kn Qp:=by
   intro v' w' d T;unfold Oper.eff
   have:(execOp a.eval ⟨dst,.call { callee:=.builtin .append,args:=#[s,x],argTypes:=#[t,t] },ty,pos,aft,g⟩).run P w=.ok (.value v') w':=by
    simp only [execOp,resolve,invoke,builtin,Sem.run_bind,Sem.run_pure,Result.andThen_ok,List.map_toArray,List.map_cons,List.map_nil,J.ev O,J.ev Q,d]
   rw [this];exact T
  have G:=grownCap_ge w (m+n') m e;have F:grownCap w (m+n') m e<=maxLen:=grownCap_le_maxLen w (m+n') m e l;have i:(olds++news).length=(m+n') * size:=by rw [laQ,f,hl,Nat.add_mul]
  refine v _ _ d (k _ _ (N.drew.more rfl rfl (fun b hb=>wN hb) ⟨m+n',⟨i,.inr ⟨w.heap.size,_,_,rfl,Nat.zero_le _,heap_alloc_new w.drew _,G,F,?_,?_⟩⟩⟩ (by simp [Res.foot,Value.ownBlock,World.drew])))
  ·simp only [Array.size_append,List.size_toArray,size_zeroCells,L,f,hl,<- Nat.add_mul]
   congr 1
   omega
  ·simp only [Array.toList_append,List.append_assoc]
   rw [<- List.append_assoc,<- i];exact List.take_left
end
def RFnd (Φ:Fz) (c:List Value) (x:Fnd):Prop:=∃s t p d,c=[s,t,.pointer (some p)]/\z2a s/\z2a t/\SliceOf RInt Φ 1 s x.path/\SliceOf RPtE Φ 1 t x.up/\At Φ p d/\RTE Φ d x.x
theorem RFnd.mono (Φ Ψ:Fz) (c:List Value) (x:Fnd) (hl:Φ.Le Ψ) (h:RFnd Φ c x):RFnd Ψ c x :=
 let ⟨s,t,p,d,a,b,e,f,g,i,j⟩:=h;⟨s,t,p,d,a,b,e,f.mono RInt.mono hl,g.mono RPtE.mono hl,i.mono hl,RTE.mono _ _ _ _ hl j⟩
theorem yX {α:Type} {R:List Value->α->Prop} {k:Nat} {c:List Value} {x:α} (a:c.length=k) (h:R c x):Chunks R k c [x]:=⟨c,[],by simp,a,h,rfl⟩
section
variable {α σ:Type} {step:σ->Fnd->σ×Bool} {s0 si:σ} {p:List Int} {up:List TE} {e:TE} {i:Nat}
theorem q0q (h:(step s0 ⟨p,up,e⟩).2=true):zL step s0 (zF p up e)=zL step (step s0 ⟨p,up,e⟩).1 (belowTa p (up++[e]) ((0:Nat):Int) (e.arms.drop 0)++belowTs p (up++[e]) 0 e.body):=by
 rw [jS,z3q h];rfl
theorem q6l (h:(step s0 ⟨p,up,e⟩).2=false):zL step s0 (zF p up e)=((step s0 ⟨p,up,e⟩).1,false):=by
 rw [jS,uO h]
theorem z8n {l:List TA} {u:List TE} {x:TA} (h:l[i]? = some x):belowTa p u ((i:Nat):Int) (l.drop i)=zF (p++[((i:Nat):Int)]) u x.body++belowTa p u (((i+1:Nat)):Int) (l.drop (i+1)):=by
 rw [yM h];cases x with
 | mk c vs b=>rw [belowTa];rfl
theorem z8o {l u:List TE} {x:TE} (h:l[i]? = some x):belowTs p u ((i:Nat):Int) (l.drop i)=zF (p++[((i:Nat):Int)]) u x++belowTs p u (((i+1:Nat)):Int) (l.drop (i+1)):=by
 rw [yM h,belowTs];rfl
variable {r:σ×Bool} {A B C:List Fnd}
theorem x3x (a:r=zL step si ((A++B)++C)) (h:(zL step si A).2=true):r=zL step (zL step si A).1 (B++C):=by
 rw [a,List.append_assoc,aC,h];rfl
theorem x3w (a:r=zL step si ((A++B)++C)) (h:(zL step si A).2=false):r=((zL step si A).1,false):=by
 rw [a,List.append_assoc,aC,h];rfl
theorem j8g {l:List TA} {u:List TE} {x:TA} (a:r=zL step si (belowTa p u ((i:Nat):Int) (l.drop i)++C)) (b:l[i]? = some x) (O:(zL step si (zF (p++[((i:Nat):Int)]) u x.body)).2=true) :
  r=zL step (zL step si (zF (p++[((i:Nat):Int)]) u x.body)).1 (belowTa p u (((i+1:Nat)):Int) (l.drop (i+1))++C):=x3x (by rw [z8n b] at a;exact a) O
theorem j8f {l:List TA} {u:List TE} {x:TA} (a:r=zL step si (belowTa p u ((i:Nat):Int) (l.drop i)++C)) (b:l[i]? = some x) (O:(zL step si (zF (p++[((i:Nat):Int)]) u x.body)).2=false) :
  r=((zL step si (zF (p++[((i:Nat):Int)]) u x.body)).1,false):=x3w (by rw [z8n b] at a;exact a) O
theorem j4o {l u:List TE} {x:TE} (a:r=zL step si (belowTs p u ((i:Nat):Int) (l.drop i))) (b:l[i]? = some x) (O:(zL step si (zF (p++[((i:Nat):Int)]) u x)).2=true) :
  r=zL step (zL step si (zF (p++[((i:Nat):Int)]) u x)).1 (belowTs p u (((i+1:Nat)):Int) (l.drop (i+1))):=by
 rw [z8o b,aC,O] at a;exact a
theorem j4n {l u:List TE} {x:TE} (a:r=zL step si (belowTs p u ((i:Nat):Int) (l.drop i))) (b:l[i]? = some x) (O:(zL step si (zF (p++[((i:Nat):Int)]) u x)).2=false) :
  r=((zL step si (zF (p++[((i:Nat):Int)]) u x)).1,false):=by
 rw [z8o b,aC,O] at a;exact a
end
def FitE (p:List Int) (up:List TE) (e:TE):Prop:=p.length=up.length/\up.length+zA e<=20000
theorem FitE.arm {p:List Int} {up:List TE} {e:TE} {a:TA} {i:Int} (h:FitE p up e) (b:a∈e.arms):FitE (p++[i]) (up++[e]) a.body:=by
 have:=kM b;exact ⟨by simp [h.1],by have:=h.2;simp;omega⟩
theorem FitE.rest {p:List Int} {up:List TE} {e x:TE} {i:Int} (h:FitE p up e) (a:x∈e.body):FitE (p++[i]) (up++[e]) x:=by
 have:=vN a;exact ⟨by simp [h.1],by have:=h.2;simp;omega⟩
theorem Mem.freezeRowC {Φ:Fz} {K:List Res} {w:World} {v:Value} {T:TypeId} {k i:Nat} {cs:List Value} (N:Mem Φ K w) (b:yU K i=some (.gs v T k cs)):∃Ψ,Φ.Le Ψ/\Mem Ψ (cZ K i) w/\Row Ψ v k cs/\z2a v:=by
 obtain ⟨Ψ,c,d,e⟩:=N.freezeRow b;refine ⟨Ψ,c,d,e,?_⟩;obtain ⟨n,a⟩:=N.own _ (yR b);rcases a.2 with ⟨rfl,_⟩ | ⟨g,cap,cur,rfl,_,_,f,_⟩
 ·exact Nat.le_refl 0
 ·exact f
theorem Steps.frame {α σ β:Type} {P:Program} {y:Value} {Φ:Fz} {RA:Fz->List Value->α->Prop} {items:List α} {step:σ->α->σ×Bool} {G:Fz->σ->Bool->β->Prop} {KV:σ->Bool->β->List Res} (F:List Res)
  (h:Steps P y Φ RA items step G KV):Steps P y Φ RA items step G (fun s b z=>F++KV s b z) :=
 ⟨h.fn,h.mono,fun Ψ s z c x K0 w d f g i N=>by
  rw [<- List.append_assoc] at N;refine (h.go Ψ s z c x (K0++F) w d f g i N).mono fun e w' h=>?_;obtain ⟨j,Ψ',z',k,l,a⟩:=h;rw [List.append_assoc] at a
  exact ⟨j,Ψ',z',k,l,a⟩⟩
section
variable {p:List Int} {up:List TE} {e:TE} {i:Nat} {y:Fnd}
theorem q6j:(⟨p,up,e⟩:Fnd)∈zF p up e:=by rw [jS];exact msQ
theorem j4h {a:TA} (b:e.arms[i]? = some a) (h:y∈zF (p++[((i:Nat):Int)]) (up++[e]) a.body):y∈zF p up e:=by
 rw [jS];exact mcQ _ (List.mem_append_left _ (mem_belowTa.2 ⟨i,a,b,by rw [Int.zero_add];exact h⟩))
theorem q6i {x:TE} (a:e.body[i]? = some x) (h:y∈zF (p++[((i:Nat):Int)]) (up++[e]) x):y∈zF p up e:=by
 rw [jS];exact mcQ _ (List.mem_append_right _ (mem_belowTs.2 ⟨i,x,a,by rw [Int.zero_add];exact h⟩))
end
def z7u (e:TE):Prop:=∀{Φ:Fz} {w:World} {σ β:Type} {c:List Value} {y:Value} {step:σ->Fnd->σ×Bool} {G:Fz->σ->Bool->β->Prop} {KV:σ->Bool->β->List Res} {s0:σ} {z0:β} {p:List Int} {up:List TE} {items:List Fnd},
  RFnd Φ c ⟨p,up,e⟩->FitE p up e->Steps prog y Φ RFnd items step G KV->(∀x∈zF p up e,x∈items)->G Φ s0 true z0->Mem Φ (KV s0 true z0) w ->
  Calls prog 124 #[.agg c.toArray,y] w (fun ee w'=>∃q:Fz×β,ee=.returned (.bool (zL step s0 (zF p up e)).2)/\(Φ.Le q.1/\G q.1 (zL step s0 (zF p up e)).1 (zL step s0 (zF p up e)).2 q.2)/\Mem q.1 (KV (zL step s0 (zF p up e)).1 (zL step s0 (zF p up e)).2 q.2) w')
theorem q6k {e:TE} (B1:∀a∈e.arms,z7u a.body) (C1:∀x∈e.body,z7u x):z7u e:=by
 intro Φ w σ β c y step G KV s0 z0 p up items hf I M F0 B N;have m:=hf;obtain ⟨r1,p1,q1,n1⟩:=M.fn;subst n1;obtain ⟨s1,s2,p3,d4,rfl,i1,D1,D,y0,C,q0⟩:=id hf;replace D:SliceOf RInt Φ 1 s1 p:=D;replace y0:SliceOf RPtE Φ 1 s2 up:=y0;replace q0:RTE Φ _ e:=q0;obtain ⟨Y,P,rfl,R1,A2⟩:=D.fm;obtain ⟨Z,U,rfl,S1,B2⟩:=y0.fm;have n:=q0;obtain ⟨X2,c23,Y2,R2,Z2,S2,rfl,t2,u2,U2,o0,E,w2,C2,x2,j1,y2,k1⟩:=RTE.fm q0;refine zJ func124 ntmps124 fun Q hQ a J=>?_;refine Bx fun T w N a J=>?_;refine go1 fun a J=>?_;refine mX ?_
 refine zG J (by intro c h;cases h) (yZ J rfl) rfl fun a J=>
   zG J (by intro c h;cases h) (qG 0 (vs:=[.slice Y p.length P,.slice Z up.length U,.pointer (some p3)]) J N.toSees rfl rfl isAgg90 sizeOf90 rfl rfl) rfl fun a J=>?_
 refine in_stR J rfl rfl rfl (by intro c h;cases h) (oK J rfl rfl (M.go Φ s0 z0 _ (⟨p,up,e⟩) [.blk T (ob [.slice Y p.length P,.slice Z up.length U,.pointer (some p3)] 90)] w (Fz.Le.refl _) (F0 _ q6j) m B N) fun w A1 a J=>?_);obtain ⟨u1,t1,u,j,N⟩:=A1;replace D:=D.mono RInt.mono u;replace y0:=y0.mono RPtE.mono u;replace o0:=o0.mono RTA.mono u;replace E:=E.mono RTE.mono u;replace C:=C.mono u;replace n:=RTE.mono _ _ _ _ u n;replace m:=RFnd.mono _ _ _ _ u m;replace B:=M.mono _ _ _ _ _ u B;replace N:=N.nf;refine zG J (by intro c h;cases h) (z6v J rfl) rfl fun a J=>?_;refine zZ ?_;refine go fun a J=>?_;generalize R0:(!(step s0 (⟨p,up,e⟩)).2)=e1 at J;cases e1;refine go fun a J=>?_;have S0:(step s0 (⟨p,up,e⟩)).2=true:=by have h_:=R0;revert h_;cases ((step s0 (⟨p,up,e⟩)).2) <;> simp
 rw [S0] at j N;refine Reg [1,2,1,1,1,1,2,0,0,1] [0] fun w N a J=>?_;have l1:=SliceOf.full y0;refine Qq (fun a J=>?_) (o:=by exact fun J O=>sF J rfl rfl rfl runUnderlying87 sizeOf88 (show up.length<=U from D1));refine qR fun m0 w N a J=>?_;obtain ⟨k2,O0,g0⟩:=id l1;refine d_e J rfl rfl rfl (cL aR J N rfl O0 rfl (N.toSees.rowIn (i:=0) rfl) (by simp) rfl (by rw [g0.length];have:=I.1;have:=I.2;simp only [lcQ,lnQ];omega) fun f3 w N=>⟨fun _=>N.sn (Fz.Le.refl _),fun a J=>?_⟩);replace N:=N.nf;have K:=N;clear N;obtain ⟨N0,v,N,P0,p0⟩:=K.freezeRowC (i:=0) rfl;clear K;replace D:=D.mono RInt.mono v;replace o0:=o0.mono RTA.mono v;replace E:=E.mono RTE.mono v;replace C:=C.mono v;replace n:=RTE.mono _ _ _ _ v n;replace m:=RFnd.mono _ _ _ _ v m;replace B:=M.mono _ _ _ _ _ v B;replace j:=M.mono _ _ _ _ _ v j;replace g0:=g0.mono fun _ _ h=>RPtE.mono _ _ _ _ v h;replace N:=N.nf;have k:SliceOf RPtE N0 1 _ ((up++[e])):=⟨_,P0,g0.append (yX rfl ⟨_,_,rfl,C,n⟩)⟩;obtain ⟨o1,f1,M0,T1,D2⟩:=k.form (by decide);have L:=N;clear N;subst M0;have N:=L;clear L;refine go fun a J=>?_
 refine gV (fun mm a w=>∃(d0:Fz) (i:Nat) (si:σ) (zi:β),mm=e.arms.length - i/\EnvR 90 [(1,.func r1 p1 q1),(2,.pointer (some ⟨T,0,none⟩)),(5,.int .i64 p.length),(7,.slice o1 ((up++[e])).length f1),(34,.int .i64 e.arms.length),(35,.int .i64 i)] [] a/\Mem d0 (.gs (m0) 88 1 [.pointer (some p3)]::.blk T (ob [.slice Y p.length P,.slice Z up.length U,.pointer (some p3)] 90)::KV si true zi) w/\(N0.Le d0/\(zL step s0 (zF p up e)=zL step si (belowTa p (up++[e]) ((i:Nat):Int) (e.arms.drop i)++belowTs p (up++[e]) 0 e.body)/\G d0 si true zi))) (e.arms.length - 0) ⟨N0,0,(step s0 (⟨p,up,e⟩)).1,t1,rfl,J.pk,N,⟨Fz.Le.refl _,⟨q0q S0,j⟩⟩⟩ ?_;clear N J;rintro mm a w ⟨d0,i,si,zi,a1,J,N,b0⟩ P2 h1;obtain ⟨t,b0⟩:=b0;replace D:=D.mono RInt.mono t;replace o0:=o0.mono RTA.mono t;replace E:=E.mono RTE.mono t;replace C:=C.mono t;replace n:=RTE.mono _ _ _ _ t n;replace m:=RFnd.mono _ _ _ _ t m;replace B:=M.mono _ _ _ _ _ t B;replace j:=M.mono _ _ _ _ _ t j;replace k:=k.mono RPtE.mono t;have A:=b0.2;by_cases g1:i < e.arms.length;refine go fun a J=>?_;refine qO [1,2,1,1,1,1,0,0,1,1,2,1,1,2,1,1,1,1,1,0,1] (.q 0 (.q 1 (.q 2 (.q 3 (.q 4 (.q 5 (.q 8 (.q 9 (.q 10 (.q 11 (.q 12 (.q 13 (.q 14 (.q 15 (.q 16 (.q 18 (.e 6 (.e 7 (.q 17 (.e 19 (.q 20 (.done)))))))))))))))))))))) [.gs (m0) 88 1 [.pointer (some p3)],.blk T (ob [.slice Y p.length P,.slice Z up.length U,.pointer (some p3)] 90)] J N mixed (by kernel_rfl) (by simp) fun w N=>?_;have m1:=SliceOf.full D
 refine Qq (fun a J=>?_) (o:=by exact fun J O=>sF J rfl rfl rfl runUnderlying34 sizeOf3 (show p.length<=P from i1));refine go fun a J=>?_;obtain ⟨d3,rfl,A0,l0,l2,v2,i0,j0⟩:=o0.el j1 g1;obtain ⟨a3,T2,Q2,rfl,V2,x0,z2,E2⟩:=RTA.fm j0;obtain ⟨b3,d2,F2,e2,G2,f2,rfl,E1,F1,W2,m2,n2,L1,U1,M1,V1,N1,W1⟩:=RTE.fm x0;refine qR fun U0 w N a J=>?_;obtain ⟨x1,G0,R⟩:=id m1;refine d_e J rfl rfl rfl (cL dQ J N rfl G0 rfl (N.toSees.rowIn (i:=0) rfl) (by simp) rfl (by rw [R.length];have:=I.1;have:=I.2;simp only [lcQ,lnQ];omega) fun N2 w N=>⟨fun _=>N.sn (Fz.Le.refl _),fun a J=>?_⟩);replace N:=N.nf;have K:=N;clear N;obtain ⟨c1,d,N,H0,D0⟩:=K.freezeRowC (i:=0) rfl;clear K;replace D:=D.mono RInt.mono d;replace E:=E.mono RTE.mono d;replace C:=C.mono d;replace n:=RTE.mono _ _ _ _ d n;replace m:=RFnd.mono _ _ _ _ d m;replace B:=M.mono _ _ _ _ _ d B;replace j:=M.mono _ _ _ _ _ d j;replace k:=k.mono RPtE.mono d;replace A:=M.mono _ _ _ _ _ d A;replace i0:=i0.mono d;replace j0:=RTA.mono _ _ _ _ d j0;replace x0:=RTE.mono _ _ _ _ d x0;replace R:=R.mono fun _ _ h=>RInt.mono _ _ _ _ d h;replace N:=N.nf;have r0:SliceOf RInt c1 1 _ ((p++[((i:Nat):Int)])):=⟨_,H0,R.append (yX rfl (show RInt _ _ _ from rfl))⟩;obtain ⟨H2,g2,M0,v1,X1⟩:=r0.form (by decide);have L:=N;clear N;subst M0;have N:=L;clear L;refine yE fun a J=>?_;have J1:=(Fz.Le.refl _).trans d
 refine yI call124 (fun u0 w f N a J=>?_) (c:=B1 _ (mgQ l0) (KV:=fun s b z=>[.gs (U0) 3 1 [.int .i64 i],.gs (m0) 88 1 [.pointer (some p3)],.blk T (ob [.slice Y p.length P,.slice Z up.length U,.pointer (some p3)] 90)]++KV s b z) (s0:=si) (z0:=zi) ⟨_,_,_,_,rfl,D0,p0,r0,k,(At.part2 i0),x0⟩ (I.arm (mgQ l0)) ((M.sub ((((u).trans v).trans t).trans d) fun _ h=>h).frame [.gs (U0) 3 1 [.int .i64 i],.gs (m0) 88 1 [.pointer (some p3)],.blk T (ob [.slice Y p.length P,.slice Z up.length U,.pointer (some p3)] 90)]) (fun _ h=>F0 _ (j4h l0 h)) A N);replace D:=D.mono RInt.mono f.1;replace E:=E.mono RTE.mono f.1;replace C:=C.mono f.1;replace n:=RTE.mono _ _ _ _ f.1 n;replace m:=RFnd.mono _ _ _ _ f.1 m;replace B:=M.mono _ _ _ _ _ f.1 B;replace j:=M.mono _ _ _ _ _ f.1 j;replace k:=k.mono RPtE.mono f.1;replace A:=M.mono _ _ _ _ _ f.1 A;replace i0:=i0.mono f.1;replace j0:=RTA.mono _ _ _ _ f.1 j0;replace x0:=RTE.mono _ _ _ _ f.1 x0;have e0:=f.2;replace N:=N.nf;refine go fun a J=>?_;generalize B0:(!(zL step si (zF (p++[((i:Nat):Int)]) (up++[e]) A0.body)).2)=X0 at J;cases X0;refine go fun a J=>?_;have K0:(zL step si (zF (p++[((i:Nat):Int)]) (up++[e]) A0.body)).2=true:=by have h_:=B0;revert h_;cases ((zL step si (zF (p++[((i:Nat):Int)]) (up++[e]) A0.body)).2) <;> simp
 rw [K0] at e0 N;replace N:=N.dl [0];refine h1 _ _ _ (by subst a1;omega) ⟨(u0.1),(i+1),((zL step si (zF (p++[((i:Nat):Int)]) (up++[e]) A0.body)).1),(u0.2),rfl,J.pk,N,?_⟩;refine ⟨((t).trans d).trans f.1,?_⟩;exact ⟨j8g b0.1 l0 K0,e0⟩;refine yG ?_;replace N:=N.dl [2,1,0];have k0:(zL step si (zF (p++[((i:Nat):Int)]) (up++[e]) A0.body)).2=false:=by have h_:=B0;revert h_;cases ((zL step si (zF (p++[((i:Nat):Int)]) (up++[e]) A0.body)).2) <;> simp
 rw [show zL step s0 (zF p up e)=_ from j8f b0.1 l0 k0];rw [k0] at e0 N;exact ⟨(u0.1,u0.2),rfl,⟨((((u).trans v).trans t).trans d).trans f.1,e0⟩,N⟩;refine go fun a J=>?_;refine gV (fun mm a w=>∃(X:Fz) (j_:Nat) (sj:σ) (zj:β),mm=e.body.length - j_/\EnvR 90 [(1,.func r1 p1 q1),(2,.pointer (some ⟨T,0,none⟩)),(5,.int .i64 p.length),(7,.slice o1 ((up++[e])).length f1),(65,.int .i64 e.body.length),(66,.int .i64 j_)] [] a/\Mem X (.gs (m0) 88 1 [.pointer (some p3)]::.blk T (ob [.slice Y p.length P,.slice Z up.length U,.pointer (some p3)] 90)::KV sj true zj) w/\(d0.Le X/\(zL step s0 (zF p up e)=zL step sj (belowTs p (up++[e]) ((j_:Nat):Int) (e.body.drop j_))/\G X sj true zj))) (e.body.length - 0) ⟨d0,0,si,zi,rfl,J.pk,N,⟨Fz.Le.refl _,⟨by have h_:=b0.1;rw [qV g1] at h_;exact h_,A⟩⟩⟩ ?_;clear N J;rintro mm a w ⟨X,j_,sj,zj,a1,J,N,F⟩ c2 Z0;obtain ⟨l,F⟩:=F;replace D:=D.mono RInt.mono l;replace E:=E.mono RTE.mono l;replace C:=C.mono l;replace n:=RTE.mono _ _ _ _ l n;replace m:=RFnd.mono _ _ _ _ l m;replace B:=M.mono _ _ _ _ _ l B;replace j:=M.mono _ _ _ _ _ l j;replace k:=k.mono RPtE.mono l;replace A:=M.mono _ _ _ _ _ l A;have a0:=F.2;by_cases Q0:j_ < e.body.length;refine go fun a J=>?_
 refine qO [1,2,1,1,1,1,0,0,1,1,2,1,1,2,1,1,1,1,0,1] (.q 0 (.q 1 (.q 2 (.q 3 (.q 4 (.q 5 (.q 8 (.q 9 (.q 10 (.q 11 (.q 12 (.q 13 (.q 14 (.q 15 (.q 17 (.e 6 (.e 7 (.q 16 (.e 18 (.q 19 (.done))))))))))))))))))))) [.gs (m0) 88 1 [.pointer (some p3)],.blk T (ob [.slice Y p.length P,.slice Z up.length U,.pointer (some p3)] 90)] J N mixed (by kernel_rfl) (by simp) fun w N=>?_;have b1:=SliceOf.full D;refine Qq (fun a J=>?_) (o:=by exact fun J O=>sF J rfl rfl rfl runUnderlying34 sizeOf3 (show p.length<=P from i1));refine go fun a J=>?_;obtain ⟨M2,rfl,c0,W,y1,I1,V,H⟩:=E.el k1 Q0;obtain ⟨I2,h2,J2,c168,K2,i2,rfl,G1,H1,o2,p2,q2,O1,Y1,P1,Z1,Q1,a2⟩:=RTE.fm H;refine qR fun V0 w N a J=>?_;obtain ⟨z1,I0,S⟩:=id b1;refine d_e J rfl rfl rfl (cL dQ J N rfl I0 rfl (N.toSees.rowIn (i:=0) rfl) (by simp) rfl (by rw [S.length];have:=I.1;have:=I.2;simp only [lcQ,lnQ];omega) fun O2 w N=>⟨fun _=>N.sn (Fz.Le.refl _),fun a J=>?_⟩);replace N:=N.nf;have K:=N;clear N;obtain ⟨d1,g,N,J0,E0⟩:=K.freezeRowC (i:=0) rfl;clear K;replace C:=C.mono g;replace n:=RTE.mono _ _ _ _ g n;replace m:=RFnd.mono _ _ _ _ g m;replace B:=M.mono _ _ _ _ _ g B;replace j:=M.mono _ _ _ _ _ g j;replace k:=k.mono RPtE.mono g;replace A:=M.mono _ _ _ _ _ g A;replace a0:=M.mono _ _ _ _ _ g a0;replace V:=V.mono g;replace H:=RTE.mono _ _ _ _ g H;replace S:=S.mono fun _ _ h=>RInt.mono _ _ _ _ g h;replace N:=N.nf;have t0:SliceOf RInt d1 1 _ ((p++[((j_:Nat):Int)])):=⟨_,J0,S.append (yX rfl (show RInt _ _ _ from rfl))⟩
 obtain ⟨L2,j2,M0,w1,b2⟩:=t0.form (by decide);have L:=N;clear N;subst M0;have N:=L;clear L;refine yE fun a J=>?_;have K1:=(Fz.Le.refl _).trans g;refine yI call124 (fun w0 w r N a J=>?_) (c:=C1 _ (mgQ W) (KV:=fun s b z=>[.gs (V0) 3 1 [.int .i64 j_],.gs (m0) 88 1 [.pointer (some p3)],.blk T (ob [.slice Y p.length P,.slice Z up.length U,.pointer (some p3)] 90)]++KV s b z) (s0:=sj) (z0:=zj) ⟨_,_,_,_,rfl,E0,p0,t0,k,V,H⟩ (I.rest (mgQ W)) ((M.sub (((((u).trans v).trans t).trans l).trans g) fun _ h=>h).frame [.gs (V0) 3 1 [.int .i64 j_],.gs (m0) 88 1 [.pointer (some p3)],.blk T (ob [.slice Y p.length P,.slice Z up.length U,.pointer (some p3)] 90)]) (fun _ h=>F0 _ (q6i W h)) a0 N);replace C:=C.mono r.1;replace n:=RTE.mono _ _ _ _ r.1 n;replace m:=RFnd.mono _ _ _ _ r.1 m;replace B:=M.mono _ _ _ _ _ r.1 B;replace j:=M.mono _ _ _ _ _ r.1 j;replace A:=M.mono _ _ _ _ _ r.1 A;replace a0:=M.mono _ _ _ _ _ r.1 a0;replace V:=V.mono r.1;replace H:=RTE.mono _ _ _ _ r.1 H;have f0:=r.2;replace N:=N.nf;refine go fun a J=>?_;generalize C0:(!(zL step sj (zF (p++[((j_:Nat):Int)]) (up++[e]) c0)).2)=Y0 at J;cases Y0;refine go fun a J=>?_;have L0:(zL step sj (zF (p++[((j_:Nat):Int)]) (up++[e]) c0)).2=true:=by have h_:=C0;revert h_;cases ((zL step sj (zF (p++[((j_:Nat):Int)]) (up++[e]) c0)).2) <;> simp
 rw [L0] at f0 N;replace N:=N.dl [0];refine Z0 _ _ _ (by subst a1;omega) ⟨(w0.1),(j_+1),((zL step sj (zF (p++[((j_:Nat):Int)]) (up++[e]) c0)).1),(w0.2),rfl,J.pk,N,?_⟩;refine ⟨((l).trans g).trans r.1,?_⟩;exact ⟨j4o F.1 W L0,f0⟩;refine yG ?_;replace N:=N.dl [2,1,0];have k0:(zL step sj (zF (p++[((j_:Nat):Int)]) (up++[e]) c0)).2=false:=by have h_:=C0;revert h_;cases ((zL step sj (zF (p++[((j_:Nat):Int)]) (up++[e]) c0)).2) <;> simp
 rw [show zL step s0 (zF p up e)=_ from j4n F.1 W k0];rw [k0] at f0 N;exact ⟨(w0.1,w0.2),rfl,⟨(((((u).trans v).trans t).trans l).trans g).trans r.1,f0⟩,N⟩;refine yG ?_;replace N:=N.dl [1,0];have hr_:zL step s0 (zF p up e)=(sj,true):=by have h_:=F.1;rw [qV Q0] at h_;exact h_
 rw [hr_];exact ⟨(X,zj),rfl,⟨(((u).trans v).trans t).trans l,a0⟩,N⟩;refine yG ?_;replace N:=N.dl [0];have k0:(step s0 (⟨p,up,e⟩)).2=false:=by have h_:=R0;revert h_;cases ((step s0 (⟨p,up,e⟩)).2) <;> simp
 rw [q6l k0];rw [k0] at j N;exact ⟨(u1,t1),rfl,⟨u,j⟩,N⟩
theorem z0k:∀(k:Nat) (e:TE),zA e < k->z7u e
 | 0,_,h=>absurd h (Nat.not_lt_zero _)
 | k+1,e,h=>q6k (fun a b=>z0k k a.body (by have:=kM b;omega)) (fun x c=>z0k k x (by have:=vN c;omega))
theorem j8v (e:TE):z7u e:=z0k _ e (Nat.lt_succ_self _)
section
variable {P:Program} {Φ:Fz} {w:World}
theorem y7m {α σ β:Type} {n gf p:Nat} {E:List (Nat×Value)} {Dd:List Deferred} {a:Act} {g:Operand} {assign body:Code} {Q:Exit->Act->World->Prop} {fs cs:List Value}
  (RA:Fz->List Value->α->Prop) (items:List α) (f:σ->α->σ) (G:Fz->σ->β->Prop) (KV:σ->β->List Res) (s0:σ) (z0:β)
  (J:EnvR n E Dd a) (hG:G Φ s0 z0) (N:Mem Φ (KV s0 z0) w) (y:ev E g=some (.func (.func gf) fs.toArray cs.toArray)) (v:∀args w,(callFunc gf args).run P w=.ok (.enter gf args) w) (A:Nat.blt p n=true)
  (b:∀Ψ Ψ' s z,Ψ.Le Ψ'->G Ψ s z->G Ψ' s z)
  (B:∀Ψ s z c x l i j K' a w,Φ.Le Ψ->x∈items->RA Ψ c x->G Ψ s z->EnvR n ((p,.agg c.toArray)::E) [] a->Mem Ψ (.blk l i::(KV s z++K')) w ->
   assign.wpIn (FO (some l)) 2 P (Exit.then (fun q C=>∃K1,Mem Ψ (.blk l i::K1) C/\∀o,Mem Ψ (.blk l j::K1) o ->
    body.wpIn (FO (some l)) 2 P (fun e _ w=>e=.normal/\∃Ψ' z',Ψ.Le Ψ'/\G Ψ' (f s x) z'/\Mem Ψ' (.blk l j::(KV (f s x) z'++K')) w) q o) (fun _ _ _=>False)) a w)
  (u:Iter P Φ gf fs cs RA items)
  (kn:∀Dk Ψ z a w,Φ.Le Ψ->G Ψ (items.foldl f s0) z->EnvR n E ({ target:=.collected Dk,args:=#[] }::Dd) a->Mem Ψ (.blk Dk (.deferred (some []))::KV (items.foldl f s0) z) w->Q .normal a w):(Code.rangeFunc g #[p] assign body).wp P Q a w:=by
 refine y7n RA items .ret (fun s x=>(f s x,true)) (fun Ψ s _ z=>G Ψ s z) (fun s _ z=>KV s z) s0 z0 J hG N y v A (fun Ψ Ψ' s _ z=>b Ψ Ψ' s z) (fun Ψ s z c x l i j K' a w k d m h r t=>?_) u (fun Dk Ψ z a w k d m h=>?_)
 ·exact B Ψ s z c x l i j K' a w k d m h r t
 ·rw [y6t] at d h ⊢;exact kn Dk Ψ z a w k d m h
theorem oA {α σ β:Type} {n gf p:Nat} {E:List (Nat×Value)} {Dd:List Deferred} {a:Act} {g:Operand} {assign body:Code} {Q:Exit->Act->World->Prop} {fs cs:List Value}
  (RA:Fz->List Value->α->Prop) (items:List α) (j:Jmp) (step:σ->α->σ×Bool) (G:Fz->σ->Bool->β->Prop) (KV:σ->Bool->β->List Res) (s0:σ) (z0:β)
  (J:EnvR n E Dd a) (hG:G Φ s0 true z0) (N:Mem Φ (KV s0 true z0) w) (v:ev E g=some (.func (.func gf) fs.toArray cs.toArray)) (u:∀args w,(callFunc gf args).run P w=.ok (.enter gf args) w) (y:Nat.blt p n=true)
  (d:∀Ψ Ψ' s b z,Ψ.Le Ψ'->G Ψ s b z->G Ψ' s b z)
  (A:∀Ψ s z c x l m o K' a w,Φ.Le Ψ->x∈items->RA Ψ c x->G Ψ s true z->EnvR n ((p,.agg c.toArray)::E) [] a->Mem Ψ (.blk l m::(KV s true z++K')) w ->
   assign.wpIn (FO (some l)) 2 P (Exit.then (fun r B=>∃K1,Mem Ψ (.blk l m::K1) B/\∀q,Mem Ψ (.blk l o::K1) q ->
    body.wpIn (FO (some l)) 2 P (fun e _ w=>z9f j (step s x).2 e/\∃Ψ' z',Ψ.Le Ψ'/\G Ψ' (step s x).1 (step s x).2 z'/\Mem Ψ' (.blk l o::(KV (step s x).1 (step s x).2 z'++K')) w) r q) (fun _ _ _=>False)) a w)
  (t:Iter P Φ gf fs cs RA items)
  (kn:(zL step s0 items).2=true->∀Dk Ψ z a w,Φ.Le Ψ->G Ψ (zL step s0 items).1 true z->EnvR n E ({ target:=.collected Dk,args:=#[] }::Dd) a->Mem Ψ (.blk Dk (.deferred (some []))::KV (zL step s0 items).1 true z) w->Q .normal a w)
  (kj:(zL step s0 items).2=false->∀Dk Ψ z a w,Φ.Le Ψ->G Ψ (zL step s0 items).1 false z->EnvR n E ({ target:=.collected Dk,args:=#[] }::Dd) a->Mem Ψ (.blk Dk (.deferred (some []))::KV (zL step s0 items).1 false z) w->Q j.ex a w):(Code.rangeFunc g #[p] assign body).wp P Q a w:=by
 refine y7n RA items j step G KV s0 z0 J hG N v u y d A t (fun Dk Ψ z a w i f k h=>?_);cases hb:(zL step s0 items).2 with
 | true=>rw [hb] at f h;exact kn hb Dk Ψ z a w i f k h
 | false=>rw [hb] at f h;exact kj hb Dk Ψ z a w i f k h
end
theorem z0o {α:Type}:∀(l:List α) (n:Int),0<=n->n+(l.length:Int)<=9223372036854775807->l.foldl (fun n _=>IntKind.i64.wrap (n+1)) n=n+(l.length:Int)
 | [],n,_,_=>by simp
 | x::l,n,a,h=>by
  rw [lcQ] at h;rw [List.foldl_cons,aM (by omega),z0o l (n+1) (by omega) (by omega),lcQ];omega
mutual
theorem gH:∀(e:TE) (p:List Int) (up:List TE),(zF p up e).length=zA e
 | .mk k nm op num site args arms body,p,up=>by
  rw [zF,lcQ,laQ,below_lenA arms,below_lenS body,zA];omega
theorem below_lenS:∀(l:List TE) (p:List Int) (up:List TE) (i:Int),(belowTs p up i l).length=weightTs l
 | [],_,_,_=>rfl
 | x::xs,p,up,i=>by rw [belowTs,laQ,gH x,below_lenS xs,weightTs]
theorem below_lenA:∀(l:List TA) (p:List Int) (up:List TE) (i:Int),(belowTa p up i l).length=weightTa l
 | [],_,_,_=>rfl
 | .mk _ _ b::xs,p,up,i=>by rw [belowTa,laQ,gH b,below_lenA xs,weightTa]
end
theorem z7i {Φ:Fz} {K:List Res} {w:World} {p:Addr} (N:Mem Φ K w) :
  Calls prog 74 #[.pointer (some p)] w (fun ee w'=>∃q:Fz×Nat,ee=.returned (.func (.func 123) #[] #[.pointer (some ⟨q.2,0,none⟩)])/\(Φ.Le q.1/\At q.1 ⟨q.2,0,none⟩ [.pointer (some p)])/\Mem q.1 K w'):=by
 refine zJ func74 ntmps74 fun Q hQ a J=>?_;refine Bx fun f w N a J=>?_;refine go fun a J=>?_;have b:=N;clear N;obtain ⟨e,d,N,c⟩:=b.freezeBlk (i:=0) rfl;clear b;replace N:=N.nf;refine yG ?_;exact ⟨(e,f),rfl,⟨d,c⟩,N⟩
theorem oJ {Φ:Fz} {b:Nat} {p:Addr} {d:List Value} {e:TE} (hb:At Φ ⟨b,0,none⟩ [.pointer (some p)]) (j:At Φ p d) (re:RTE Φ d e) (q:FitE [] [] e):Iter prog Φ 123 [] [.pointer (some ⟨b,0,none⟩)] RFnd (zF [] [] e):=by
 intro σ β y Ψ step G KV s0 z0 w hl n i N;obtain ⟨m,k,l,g⟩:=n.fn;subst g;replace hb:=hb.mono hl;replace j:=j.mono hl;replace re:=RTE.mono _ _ _ _ hl re;show Calls prog 123 #[.func m k l,.pointer (some ⟨b,0,none⟩)] w _;refine zJ func123 ntmps123 fun Q hQ a J=>?_;refine yE fun a J=>?_;refine yI call124 (fun o w f N a J=>?_) (c:=j8v e ⟨_,_,_,_,rfl,by exact Nat.le_refl 0,by exact Nat.le_refl 0,SliceOf.nil _,SliceOf.nil _,j,re⟩ q n (fun _ h=>h) i N);refine go fun a J=>?_;refine hQ _ _ _ (yN J results123 ?_);exact ⟨_,o.1,o.2,rfl,f.1,f.2,N⟩
def qF (T:Trc):Nat:=(T.funs.map fun f=>zA f.body).sum
def FitP (T:Trc):Prop:=qF T<=20000
theorem q5i {l:List TFn} {i:Nat} {f:TFn} (h:l[i]? = some f):((l.drop i).map fun f=>zA f.body).sum=zA f.body+((l.drop (i+1)).map fun f=>zA f.body).sum:=by rw [yM h];simp
theorem q9x {l:List TFn} {i:Nat} {f:TFn} (h:l[i]? = some f):zA f.body<=(l.map fun f=>zA f.body).sum:=by
 induction l generalizing i with
 | nil=>simp at h
 | cons g l a=>
  cases i with
  | zero=>simp at h;subst h;simp
  | succ i=>have:=a (i:=i) (by simpa using h);simp;omega
theorem FitP.fn {T:Trc} (h:FitP T) {i:Nat} {f:TFn} (a:T.funs[i]? = some f):FitE [] [] f.body:=⟨rfl,by have:=q9x a;simp only [FitP,qF] at h;simp only [lnQ];omega⟩
theorem j7n {Φ:Fz} {K:List Res} {w:World} {tc:List Value} {T:Trc} (H:RTrc Φ tc T) (t:FitP T) (N:Mem Φ K w) :
  Calls prog 35 #[.agg tc.toArray] w (fun ee w'=>ee=.returned (.int .i64 ((qF T:Nat):Int))/\Mem Φ K w'):=by
 have d:=H;obtain ⟨S,c4,U,u,R,v,y,c22,rfl,W,h2,h8,I,x0,C0,D0,a0,h0,b0,F,c0,i0⟩:=RTrc.fm H;refine sX func35 rfl ntmps35 rfl (fun Q hQ a J=>?_);refine Bx fun o w N a J=>?_;refine Alc fun q w N a J=>?_;refine Sto 0 fun w N a J=>?_;refine go fun a J=>?_;refine gV (fun mm a w=>∃(i:Nat) (ds:List Nat) (r:Nat),mm=T.funs.length - i/\EnvR 22 [(1,.pointer (some ⟨o,0,none⟩)),(3,.pointer (some ⟨q,0,none⟩)),(7,.int .i64 T.funs.length),(8,.int .i64 i)] (aQ ds) a/\Mem Φ (.blk q (ob [.int .i64 r] 3)::.blk o (ob [.slice S T.cons.length c4,.slice U T.inputs.length u,.slice R T.funs.length v,.slice y T.outputs.length c22] 26)::yV ds++K) w/\(qF T=r+((T.funs.drop i).map fun f=>zA f.body).sum)) (T.funs.length - 0) ⟨0,[],0,rfl,J.pk,N,(Nat.zero_add _).symm⟩ ?_;clear N J;rintro mm a w ⟨i,ds,r,M,J,N,l⟩ q0 E;by_cases z:i < T.funs.length;refine go fun a J=>?_;obtain ⟨G,rfl,n,m,V,Z,e,g⟩:=I.el F z;obtain ⟨G0,c50,r0,rfl,y0,k,d0,j0⟩:=RTFn.fm g;obtain ⟨H0,s0,I0,t0,J0,u0,rfl,X,Y,z0,A0,B0,e0,k0,f0,l0,g0,m0⟩:=RTE.fm k;refine yI call74 (fun K0 w j N a J=>?_) (c:=z7i N);replace d:=RTrc.mono _ _ _ _ j.1 d;replace e:=e.mono j.1;replace g:=RTFn.mono _ _ _ _ j.1 g;replace k:=RTE.mono _ _ _ _ j.1 k;have x:=j.2;replace N:=N.nf;refine go fun a J=>?_
 refine y7m (p:=17) RFnd (zF [] [] n.body) (fun s _=>IntKind.i64.wrap (s+1)) (fun Ψ_ s z_=>True) (fun s z_=>.blk q (ob [.int .i64 s] 3)::.blk o (ob [.slice S T.cons.length c4,.slice U T.inputs.length u,.slice (some G) T.funs.length v,.slice y T.outputs.length c22] 26)::yV ds++K) ((r:Nat):Int) () J trivial N rfl call123 rfl (fun _ _ _ _ _ _=>trivial) (fun Ψr_ s z_ w0 x_ l_ E0 F0 p0 a w b n0 P D J N=>?_) (oJ x (At.part3 e) k (t.fn m)) (fun Dk Ψr_ L0 a w b D J N=>?_);replace d:=RTrc.mono _ _ _ _ b d;replace e:=e.mono b;replace g:=RTFn.mono _ _ _ _ b g;replace k:=RTE.mono _ _ _ _ b k;replace N:=N.nf;refine pE ?_;refine ⟨_,N,fun w N=>?_⟩;replace N:=N.nf;refine gJ ?_;refine xM ?_
 refine zG J (by intro c h;cases h) (yH 1 J N.toSees rfl rfl rfl isAgg3) rfl fun a J=>
   zG J (by intro c h;cases h) (tW _ J rfl rfl rfl) rfl fun a J=>?_
 refine xF J rfl rfl (by intro c h;cases h) (zQ 1 (cs:=[.int .i64 s]) (vs:=[.int .i64 (IntKind.i64.wrap (s+1))]) J N rfl rfl rfl rfl sizeOf3 rfl rfl rfl fun w N a J=>?_);replace N:=N.nf;refine zZ ?_;exact ⟨rfl,Ψr_,(),(Fz.Le.refl _),trivial,N⟩;replace d:=RTrc.mono _ _ _ _ b d;replace e:=e.mono b;replace g:=RTFn.mono _ _ _ _ b g;replace k:=RTE.mono _ _ _ _ b k;replace N:=(Mem.mid (A:=[.blk Dk (.deferred (some []))]) (B:=[.blk q (ob [.int .i64 ((zF [] [] n.body).foldl (fun s _=>IntKind.i64.wrap (s+1)) ((r:Nat):Int))] 3),.blk o (ob [.slice S T.cons.length c4,.slice U T.inputs.length u,.slice (some G) T.funs.length v,.slice y T.outputs.length c22] 26)]) (C:=yV ds++K) N).nq;replace N:=N.nm;rw [z0o _ _ (by omega) (by rw [gH];have L:=l;rw [q5i m] at L;simp only [FitP] at t;omega),gH,show ((r:Nat):Int)+((zA n.body:Nat):Int)=(((r+zA n.body):Nat):Int) from by omega] at N;replace N:=N.nf;refine go fun a J=>?_;replace N:=N.le ((j.1).trans b);refine E _ _ _ (by subst M;omega) ⟨(i+1),((Dk::ds)),((r+zA n.body)),rfl,J.pk,N,?_⟩;rw [l,q5i m,Nat.add_assoc];refine go fun a J=>?_;replace N:=N.dl [1,0];replace N:=(Mem.mid (A:=[]) (B:=yV ds) (C:=K) N).nq;refine hQ _ _ _ (retX1 (ds:=ds) J results35 rfl N fun w N=>?_);rw [show qF T=r from by rw [l,qV z];rfl];exact ⟨rfl,N⟩
section
variable {P:Program} {F:Fence} {n:Nat} {Q:Exit->Act->World->Prop} {c:Code}
theorem z6i:∀{k:Nat} {a:Act} {w:World},Code.roundsIn F n P c Q k a w->Code.roundsIn F n P c Q (k+1) a w
 | 0,_,_,h=>h.elim
 | k+1,a,w,h=>by
  rw [roundsIn_succ] at h ⊢;exact Code.wpIn_mono (fun e a w q=>by cases e <;> first | exact z6i q | exact q) h
theorem j7a {k m:Nat} {a:Act} {w:World} (h:Code.roundsIn F n P c Q k a w) (b:k<=m):Code.roundsIn F n P c Q m a w:=by
 induction b with
 | refl=>exact h
 | step _ d=>exact z6i d
theorem y9a {a:Act} {w:World} (I:Nat->Act->World->Prop) (d:Nat) (e:I d a w)
  (hb:∀m a w,I m a w->∀L:Act->World->Prop,(∀m' a w,m' < m->I m' a w->L a w)->c.wpIn F n P (Exit.then L Q) a w):(Code.loop c).wpIn F n P Q a w:=by
 have key:∀m a w,I m a w->Code.roundsIn F n P c Q (m+1) a w:=by
  intro m
  induction m using Nat.strongRecOn with
  | _ m g=>
   intro a w f;rw [roundsIn_succ];exact hb m a w f _ fun m' a w b h=>j7a (g m' b a w h) b
 exact wpIn_loop_rounds _ (key d a w e)
end
def dU (l:List (Bs×Bool)):List (Bs×Value):=l.map fun p=>(p.1,.bool p.2)
theorem q0w:∀(l:List (Bs×Bool)) (k:Bs),jR (dU l) k=(zK l k).map (.bool ·)
 | [],_=>rfl
 | (q,x)::l,k=>by
  simp only [dU,List.map_cons,jR,zK];split
  ·rfl
  ·exact q0w l k
theorem y5c (l:List (Bs×Bool)) (k:Bs):yA false (.bool false) (jR (dU l) k)=.bool ((zK l k).getD false):=by rw [q0w];cases zK l k <;> rfl
theorem z8r:∀(l:List (Bs×Bool)) (k:Bs) (x:Bool),z0y (dU l) k (.bool x)=dU (qT l k x)
 | [],_,_=>rfl
 | (q,y)::l,k,x=>by
  simp only [dU,List.map_cons,z0y,qT];split
  ·rfl
  ·rw [List.map_cons];exact congrArg _ (z8r l k x)
structure ROp (Φ:Fz) (p:Addr) (T:Trc):Prop where
 ex:∃cs m,At Φ p (cs++[.map (some m)])/\RTrc Φ cs T/\MapAt Φ m (yB (atM 0 T.funs []))
theorem ROp.mono {Φ Ψ:Fz} {p:Addr} {T:Trc} (h:ROp Φ p T) (hl:Φ.Le Ψ):ROp Ψ p T :=
 let ⟨cs,m,a,b,c⟩:=h.ex;⟨cs,m,a.mono hl,RTrc.mono _ _ _ _ hl b,c.mono hl⟩
def nC (u:List (Bs×Int)):List Atom->List (Bs×Int)
 | []=>u
 | a::l=>nC (if a.name=sNo then u else qT u a.name (IntKind.i64.wrap ((zK u a.name).getD 0+1))) l
abbrev LookS:=List (Bs×Int)×List (Bs×Bool)
def z0c (s:LookS) (x:Fnd):LookS:=(nC s.1 x.x.args,if x.x.kind=7 then qT s.2 (jW x.x 0).name true else s.2)
def dL (f:TFn):LookS:=(zF [] [] f.body).foldl z0c ([],[])
structure RFnO (Φ:Fz) (p:Addr) (T:Trc) (F:TFn):Prop where
 ex:∃pf pp mu ms d,At Φ p [.pointer (some pf),.pointer (some pp),.map (some mu),.map (some ms)]/\At Φ pf d/\RTFn Φ d F/\ROp Φ pp T/\MapAt Φ mu (yB (dL F).1)/\MapAt Φ ms (dU (dL F).2)
theorem RFnO.mono {Φ Ψ:Fz} {p:Addr} {T:Trc} {F:TFn} (h:RFnO Φ p T F) (hl:Φ.Le Ψ):RFnO Ψ p T F :=
 let ⟨pf,pp,mu,ms,d,a,b,c,e,f,g⟩:=h.ex;⟨pf,pp,mu,ms,d,a.mono hl,b.mono hl,RTFn.mono _ _ _ _ hl c,e.mono hl,f.mono hl,g.mono hl⟩
theorem q0m:∀{l:List TFn} {j:Nat} {m:List (Bs×Int)} {f:TFn},atM j (l++[f]) m=qT (atM j l m) f.name ((j+l.length:Nat):Int)
 | [],j,m,f=>rfl
 | g::l,j,m,f=>by
  rw [List.cons_append,atM,atM,q0m,lcQ,show j+1+l.length=j+(l.length+1) from by omega]
theorem j8p {l:List TFn} {i:Nat} {f:TFn} (a:l[i]? = some f):atM 0 (l.take (i+1)) []=qT (atM 0 (l.take i) []) f.name (i:Int):=by
 have hi:i < l.length:=(List.getElem?_eq_some_iff.1 a).1;rw [jJ a,q0m,List.length_take,Nat.min_eq_left (Nat.le_of_lt hi),Nat.zero_add]
theorem q5o {u b:List (Bs×Int)} {l:List Atom} {i:Nat} {a:Atom} (h:nC b l=nC u (l.drop i)) (c:l[i]? = some a):nC b l=nC (if a.name=sNo then u else qT u a.name (IntKind.i64.wrap ((zK u a.name).getD 0+1))) (l.drop (i+1)):=by
 rw [h,yM c,nC]
theorem y7i {u a:List (Bs×Int)} {l:List Atom} {i:Nat} (h:nC a l=nC u (l.drop i)) (hi:¬i < l.length):nC a l=u:=by rw [h,qV hi,nC]
theorem z2s {Φ:Fz} {K:List Res} {w:World} {tc:List Value} {T:Trc} (n:RTrc Φ tc T) (N:Mem Φ K w) :
  Calls prog 26 #[.agg tc.toArray] w (fun ee w'=>∃q:Fz×Nat,ee=.returned (.pointer (some ⟨q.2,0,none⟩))/\(Φ.Le q.1/\ROp q.1 ⟨q.2,0,none⟩ T)/\Mem q.1 K w'):=by
 have b:=n;obtain ⟨p3,c4,p9,d0,p0,e0,q0,c22,rfl,A,h2,h8,s,i0,n0,o0,E,P,F,k,G,S⟩:=RTrc.fm n;refine zJ func26 ntmps26 fun Q hQ a J=>?_;refine Bx fun a0 w N a J=>?_;refine MkM fun p w N a J=>?_;replace N:=N.nf;refine BldT fun a J=>?_;refine Bx fun r w N a J=>?_;refine go fun a J=>?_;refine yO (J.ks [3,11,12]) N (fun R mm a w=>∃(i:Nat),mm=T.funs.length - i/\R Φ [(13,.int .i64 i)] [(1,.mp p (yB (atM 0 (T.funs.take i) [])))] a w/\(True)) (T.funs.length - 0) ⟨0,rfl,⟨J.pk,N⟩,trivial⟩ ?_;clear N J;rintro mm a w ⟨i,u,⟨J,N⟩,y⟩ Z j;replace N:=N.nf;by_cases h:i < T.funs.length;refine go fun a J=>?_;obtain ⟨w0,rfl,v,m,x,D,z,l⟩:=s.el k h;obtain ⟨r0,c50,b0,rfl,j0,t,H,U⟩:=RTFn.fm l;obtain ⟨s0,f0,t0,g0,u0,h0,rfl,B,C,k0,l0,m0,I,V,L,W,M,X⟩:=RTE.fm t;refine Alc fun c0 w N a J=>?_;refine Sto 0 fun w N a J=>?_;refine Reg [1,1,1,2,1,2,1,0] [0,1,2,3] fun w N a J=>?_;refine uU 2 runUnderlying98 runUnderlying9 fun w N a J=>?_;rw [pB (atM 0 (T.funs.take i) []) v.name ((i:Nat):Int)] at N;refine go fun a J=>?_;rw [<- j8p m] at N;replace N:=N.dl [0];refine j _ _ _ (by subst u;omega) ⟨(i+1),rfl,⟨J.pk,N⟩,?_⟩;trivial;refine go fun a J=>?_;rw [<- show atM 0 T.funs []=atM 0 (T.funs.take i) [] from by rw [List.take_of_length_le (Nat.le_of_not_lt h)]] at N;have c:=N;clear N;obtain ⟨Y,g,N,d⟩:=c.freezeBlk (i:=0) rfl;clear c;replace b:=RTrc.mono _ _ _ _ g b;replace N:=N.nf;have c:=N;clear N;obtain ⟨o,e,N,f⟩:=c.freezeMap (i:=0) rfl;clear c;replace b:=RTrc.mono _ _ _ _ e b;replace d:=d.mono e;replace N:=N.dl [0]
 refine yG ?_;exact ⟨(o,r),rfl,⟨(g).trans e,⟨_,_,d,b,f⟩⟩,N⟩
theorem j2e {Φ:Fz} {K:List Res} {w:World} {pa:Addr} {T:Trc} {i0:Nat} {F:TFn} (RO:ROp Φ pa T) (hF:T.funs[i0]? = some F) (L0:FitP T) (b1:∀y∈zF [] [] F.body,y.x.kind=7->0 < y.x.args.length) (N:Mem Φ K w) :
  Calls prog 44 #[.pointer (some pa),.int .i64 i0] w (fun ee w'=>∃q:Fz×Nat,ee=.returned (.pointer (some ⟨q.2,0,none⟩))/\(Φ.Le q.1/\RFnO q.1 ⟨q.2,0,none⟩ T F)/\Mem q.1 K w'):=by
 have k:=RO;obtain ⟨y2,m2,f,r0,c2⟩:=RO.ex;have m:=r0;obtain ⟨p9,R0,q1,S0,r1,c22,s1,U0,rfl,Q1,h8,A2,Y0,B2,U1,d2,V1,e2,W1,O0,X1,f2⟩:=RTrc.fm r0;replace f:At Φ pa [.slice p9 T.cons.length R0,.slice q1 T.inputs.length S0,.slice r1 T.funs.length c22,.slice s1 T.outputs.length U0,.map (some m2)]:=f;have M0:=(List.getElem?_eq_some_iff.1 hF).1;refine sX func44 rfl ntmps44 rfl (fun Q hQ a J=>?_);refine go fun a J=>?_;obtain ⟨g0,rfl,p0,s0,K1,T1,d,g⟩:=Y0.el O0 M0;obtain ⟨K2,c44,t2,rfl,C2,t,Y1,g2⟩:=RTFn.fm g;obtain ⟨L2,u2,M2,v2,N2,w2,rfl,R1,S1,D2,E2,F2,Z1,h2,a2,i2,b2,j2⟩:=RTE.fm t;refine MkM fun G w N a J=>?_;replace N:=N.nf;refine MkM fun H w N a J=>?_;replace N:=N.nf;refine yE fun a J=>?_;refine Bx fun D w N a J=>?_;refine Alc fun V w N a J=>?_;refine Sto 0 fun w N a J=>?_;refine go fun a J=>?_;obtain rfl:p0=F:=Option.some.inj (s0.symm.trans hF);refine yI call74 (fun P2 w v N a J=>?_) (c:=z7i N);replace m:=RTrc.mono _ _ _ _ v.1 m;replace f:=f.mono v.1;replace k:=k.mono v.1;replace d:=d.mono v.1;replace g:=RTFn.mono _ _ _ _ v.1 g;replace t:=RTE.mono _ _ _ _ v.1 t;have B0:=v.2;replace N:=N.nf;refine go fun a J=>?_
 refine y7m (p:=28) RFnd (zF [] [] p0.body) (z0c) (fun Ψ_ s_ z_=>True) (fun s_ z_=>.blk V (ob [.pointer (some ⟨D,0,none⟩)] 102)::.blk D (ob [.pointer (some (g0.add (i0 * 11))),.pointer (some pa),.map (some G),.map (some H)] 101)::.mp H (dU s_.2)::.mp G (yB s_.1)::K) ([],[]) () J trivial N rfl call123 rfl (fun _ _ _ _ _ _=>trivial) (fun Ψr_ s_ z_ x2 I l_ J2 p1 Q0 a w b P0 E0 K0 J N=>?_) (oJ B0 (At.part3 d) t (L0.fn s0)) (fun Dk Ψr_ Q2 a w b K0 J N=>?_);replace m:=RTrc.mono _ _ _ _ b m;replace f:=f.mono b;replace k:=k.mono b;replace d:=d.mono b;replace g:=RTFn.mono _ _ _ _ b g;replace t:=RTE.mono _ _ _ _ b t;replace N:=N.nf;obtain ⟨u1,v1,m0,z2,rfl,O1,P1,d0,e0,q0,U⟩:=id E0;replace d0:SliceOf RInt Ψr_ 1 u1 I.path:=d0;replace e0:SliceOf RPtE Ψr_ 1 v1 I.up:=e0;replace U:RTE Ψr_ _ I.x:=U;obtain ⟨n0,k0,rfl,l1,k2⟩:=d0.fm;obtain ⟨o0,l0,rfl,m1,l2⟩:=e0.fm;have n2:=U;obtain ⟨t1,I0,o2,I1,p2,J1,rfl,c1,d1,J0,L1,M1,i1,c0,j1,n1,k1,o1⟩:=RTE.fm U;refine xM ?_;refine kA J rfl rfl rfl (by intro c h;cases h) (qW (cs:=[ZB,ZB,.pointer none]) N zeroValue90 rfl fun R w N a J=>?_);refine xF J rfl rfl (by intro c h;cases h) (zQ 0 (cs:=[ZB,ZB,.pointer none]) (vs:=[.slice n0 I.path.length k0,.slice o0 I.up.length l0,.pointer (some m0)]) J N rfl rfl rfl rfl sizeOf90 rfl rfl rfl fun w N a J=>?_);replace N:=N.nf;refine zZ ?_;replace N:=N.pl 1;refine ⟨_,N,fun w N=>?_⟩;replace N:=N.nf;refine gJ ?_;refine sqI fun y1 u0=>?_;refine sqI fun z1 w0=>?_;refine xM ?_
 refine zG J (by intro c h;cases h) (qP J rfl z7k rfl) rfl fun a J=>
   zG J (by intro c h;cases h) (yH 1 J N.toSees rfl rfl rfl isAgg88) rfl fun a J=>
   zG J (by intro c h;cases h) (z1r J rfl) rfl fun a J=>
   zG J (by intro c h;cases h) (aG J rfl j1h) rfl fun a J=>
   zG J (by intro c h;cases h) (uT 5 J N.toSees rfl q0 rfl isAgg44) rfl fun a J=>
   zG J (by intro c h;cases h) (aH J rfl runUnderlying44) rfl fun a J=>
   zG J (by intro c h;cases h) (yZ J rfl) rfl fun a J=>?_
 refine zZ ?_;apply w0;refine gJ ?_;refine y9a (fun mm a w=>∃(k_:Nat) (us:List (Bs×Int)),mm=I.x.args.length - k_/\EnvR 70 [(4,.pointer none),(5,.pointer (some ⟨V,0,none⟩)),(6,.pointer (some ⟨R,0,none⟩)),(33,.slice t1 I.x.args.length I0),(34,.int .i64 I.x.args.length),(35,.int .i64 k_)] [] a/\Mem Ψr_ (.blk l_ p1::.blk R (ob [.slice n0 I.path.length k0,.slice o0 I.up.length l0,.pointer (some m0)] 90)::.blk V (ob [.pointer (some ⟨D,0,none⟩)] 102)::.blk D (ob [.pointer (some (g0.add (i0 * 11))),.pointer (some pa),.map (some G),.map (some H)] 101)::.mp H (dU s_.2)::.mp G (yB us)::(K++Q0)) w/\(nC s_.1 I.x.args=nC us (I.x.args.drop k_))) (I.x.args.length - 0) ⟨0,s_.1,rfl,J.pk,N,rfl⟩ ?_;clear N J;rintro mm a w ⟨k_,us,N0,J,N,M⟩ A1 W;refine sqI fun B1 X=>?_;refine xM ?_;by_cases L:k_ < I.x.args.length;refine zG J (by intro c h;cases h) (sK true J rfl rfl (decide_eq_true (Int.ofNat_lt.2 L))) rfl fun a J=>?_;refine zZ ?_;apply X;refine sqI fun C1 x0=>?_;refine mD J rfl ?_;refine pE ?_;apply x0;refine sqI fun D1 Y=>?_;refine gJ ?_;refine sqI fun E1 y0=>?_;refine xM ?_;obtain ⟨q2,rfl,n,f0,V0,g1,z0,C0⟩:=J0.el c0 L;obtain ⟨rfl,e1⟩:=id C0
 refine zG J (by intro c h;cases h) (xT k_ J rfl rfl runUnderlying44 sizeOf75 L) rfl fun a J=>
   zG J (by intro c h;cases h) (tY J N.toSees rfl z0 isAgg75 sizeOf75 rfl) rfl fun a J=>?_
 refine kA J rfl rfl rfl (by intro c h;cases h) (qW (cs:=[.string ⟨#[]⟩,ZA]) N zeroValue75 rfl fun H0 w N a J=>?_);refine xF J rfl rfl (by intro c h;cases h) (zQ 0 (cs:=[.string ⟨#[]⟩,ZA]) (vs:=[.string n.name,.int .i64 (n.num)]) J N rfl rfl rfl rfl sizeOf75 rfl rfl rfl fun w N a J=>?_);replace N:=N.nf;refine zZ ?_;apply y0;refine sqI fun F1 Z=>?_;refine xM ?_
 refine zG J (by intro c h;cases h) (qP J rfl j1j rfl) rfl fun a J=>
   zG J (by intro c h;cases h) (yH 0 J N.toSees rfl rfl rfl isAgg9) rfl fun a J=>?_
 by_cases S:n.name=(⟨#[]⟩:Bs);refine zG J (by intro c h;cases h) (y3o false J rfl rfl (congrArg Bool.not (decide_eq_true S))) rfl fun a J=>?_;refine zZ ?_;apply Z;refine wP J rfl ?_;refine pE ?_;apply Y;refine xM ?_
 refine zG J (by intro c h;cases h) (xJ (i:=k_) (j:=1) J rfl rfl (by omega)) rfl fun a J=>
   zG J (by intro c h;cases h) (yZ J rfl) rfl fun a J=>?_
 refine zZ ?_;replace N:=N.dl [0];refine W _ _ _ (by subst N0;omega) ⟨(k_+1),(us),rfl,J.pk,N,?_⟩;have h_:=q5o M f0;rw [if_pos (show n.name=sNo from S)] at h_;exact h_;refine zG J (by intro c h;cases h) (y3o true J rfl rfl (congrArg Bool.not (decide_eq_false S))) rfl fun a J=>?_;refine zZ ?_;apply Z;refine mD J rfl ?_;refine pS [2,1,1,2,1,2,2,1,0] (.q 0 (.q 1 (.q 2 (.q 3 (.q 4 (.q 5 (.q 6 (.q 7 (.e 8 (.done)))))))))) [.blk H0 (ob [.string n.name,.int .i64 (n.num)] 75),.blk R (ob [.slice n0 I.path.length k0,.slice o0 I.up.length l0,.pointer (some m0)] 90),.blk V (ob [.pointer (some ⟨D,0,none⟩)] 102),.blk D (ob [.pointer (some (g0.add (i0 * 11))),.pointer (some pa),.map (some G),.map (some H)] 101),.mp H (dU s_.2),.mp G (yB us)] J N mixed (by kernel_rfl) (by simp) (by kernel_rfl) fun w N=>?_;refine Qq (fun a J=>?_) (o:=by exact fun J O=>Ok.cast (qB 5 runUnderlying98 runUnderlying9 zeroValue3 J O rfl rfl rfl) (vX us n.name));refine Qq (fun a J=>?_) (o:=by exact fun J O=>tW _ J rfl rfl rfl);refine uU 6 runUnderlying98 runUnderlying9 fun w N a J=>?_;rw [pB us n.name (IntKind.i64.wrap (((zK us n.name).getD 0)+1))] at N;refine go fun a J=>?_;apply Y;refine xM ?_
 refine zG J (by intro c h;cases h) (xJ (i:=k_) (j:=1) J rfl rfl (by omega)) rfl fun a J=>
   zG J (by intro c h;cases h) (yZ J rfl) rfl fun a J=>?_
 refine zZ ?_;replace N:=N.dl [0];refine W _ _ _ (by subst N0;omega) ⟨(k_+1),((qT us n.name (IntKind.i64.wrap (((zK us n.name).getD 0)+1)))),rfl,J.pk,N,?_⟩;have h_:=q5o M f0;rw [if_neg (show ¬n.name=sNo from S)] at h_;exact h_;refine zG J (by intro c h;cases h) (sK false J rfl rfl (decide_eq_false (fun hh=>L (Int.ofNat_lt.1 hh)))) rfl fun a J=>?_;refine zZ ?_;apply X;refine sqI fun G1 Z0=>?_;refine wP J rfl ?_;refine z9g ?_;apply u0;refine sqI fun H1 a0=>?_;refine xM ?_
 refine zG J (by intro c h;cases h) (qP J rfl z7k rfl) rfl fun a J=>
   zG J (by intro c h;cases h) (yH 1 J N.toSees rfl rfl rfl isAgg88) rfl fun a J=>
   zG J (by intro c h;cases h) (z1r J rfl) rfl fun a J=>
   zG J (by intro c h;cases h) (aG J rfl j1g) rfl fun a J=>
   zG J (by intro c h;cases h) (uT 0 J N.toSees rfl q0 rfl isAgg3) rfl fun a J=>?_
 by_cases P:I.x.kind=7;refine zG J (by intro c h;cases h) (qL true J rfl rfl (decide_eq_true P)) rfl fun a J=>?_;refine zZ ?_;apply a0;refine mD J rfl ?_;refine pS [2,1,1,2,1,2,1,1,2,1,1,2,0] (.q 0 (.q 1 (.q 2 (.q 3 (.q 4 (.q 5 (.q 6 (.q 7 (.q 8 (.q 9 (.q 10 (.q 11 (.e 12 (.done)))))))))))))) [.blk R (ob [.slice n0 I.path.length k0,.slice o0 I.up.length l0,.pointer (some m0)] 90),.blk V (ob [.pointer (some ⟨D,0,none⟩)] 102),.blk D (ob [.pointer (some (g0.add (i0 * 11))),.pointer (some pa),.map (some G),.map (some H)] 101),.mp H (dU s_.2),.mp G (yB us)] J N mixed (by kernel_rfl) (by simp) (by kernel_rfl) fun w N=>?_;refine go fun a J=>?_;have A0:0 < I.x.args.length:=b1 _ P0 P;obtain ⟨r2,rfl,t0,F0,X0,h1,a1,D0⟩:=J0.el c0 A0;obtain ⟨rfl,f1⟩:=id D0;refine uU 4 runUnderlying99 runUnderlying9 fun w N a J=>?_;rw [z8r s_.2 t0.name true] at N;refine go fun a J=>?_;replace N:=N.dl [1];refine ⟨rfl,Ψr_,(),(Fz.Le.refl _),trivial,?_⟩;simp only [z0c];rw [y7i M L,if_pos P,show (jW I.x 0).name=t0.name from by rw [jW,F0];rfl];exact N;refine zG J (by intro c h;cases h) (qL false J rfl rfl (decide_eq_false P)) rfl fun a J=>?_;refine zZ ?_;apply a0;refine wP J rfl ?_;refine pE ?_;replace N:=N.dl [1];refine ⟨rfl,Ψr_,(),(Fz.Le.refl _),trivial,?_⟩;simp only [z0c];rw [y7i M L,if_neg P];exact N;replace m:=RTrc.mono _ _ _ _ b m;replace f:=f.mono b;replace k:=k.mono b;replace d:=d.mono b;replace g:=RTFn.mono _ _ _ _ b g;replace t:=RTE.mono _ _ _ _ b t
 replace N:=(Mem.mid (A:=[.blk Dk (.deferred (some []))]) (B:=[.blk V (ob [.pointer (some ⟨D,0,none⟩)] 102),.blk D (ob [.pointer (some (g0.add (i0 * 11))),.pointer (some pa),.map (some G),.map (some H)] 101),.mp H (dU ((dL p0).2)),.mp G (yB ((dL p0).1))]) (C:=yV []++K) N).nq;refine go fun a J=>?_;have z:=N;clear N;obtain ⟨w1,s,N,u⟩:=z.freezeBlk (i:=1) rfl;clear z;replace m:=RTrc.mono _ _ _ _ s m;replace f:=f.mono s;replace k:=k.mono s;replace d:=d.mono s;replace g:=RTFn.mono _ _ _ _ s g;replace t:=RTE.mono _ _ _ _ s t;replace N:=N.nf;have z:=N;clear N;obtain ⟨x1,r,N,E⟩:=z.freezeMap (i:=2) rfl;clear z;replace m:=RTrc.mono _ _ _ _ r m;replace f:=f.mono r;replace k:=k.mono r;replace d:=d.mono r;replace g:=RTFn.mono _ _ _ _ r g;replace t:=RTE.mono _ _ _ _ r t;replace u:=u.mono r;replace N:=N.nf;have z:=N;clear N;obtain ⟨G0,l,N,b0⟩:=z.freezeMap (i:=1) rfl;clear z;replace m:=RTrc.mono _ _ _ _ l m;replace f:=f.mono l;replace k:=k.mono l;replace d:=d.mono l;replace g:=RTFn.mono _ _ _ _ l g;replace t:=RTE.mono _ _ _ _ l t;replace u:=u.mono l;replace E:=E.mono l;replace N:=N.dl [0];replace N:=(Mem.mid (A:=[]) (B:=yV (Dk::[])) (C:=K) N).nq;refine hQ _ _ _ (retX1 (ds:=(Dk::[])) J results44 rfl N fun w N=>?_);exact ⟨(G0,D),rfl,⟨((((v.1).trans b).trans s).trans r).trans l,⟨_,_,_,_,_,u,d,g,k,E,b0⟩⟩,N⟩
theorem Chunks.at {α:Type} {R:List Value->α->Prop} {k:Nat}:∀{l:List α} {cs:List Value} {i:Nat} {x:α},Chunks R k cs l->l[i]? = some x->R ((cs.drop (i * k)).take k) x/\((cs.drop (i * k)).take k).length=k
 | [],_,_,_,_,a=>by simp at a
 | y::ys,cs,0,x,⟨c,rest,b,d,e,f⟩,a=>by
  simp only [List.getElem?_cons_zero,Option.some.injEq] at a;subst a;subst b;rw [Nat.zero_mul,List.drop_zero,<- d,List.take_left];exact ⟨e,rfl⟩
 | y::ys,cs,i+1,x,⟨c,rest,b,d,e,f⟩,a=>by
  simp only [List.getElem?_cons_succ] at a;have:=Chunks.at f a;rw [b,show (i+1) * k=c.length+i * k from by rw [d,Nat.succ_mul,Nat.add_comm],List.drop_append,List.drop_of_length_le (by omega),List.nil_append,Nat.add_sub_cancel_left];exact this
theorem Chunks.put {α:Type} {R:List Value->α->Prop} {k:Nat} {c':List Value} {x':α} (hc':c'.length=k) (hx':R c' x'):∀{l:List α} {cs:List Value} {i:Nat},Chunks R k cs l->i < l.length->Chunks R k (cs.take (i * k)++(c'++cs.drop (i * k+k))) (l.set i x')
 | [],_,_,_,hi=>absurd hi (Nat.not_lt_zero _)
 | y::ys,cs,0,⟨c,rest,b,a,e,d⟩,_=>by
  subst b;refine ⟨c',rest,?_,hc',hx',d⟩;rw [Nat.zero_mul,List.take_zero,List.nil_append,Nat.zero_add,<- a,List.drop_left]
 | y::ys,cs,i+1,⟨c,rest,b,a,e,d⟩,hi=>by
  subst b;refine ⟨c,rest.take (i * k)++(c'++rest.drop (i * k+k)),?_,a,e,Chunks.put hc' hx' d (by simpa using hi)⟩;rw [show (i+1) * k=c.length+i * k from by rw [a,Nat.succ_mul,Nat.add_comm],List.take_append,List.append_assoc,Nat.add_assoc,List.drop_append,List.take_of_length_le (by omega),Nat.add_sub_cancel_left,List.drop_of_length_le (by omega),List.nil_append,Nat.add_sub_cancel_left]
theorem q9o {cs vs:List Value} {a o k:Nat} (c:a+k<=cs.length) (d:o+vs.length<=k):jP cs (a+o) vs=cs.take a++(jP ((cs.drop a).take k) o vs++cs.drop (a+k)):=by
 rw [xN,xN];rw [List.take_add,List.append_assoc,List.append_assoc,List.append_assoc]
 congr 1
 rw [List.take_take,Nat.min_eq_left (by omega)]
 congr 2
 rw [List.drop_take];have b:cs.drop (a+o+vs.length)=(cs.drop a).drop (o+vs.length):=by rw [List.drop_drop];congr 1;omega
 rw [b,show cs.drop (a+k)=((cs.drop a).drop (o+vs.length)).drop (k - (o+vs.length)) from by rw [List.drop_drop,List.drop_drop];congr 1;omega,List.take_append_drop]
section
variable {P:Program} {n:Nat} {E:List (Nat×Value)} {D:List Deferred} {a:Act} {Φ Ψ:Fz} {K:List Res} {w:World}
variable {Kn:Value->World->Prop} {Qp:List PanicEntry->World->Prop} {dst:Option Tmp} {ty:TypeId} {pos:String} {aft:Array Edge} {g:Option (Nat×Bool)}
theorem Sees.gsLen {α:Type} {R:List Value->α->Prop} {i k:Nat} {v:Value} {T:TypeId} {cs:List Value} {l:List α} (N:Sees Φ K w) (o:yU K i=some (.gs v T k cs)) (j:Chunks R k cs l) (e:0 < k):∃p c,v=.slice p l.length c/\l.length<=9223372036854775807/\(l≠[]->∃q,p=some q):=by
 obtain ⟨m,a⟩:=N.own _ (yR o);have hl:=j.length;have f:m=l.length:=Nat.eq_of_mul_eq_mul_right e (by rw [<- a.1,hl]);subst f;rcases a.2 with ⟨rfl,g⟩ | ⟨b,cap,cur,rfl,_,_,n,d,_⟩
 ·refine ⟨none,0,by rw [g],by omega,fun h=>?_⟩
  exact absurd (List.eq_nil_of_length_eq_zero g) h
 ·refine ⟨_,_,rfl,?_,fun _=>⟨_,rfl⟩⟩
  simp only [maxLen] at d;omega
theorem Sees.rowCell {i k m c:Nat} {q:Addr} {T:TypeId} {cs:List Value} (N:Sees Φ K w) (a:yU K i=some (.gs (.slice (some q) m c) T k cs)):q.spot=none/\∀j v,cs[j]? = some v->w.cell? (q.add j)=some v:=by
 have hq:q.spot=none:=by
  obtain ⟨_,_,d⟩:=N.own _ (yR a);rcases d with ⟨h,_⟩ | ⟨b,_,_,h,_⟩
  ·cases h
  ·cases h;rfl
 refine ⟨hq,fun j v f=>?_⟩;rcases N.rowIn a with ⟨h,_⟩ | ⟨q',m',c',h,_,e⟩
 ·cases h
 ·cases h;exact e _ _ f
theorem mK (i j o:Nat) {x:Operand} {T T0:TypeId} {q:Addr} {m c k t:Nat} {cs cx vs:List Value} (J:EnvR n E D a) (N:Sees Φ K w)
  (u:ev E x=some (.pointer (some ((q.add (j * k)).add o)))) (s:yU K i=some (.gs (.slice (some q) m c) T0 k cs)) (r:(cs.drop (j * k)).take k=cx) (p:AggT P T) (l:SizeT P T t) (h:z0d (z0b cx o) t=vs) (hl:vs.length=t) :
  Ok P a (.load T x) ty w (.agg vs.toArray):=fun _ _ _ _=>by
 obtain ⟨hq,b⟩:=N.rowCell s;have g:(q.add (j * k)).spot=none:=by unfold Addr.add;split <;> simp [hq]
 have e:∀i v,vs[i]? = some v->w.cell? (((q.add (j * k)).add o).add i)=some v:=fun i v hi=>by
  rw [tH,tC] at h;have f:i < t:=by rw [<- hl];exact (List.getElem?_eq_some_iff.1 hi).1
  rw [<- h,List.getElem?_take_of_lt f,List.getElem?_drop] at hi;rw [add_add _ o i g,add_add _ _ _ hq];refine b _ v ?_;rw [<- r] at hi
  have d:o+i < k:=by
   have:=(List.getElem?_eq_some_iff.1 hi).1;rw [List.length_take] at this;omega
  rw [List.getElem?_take_of_lt d,List.getElem?_drop] at hi;exact hi
 have d:=run_loadCells_list (P:=P) (w:=w) _ vs e;rw [hl] at d;simp only [execOp,J.ev u]
 simp [Instr.loadAt,Instr.sureAddr,loadVar,Sem.run_bind,p w,l w,Result.andThen,d]
theorem z4d (i j:Nat) {x:Operand} {T T0:TypeId} {q:Addr} {m c k:Nat} {cs cx:List Value} (J:EnvR n E D a) (N:Sees Φ K w)
  (o:ev E x=some (.pointer (some (q.add (j * k))))) (l:yU K i=some (.gs (.slice (some q) m c) T0 k cs)) (h:(cs.drop (j * k)).take k=cx) (g:AggT P T) (f:SizeT P T k) (hl:cx.length=k) :
  Ok P a (.load T x) ty w (.agg cx.toArray):=fun _ _ _ _=>by
 obtain ⟨hq,b⟩:=N.rowCell l
 have e:∀i v,cx[i]? = some v->w.cell? ((q.add (j * k)).add i)=some v:=fun i v hi=>by
  rw [add_add _ _ _ hq];refine b _ v ?_;have d:i < k:=by rw [<- hl];exact (List.getElem?_eq_some_iff.1 hi).1
  rw [<- h,List.getElem?_take_of_lt d,List.getElem?_drop] at hi;exact hi
 have d:=run_loadCells_list (P:=P) (w:=w) _ cx e;rw [hl] at d;simp only [execOp,J.ev o]
 simp [Instr.loadAt,Instr.sureAddr,loadVar,Sem.run_bind,g w,f w,Result.andThen,d]
theorem z6t (i j o:Nat) {x:Operand} {T T0:TypeId} {q:Addr} {m c k:Nat} {cs cx:List Value} {v:Value} (J:EnvR n E D a) (N:Sees Φ K w)
  (p:ev E x=some (.pointer (some ((q.add (j * k)).add o)))) (l:yU K i=some (.gs (.slice (some q) m c) T0 k cs)) (h:(cs.drop (j * k)).take k=cx) (g:Scalar P T) (d:cx[o]? = some v) :
  Ok P a (.load T x) ty w v:=fun _ _ _ _=>by
 obtain ⟨hq,b⟩:=N.rowCell l
 have e:w.cell? ((q.add (j * k)).add o)=some v:=by
  rw [add_add _ _ _ hq];refine b _ v ?_;rw [<- h] at d
  have f:o < k:=by
   have:=(List.getElem?_eq_some_iff.1 d).1;rw [List.length_take] at this;omega
  rw [List.getElem?_take_of_lt f,List.getElem?_drop] at d;exact d
 simp only [execOp,J.ev p]
 simp [Instr.loadAt,Instr.sureAddr,loadVar,Sem.run_bind,g w,Result.andThen,load,Sem.run,e]
theorem jA {α:Type} {R:List Value->α->Prop} (i j o:Nat) {x y:Operand} {T T0:TypeId} {pt:Addr} {q:Addr} {m c k t:Nat} {val:Value} {cs vs:List Value} {l:List α} {u u':α} (J:EnvR n E D a) (N:Mem Φ K w)
  (hx:ev E x=some (.pointer (some pt))) (r:pt=⟨q.block,q.off+(j * k+o),none⟩) (hy:ev E y=some val) (X:yU K i=some (.gs (.slice (some q) m c) T0 k cs)) (B:Chunks R k cs l) (Z:l[j]? = some u)
  (C:val.cells.toList=vs) (hS:SizeT P T t) (hl:vs.length=t) (h1:vs.all Value.oneCell'=true) (ho:o+t<=k) (hR:∀cx,cx.length=k->R cx u->R (jP cx o vs) u')
  (kk:∀cs' w',Chunks R k cs' (l.set j u')->Mem Φ (wA K i (.gs (.slice (some q) m c) T0 k cs')) w'->Kn undef w'):Oper.eff P ⟨dst,.store T x y,ty,pos,aft,g⟩ a w Kn Qp:=by
 have H:=B.length;have W:j < l.length:=(List.getElem?_eq_some_iff.1 Z).1;have M:j * k+k<=cs.length:=by rw [H,<- Nat.succ_mul];exact Nat.mul_le_mul_right _ W
 obtain ⟨n0,p,h⟩:=N.own _ (yR X);rcases h with ⟨h,_⟩ | ⟨b,cap,cur,h,G,hb,Q,I,L,A⟩
 ·cases h
 ·cases h
  have V:cs.length<=cur.size:=by
   have h3:=congrArg List.length A;rw [List.length_take,Array.length_toList] at h3;omega
  have e0:m * k=cs.length:=by rw [<- p]
  have Y:=run_storeCells_at P b (j * k+o) T0 vs 0 cur w hb (by rw [hl];omega) (fun v C=>List.all_eq_true.1 h1 v C);simp only [Nat.zero_add] at r;have U:val.cells.size=t:=by rw [<- Array.length_toList,C,hl]
  unfold Oper.eff
  have s:(execOp a.eval ⟨dst,.store T x y,ty,pos,aft,g⟩).run P w=.ok .skip (w.setRow b (jP cur.toList (j * k+o) vs).toArray):=by
   simp only [execOp,J.ev hx,J.ev hy,r];simp only [Nat.add_zero] at Y
   simp [Instr.storeAt,Instr.sureAddr,storeVar,Sem.run_bind,hS w,U,C,Y,xN]
  rw [s];obtain ⟨F,d⟩:=B.at Z;have f:=Chunks.put (c':=jP ((cs.drop (j * k)).take k) o vs) (by rw [xN,laQ,laQ,List.length_take,List.length_drop,d];omega) (hR _ d F) B W;rw [<- q9o M (by rw [hl];exact ho)] at f;refine kk _ _ f (N.upd X rfl rfl (fun x B S=>setRow_other w b x _ (fun e=>S (by simp [Res.foot,Value.ownBlock,e]))) ?_ (.inl rfl));have z:(jP cs (j * k+o) vs).length=cs.length:=by rw [xN];simp only [laQ,List.length_take,List.length_drop];omega
  refine ⟨m,by rw [z];exact p,.inr ⟨b,c,(jP cur.toList (j * k+o) vs).toArray,rfl,G,setRow_heap w b _ _ T0 _ hb,Q,I,?_,?_⟩⟩
  ·rw [<- L,xN,List.size_toArray]
   simp only [laQ,List.length_take,List.length_drop,Array.length_toList];omega
  ·rw [List.toList_toArray,<- A,xN,xN]
   rw [List.take_append,List.take_append,List.take_take,List.length_take,Array.length_toList,List.drop_take];rw [List.take_of_length_le (by omega:vs.length<=_)]
   congr 1
   ·rw [List.take_take];congr 1;omega
   ·congr 2;omega
end
theorem z7q {c d:List Value} (h:c.length=d.length):jP c 0 d=d:=by rw [xN,List.take_zero,List.nil_append,Nat.zero_add,List.drop_of_length_le (by omega),List.append_nil]
theorem RTE.len {Φ:Fz} {c:List Value} {x:TE} (h:RTE Φ c x):c.length=8:=by obtain ⟨s,t,u,rfl,_⟩:=RTE.iff.1 h;rfl
theorem rte_all {Φ:Fz} {c d:List Value} {x:TE} (a:c.length=8) (h:RTE Φ d x):RTE Φ (jP c 0 d) x:=by rw [z7q (by rw [a,h.len])];exact h
theorem y2f {Φ:Fz} {c:List Value} {x:TA} {v:Value} (h:RTA Φ c x) (O:SliceOf RStr Φ 1 v x.vars):RTA Φ (jP c 1 [v]) x:=by
 obtain ⟨s,b,rfl,d,a⟩:=RTA.iff.1 h;exact RTA.iff.2 ⟨v,b,rfl,O,a⟩
theorem z3m {Φ:Fz} {c d:List Value} {x:TA} {e:TE} (h:RTA Φ c x) (a:RTE Φ d e):RTA Φ (jP c 2 d) (.mk x.con x.vars e):=by
 obtain ⟨s,b,rfl,f,g⟩:=RTA.iff.1 h;refine RTA.iff.2 ⟨s,d,?_,f,a⟩;rw [xN,Nat.add_comm 2 d.length];show [Value.string x.con,s]++(d++b.drop d.length)=_;rw [List.drop_of_length_le (by rw [g.len,a.len];exact Nat.le_refl _),List.append_nil];rfl
theorem q4p {Φ:Fz} {c d:List Value} {x:TFn} {e:TE} (h:RTFn Φ c x) (a:RTE Φ d e):RTFn Φ (jP c 3 d) { x with body:=e }:=by
 obtain ⟨s,b,rfl,f,g⟩:=h;refine ⟨s,d,?_,f,a⟩;rw [xN,Nat.add_comm 3 d.length];show [Value.string x.name,.bool x.chg,s]++(d++b.drop d.length)=_;rw [List.drop_of_length_le (by rw [g.len,a.len];exact Nat.le_refl _),List.append_nil];rfl
theorem vO {α:Type} {f:α->α} {l:List α} {i:Nat} {x:α} (a:l[i]? = some x):((l.take i).map f++l.drop i)[i]? = some x:=by
 have hi:i < l.length:=(List.getElem?_eq_some_iff.1 a).1;rw [List.getElem?_append_right (by simp;omega)];simp only [List.length_map,List.length_take,Nat.min_eq_left (Nat.le_of_lt hi),Nat.sub_self];rw [List.getElem?_drop,Nat.add_zero];exact a
theorem z2y {α:Type} {f:α->α} {l:List α} {i:Nat} {x:α} (a:l[i]? = some x):((l.take i).map f++l.drop i).set i (f x)=(l.take (i+1)).map f++l.drop (i+1):=by
 have hi:i < l.length:=(List.getElem?_eq_some_iff.1 a).1;rw [List.set_append_right _ _ (by simp;omega)];simp only [List.length_map,List.length_take,Nat.min_eq_left (Nat.le_of_lt hi),Nat.sub_self];rw [yM a,List.set_cons_zero,jJ a,List.map_append,List.append_assoc];rfl
theorem q2u {α:Type} {f:α->α} {l:List α} {i:Nat} {x:α} (a:l[i]? = some x) (h:f x=x):(l.take i).map f++l.drop i=(l.take (i+1)).map f++l.drop (i+1):=by
 rw [yM a,jJ a,List.map_append,List.append_assoc];simp [h]
theorem y9b {α:Type} {f:α->α} {l:List α} {i:Nat} (h:¬i < l.length):(l.take i).map f++l.drop i=l.map f:=by
 rw [List.take_of_length_le (by omega),List.drop_of_length_le (by omega),List.append_nil]
def vA (l:Atoms):List (Bs×Value):=l.map fun p=>(p.1,.agg #[.string p.2.name,.int .i64 p.2.num])
theorem z8a:∀(l:Atoms) (k:Bs),jR (vA l) k=(zK l k).map fun a=>.agg #[.string a.name,.int .i64 a.num]
 | [],_=>rfl
 | (q,x)::l,k=>by
  simp only [vA,List.map_cons,jR,zK];split
  ·rfl
  ·exact z8a l k
theorem wR:∀(l:Atoms) (k:Bs) (x:Atom),z0y (vA l) k (.agg #[.string x.name,.int .i64 x.num])=vA (qT l k x)
 | [],_,_=>rfl
 | (q,y)::l,k,x=>by
  simp only [vA,List.map_cons,z0y,qT];split
  ·rfl
  ·rw [List.map_cons];exact congrArg _ (wR l k x)
theorem y4v {l:Atoms} {k:Bs} {v:Value} (h:jR (vA l) k=some v):∃y,zK l k=some y/\v=.agg #[.string y.name,.int .i64 y.num]:=by
 rw [z8a] at h;cases hq:zK l k with
 | none=>rw [hq] at h;cases h
 | some y=>rw [hq] at h;exact ⟨y,rfl,(Option.some.inj h).symm⟩
theorem y4u {l:Atoms} {k:Bs} (h:jR (vA l) k=none):zK l k=none:=by
 rw [z8a] at h;cases hq:zK l k with
 | none=>rfl
 | some y=>rw [hq] at h;cases h
def MV (Φ:Fz) (v:Value) (m:Atoms):Prop:=(v=.map none/\m=[])∨∃b,v=.map (some b)/\MapAt Φ b (vA m)
theorem MV.mono {Φ Ψ:Fz} {v:Value} {m:Atoms} (h:MV Φ v m) (hl:Φ.Le Ψ):MV Ψ v m:=by
 rcases h with h | ⟨b,a,c⟩
 ·exact .inl h
 ·exact .inr ⟨b,a,c.mono hl⟩
theorem MV.one {Φ:Fz} {v:Value} {m:Atoms} (h:MV Φ v m):v.oneCell'=true/\v.cells.toList=[v]:=by
 rcases h with ⟨rfl,_⟩ | ⟨b,rfl,_⟩ <;> exact ⟨rfl,rfl⟩
section
variable {P:Program} {n:Nat} {E:List (Nat×Value)} {D:List Deferred} {a:Act} {Φ Ψ:Fz} {K:List Res} {w:World} {ty:TypeId}
variable {Kn:Value->World->Prop} {Qp:List PanicEntry->World->Prop} {dst:Option Tmp} {pos:String} {aft:Array Edge} {g:Option (Nat×Bool)}
theorem z6u {t kt et:TypeId} {x y:Operand} {v z:Value} {m:Atoms} {s:Bs} {ok:Bool} (d:Under P t (.map kt et)) (c:Under P kt .string) (g:ZeroT P et z)
  (J:EnvR n E D a) (N:Sees Φ K w) (e:ev E x=some v) (f:ev E y=some (.string s)) (h:MV Φ v m):Ok P a (.lookup t x y ok) ty w (yA ok z (jR (vA m) s)):=by
 rcases h with ⟨rfl,rfl⟩ | ⟨b,rfl,h⟩
 ·exact y9y d c g J e f
 ·exact yS d c g J N e f h
end
theorem tP {q:Addr} {x:Nat} (h:q.spot=none):q.add x=⟨q.block,q.off+(x+0),none⟩:=by
 cases q with
 | mk b f s=>
  simp only at h;subst h;unfold Addr.add;split
  ·subst_vars;rfl
  ·rfl
theorem pM {q:Addr} {x o:Nat} (h:q.spot=none):(q.add x).add o=⟨q.block,q.off+(x+o),none⟩:=by
 rw [add_add _ _ _ h];have:=tP (q:=q) (x:=x+o) h
 simpa using this
theorem y2o {α:Type} {l:List α} {i:Nat} {x:α} (h:l[i]? = some x):l.set i x=l:=by
 obtain ⟨hi,a⟩:=List.getElem?_eq_some_iff.1 h;rw [<- a];exact List.set_getElem_self hi
def cY (m:Atoms) (a:TA):TA:=.mk a.con a.vars (zR m a.body)
theorem y3f (m:Atoms):∀l:List TA,withTa m l=l.map (cY m)
 | []=>rfl
 | .mk c vs b::l=>by rw [withTa,y3f m l];rfl
theorem y3h (m:Atoms):∀l:List TE,withTs m l=l.map (zR m)
 | []=>rfl
 | x::l=>by rw [withTs,y3h m l];rfl
theorem y3e (m:Atoms) (e:TE):zR m e=.mk e.kind e.name e.op e.num e.site (e.args.map (pL m)) (e.arms.map (cY m)) (e.body.map (zR m)):=by
 cases e with
 | mk k nm op num site args arms body=>rw [zR,y3f,y3h];rfl
theorem y6l {m:Atoms} {a:Atom} (h:zK m a.name=none):pL m a=a:=by rw [pL,h];split <;> rfl
theorem j2q {m:Atoms} {a:Atom} (h:a.name=sNo):pL m a=a:=if_pos h
theorem x3h {m:Atoms} {a y:Atom} (h:¬a.name=sNo) (b:zK m a.name=some y):pL m a=y:=by rw [pL,if_neg h,b];rfl
mutual
def smT:TE->Prop
 | .mk _ _ _ _ _ args arms body=>args.length<=1000/\arms.length<=20000/\body.length<=20000/\smTa arms/\smTs body
def smTs:List TE->Prop
 | []=>True
 | x::xs=>smT x/\smTs xs
def smTa:List TA->Prop
 | []=>True
 | .mk _ vs b::xs=>vs.length<=1000/\smT b/\smTa xs
end
theorem y2r:∀{l:List TE} {x:TE},smTs l->x∈l->smT x
 | y::l,x,h,a=>by
  rcases List.mem_cons.1 a with rfl | a
  ·exact h.1
  ·exact y2r h.2 a
theorem aE:∀{l:List TA} {x:TA},smTa l->x∈l->x.vars.length<=1000/\smT x.body
 | .mk c vs b::l,x,h,a=>by
  rcases List.mem_cons.1 a with rfl | a
  ·exact ⟨h.1,h.2.1⟩
  ·exact aE h.2.2 a
theorem z1h (e:TE):smT e↔e.args.length<=1000/\e.arms.length<=20000/\e.body.length<=20000/\smTa e.arms/\smTs e.body:=by cases e;exact Iff.rfl
theorem j4d {y z:Atom} (h:Value.agg #[.string y.name,.int .i64 y.num]=.agg #[.string z.name,.int .i64 z.num]):y=z:=by
 injection h with h
 have c:=congrArg Array.toList h;simp only [List.cons.injEq,and_true] at c;obtain ⟨a,b⟩:=c
 injection a with a;injection b with _ b
 cases y;cases z;simp only at a b;rw [a,b]
structure AllSeen (es:Array MapEntry) (seen:Array Nat) (m:Atoms) (P:Bs×Atom->Prop):Prop where
 all:∀e∈es.toList,e.born∈seen->∀p∈m,e.key=.string p.1->e.val=.agg #[.string p.2.name,.int .i64 p.2.num]->P p
theorem AllSeen.start {es:Array MapEntry} {m:Atoms} {P:Bs×Atom->Prop}:AllSeen es #[] m P:=⟨fun e _ h=>by simp at h⟩
theorem AllSeen.next {es:Array MapEntry} {seen:Array Nat} {clock:Nat} {m:Atoms} {P:Bs×Atom->Prop} {e:MapEntry} {s:Bs} {y:Atom} (h:AllSeen es seen m P) (b:MapOk es clock (vA m)) (J:e∈wQ es seen) (k:e.key=.string s) (n:e.val=.agg #[.string y.name,.int .i64 y.num]) (l:P (s,y)):AllSeen es (seen.push e.born) m P:=by
 refine ⟨fun x i hb p d a c=>?_⟩;rw [Array.mem_push] at hb;rcases hb with hb | hb
 ·exact h.all x i hb p d a c
 ·have:x=e:=by
   have g:=find_born x es.toList b.nodup i;have j:=find_born e es.toList b.nodup (leftE_mem.1 J).1;rw [hb,j] at g;exact (Option.some.inj g).symm
  subst this;have f:s=p.1:=by have:=k.symm.trans a;cases this;rfl
  have e2:y=p.2:=by
   exact j4d (n.symm.trans c)
  rw [show p=(s,y) from by cases p;simp only at f e2;rw [f,e2]];exact l
theorem j8b {l:Atoms} {k:Bs} {v:Value} (h:(k,v)∈vA l):∃y,v=.agg #[.string y.name,.int .i64 y.num]/\(k,y)∈l:=by
 obtain ⟨p,a,J⟩:=List.mem_map.1 h;cases J;exact ⟨p.2,rfl,a⟩
theorem AllSeen.done {es:Array MapEntry} {seen:Array Nat} {clock:Nat} {m:Atoms} {P:Bs×Atom->Prop} (h:AllSeen es seen m P) (a:MapOk es clock (vA m)) (g:wQ es seen=[]):∀p∈m,P p:=fun p d=>by
 have b:(Value.string p.1,Value.agg #[.string p.2.name,.int .i64 p.2.num])∈(vA m).map (fun p=>(Value.string p.1,p.2)):=List.mem_map.2 ⟨(p.1,_),List.mem_map.2 ⟨p,d,rfl⟩,rfl⟩;rw [<- a.eq] at b;obtain ⟨e,J,hq⟩:=List.mem_map.1 b
 have O:e.born∈seen:=by
  refine Decidable.byContradiction fun f=>?_;have:e∈wQ es seen:=leftE_mem.2 ⟨J,f⟩;rw [g] at this;cases this
 have c:=Prod.mk.inj hq;exact h.all e J O p d c.1 c.2
theorem oX (n:Bs):∀(k:Nat) (e:TE),zA e < k->∀(p:List Int) (up:List TE),n∈qK e↔∃y∈zF p up e,n∈tS y.x.kind y.x.args
 | 0,_,h,_,_=>absurd h (Nat.not_lt_zero _)
 | k+1,.mk kd nm op num site args arms body,h,p,up=>by
  have m:weightTa arms+weightTs body < k:=by simp only [zA] at h;omega
  have j:∀(l:List TA) (i:Int) (up:List TE),weightTa l < k->(n∈splitTa l↔∃y∈belowTa p up i l,n∈tS y.x.kind y.x.args):=by
   intro l
   induction l with
   | nil=>intro i up _;simp [splitTa,belowTa]
   | cons a l g=>
    cases a with
    | mk c vs b=>
     intro i up hl;simp only [weightTa] at hl;rw [splitTa,belowTa,List.mem_append,oX n k b (by omega) (p++[i]) up,g (i+1) up (by omega)];constructor
     ·rintro (⟨y,d,f⟩ | ⟨y,d,f⟩)
      ·exact ⟨y,List.mem_append_left _ d,f⟩
      ·exact ⟨y,List.mem_append_right _ d,f⟩
     ·rintro ⟨y,d,f⟩
      rcases List.mem_append.1 d with d | d
      ·exact .inl ⟨y,d,f⟩
      ·exact .inr ⟨y,d,f⟩
  have hb:∀(l:List TE) (i:Int) (up:List TE),weightTs l < k->(n∈splitTs l↔∃y∈belowTs p up i l,n∈tS y.x.kind y.x.args):=by
   intro l
   induction l with
   | nil=>intro i up _;simp [splitTs,belowTs]
   | cons b l g=>
    intro i up hl;simp only [weightTs] at hl;rw [splitTs,belowTs,List.mem_append,oX n k b (by omega) (p++[i]) up,g (i+1) up (by omega)];constructor
    ·rintro (⟨y,d,f⟩ | ⟨y,d,f⟩)
     ·exact ⟨y,List.mem_append_left _ d,f⟩
     ·exact ⟨y,List.mem_append_right _ d,f⟩
    ·rintro ⟨y,d,f⟩
     rcases List.mem_append.1 d with d | d
     ·exact .inl ⟨y,d,f⟩
     ·exact .inr ⟨y,d,f⟩
  rw [qK,zF,List.mem_append,List.mem_append,j arms 0 _ (by omega),hb body 0 _ (by omega)];constructor
  ·rintro ((d | ⟨y,d,f⟩) | ⟨y,d,f⟩)
   ·exact ⟨_,msQ ..,d⟩
   ·exact ⟨y,mcQ _ (List.mem_append_left _ d),f⟩
   ·exact ⟨y,mcQ _ (List.mem_append_right _ d),f⟩
  ·rintro ⟨y,d,f⟩
   rcases List.mem_cons.1 d with rfl | d
   ·exact .inl (.inl f)
   ·rcases List.mem_append.1 d with d | d
    ·exact .inl (.inr ⟨y,d,f⟩)
    ·exact .inr ⟨y,d,f⟩
theorem y5z (n:Bs):∀(l:List Fnd) (s:LookS),(∀y∈l,y.x.kind=7->0 < y.x.args.length)->((zK (l.foldl z0c s).2 n).getD false=true↔((zK s.2 n).getD false=true∨∃y∈l,n∈tS y.x.kind y.x.args))
 | [],s,_=>by simp
 | y::l,s,h=>by
  rw [List.foldl_cons,y5z n l _ fun z i=>h z (mcQ _ i)];have g:=h y (msQ ..)
  have f:((zK (z0c s y).2 n).getD false=true)↔((zK s.2 n).getD false=true∨n∈tS y.x.kind y.x.args):=by
   unfold z0c tS;by_cases c:y.x.kind=7
   ·have hl:=g c
    simp only [c,if_true];rw [yJ];cases d:y.x.args with
    | nil=>rw [d] at hl;simp at hl
    | cons e j=>
     simp only [jW,d,List.getElem?_cons_zero,Option.getD_some,List.head?_cons,Option.map_some,Option.toList_some,List.mem_singleton];by_cases J:n=e.name
     ·simp [J]
     ·rw [if_neg J];simp [J]
   ·simp [c]
  rw [f];constructor
  ·rintro ((a | a) | ⟨z,a,b⟩)
   ·exact .inl a
   ·exact .inr ⟨y,msQ ..,a⟩
   ·exact .inr ⟨z,mcQ _ a,b⟩
  ·rintro (a | ⟨z,a,b⟩)
   ·exact .inl (.inl a)
   ·rcases List.mem_cons.1 a with rfl | a
    ·exact .inl (.inr b)
    ·exact .inr ⟨z,a,b⟩
def HarF (F:TFn):Prop:=∀y∈zF [] [] F.body,y.x.kind=7->0 < y.x.args.length
theorem q8g {F:TFn} (a:HarF F) (n:Bs):(zK (dL F).2 n).getD false=true↔n∈qK F.body:=by
 rw [dL,y5z n _ _ a,oX n _ F.body (Nat.lt_succ_self _) [] []]
 simp [zK]
def y4p (F:TFn) (p:Bs×Atom):Prop:=p.2.name≠sNo∨(zK (dL F).2 p.1).getD false=false
theorem y6m {F:TFn} (a:HarF F) (p:Bs×Atom):y4p F p↔(p.2.name≠sNo∨p.1∉qK F.body):=by
 unfold y4p;rw [<- q8g a,Bool.not_eq_true]
theorem put_yes {T:Trc} {F:TFn} {m:Atoms} {e:TE} (a:HarF F) (h:∀p∈m,y4p F p):FnS.put ⟨T,F⟩ m e=some (zR m e):=if_pos fun p b=>(y6m a p).1 (h p b)
theorem put_not {T:Trc} {F:TFn} {m:Atoms} {e:TE} {p:Bs×Atom} (a:HarF F) (c:p∈m) (h:¬y4p F p):FnS.put ⟨T,F⟩ m e=none:=if_neg fun b=>h ((y6m a p).2 (b p c))
structure GI (e:TE):Prop where
 ar:ArI e
 op:e.kind=1->gP e.op=true
 na:e.args.length<=1000
 nv:∀a∈e.arms,a.vars.length<=1000
mutual
def gdT:TE->Prop
 | .mk k nm op num site args arms body=>GI (.mk k nm op num site args arms body)/\gdTa arms/\gdTs body
def gdTs:List TE->Prop
 | []=>True
 | x::xs=>gdT x/\gdTs xs
def gdTa:List TA->Prop
 | []=>True
 | .mk _ _ b::xs=>gdT b/\gdTa xs
end
theorem y8n (e:TE):gdT e↔GI e/\gdTa e.arms/\gdTs e.body:=by cases e;exact Iff.rfl
theorem gdTs_iff:∀{l:List TE},gdTs l↔∀x∈l,gdT x
 | []=>by simp [gdTs]
 | x::l=>by rw [gdTs,gdTs_iff (l:=l)];simp
theorem gdTa_iff:∀{l:List TA},gdTa l↔∀x∈l,gdT x.body
 | []=>by simp [gdTa]
 | .mk c vs b::l=>by rw [gdTa,gdTa_iff (l:=l)];simp [TA.body]
theorem nN {e x:TE} (h:gdT e) (a:x∈e.body):gdT x:=gdTs_iff.1 ((y8n e).1 h).2.2 x a
theorem oL {e:TE} {a:TA} (h:gdT e) (b:a∈e.arms):gdT a.body:=gdTa_iff.1 ((y8n e).1 h).2.1 a b
theorem nA {e:TE} (h:gdT e):GI e:=((y8n e).1 h).1
theorem q2a {e:TE} (b:GI e) (c:∀a∈e.arms,gdT a.body) (d:∀x∈e.body,gdT x):gdT e:=(y8n e).2 ⟨b,gdTa_iff.2 c,gdTs_iff.2 d⟩
theorem pH {C:TE->Prop} (h:∀e,(∀a∈e.arms,C a.body)->(∀x∈e.body,C x)->C e) (e:TE):C e:=by
 have:∀(k:Nat) (e:TE),zA e < k->C e:=by
  intro k
  induction k with
  | zero=>intro e J;exact absurd J (Nat.not_lt_zero _)
  | succ k b=>intro e J;exact h e (fun a c=>b _ (by have:=kM c;omega)) (fun x d=>b _ (by have:=vN d;omega))
 exact this _ e (Nat.lt_succ_self _)
theorem wS {p:List Int} {up:List TE} {e:TE} {y:Fnd} (h:y∈zF p up e):y=⟨p,up,e⟩∨(∃(j:Nat) (a:TA),e.arms[j]? = some a/\y∈zF (p++[(j:Int)]) (up++[e]) a.body)∨∃(j:Nat) (x:TE),e.body[j]? = some x/\y∈zF (p++[(j:Int)]) (up++[e]) x:=by
 rw [jS] at h;rcases List.mem_cons.1 h with h | h
 ·exact .inl h
 ·rcases List.mem_append.1 h with h | h
  ·obtain ⟨j,a,c,b⟩:=mem_belowTa.1 h
   rw [Int.zero_add] at b;exact .inr (.inl ⟨j,a,c,b⟩)
  ·obtain ⟨j,a,c,b⟩:=mem_belowTs.1 h
   rw [Int.zero_add] at b;exact .inr (.inr ⟨j,a,c,b⟩)
theorem wI {e:TE}:gdT e->∀{p:List Int} {up:List TE} {y:Fnd},y∈zF p up e->gdT y.x:=by
 refine pH (C:=fun e=>gdT e->∀{p:List Int} {up:List TE} {y:Fnd},y∈zF p up e->gdT y.x) (fun e f hb d p up y g=>?_) e;rcases wS g with rfl | ⟨j,a,b,c⟩ | ⟨j,x,b,c⟩
 ·exact d
 ·exact f a (mgQ b) (oL d (mgQ b)) c
 ·exact hb x (mgQ b) (nN d (mgQ b)) c
theorem y9x {e:TE}:∀{p:List Int} {up:List TE} {y:Fnd},y∈zF p up e->zA y.x<=zA e:=by
 refine pH (C:=fun e=>∀{p:List Int} {up:List TE} {y:Fnd},y∈zF p up e->zA y.x<=zA e) (fun e d hb p up y f=>?_) e;rcases wS f with rfl | ⟨j,a,b,c⟩ | ⟨j,x,b,c⟩
 ·exact Nat.le_refl _
 ·have:=d a (mgQ b) c;have:=kM (mgQ b);omega
 ·have:=hb x (mgQ b) c;have:=vN (mgQ b);omega
theorem q1y {e:TE}:gdT e->arT e:=by
 refine pH (C:=fun e=>gdT e->arT e) (fun e c hb b=>?_) e;exact (arT_eq e).2 ⟨(nA b).ar,arTa_iff.2 fun a h=>c a h (oL b h),arTs_iff.2 fun x h=>hb x h (nN b h)⟩
theorem cN {F:TFn} (h:gdT F.body):HarF F:=fun y b a=>by
 have:=(nA (wI h b)).ar.one (.inr (.inl a));omega
theorem z2x:∀l:List TE,l.length<=weightTs l
 | []=>by simp
 | x::l=>by have:=z2x l;have:=jX x;simp only [lcQ,weightTs];omega
theorem z2w:∀l:List TA,l.length<=weightTa l
 | []=>by simp
 | .mk c vs b::l=>by have:=z2w l;have:=jX b;simp only [lcQ,weightTa];omega
theorem smTs_iff:∀{l:List TE},smTs l↔∀x∈l,smT x
 | []=>by simp [smTs]
 | x::l=>by rw [smTs,smTs_iff (l:=l)];simp
theorem smTa_iff:∀{l:List TA},smTa l↔∀x∈l,x.vars.length<=1000/\smT x.body
 | []=>by simp [smTa]
 | .mk c vs b::l=>by rw [smTa,smTa_iff (l:=l)];simp [TA.body,TA.vars,and_assoc]
theorem j1t {e:TE}:gdT e->zA e<=20000->smT e:=by
 refine pH (C:=fun e=>gdT e->zA e<=20000->smT e) (fun e c hb b i=>?_) e;have d:=jX e;have f:=z2x e.body;have g:=z2w e.arms;refine (z1h e).2 ⟨(nA b).na,by omega,by omega,smTa_iff.2 fun a h=>⟨(nA b).nv a h,c a h (oL b h) (by have:=kM h;omega)⟩,smTs_iff.2 fun x h=>hb x h (nN b h) (by have:=vN h;omega)⟩
theorem gd_with {m:Atoms} {e:TE}:gdT e->gdT (zR m e):=by
 refine pH (C:=fun e=>gdT e->gdT (zR m e)) (fun e j hb f=>?_) e;rw [y3e];have hi:=nA f
 have c:∀a∈e.arms.map (cY m),gdT a.body:=fun a h=>by
  obtain ⟨z,b,rfl⟩:=List.mem_map.1 h;exact j z b (oL f b)
 have d:∀x∈e.body.map (zR m),gdT x:=fun x h=>by
  obtain ⟨z,b,rfl⟩:=List.mem_map.1 h;exact hb z b (nN f b)
 refine q2a ⟨⟨fun h=>?_,fun h=>?_,fun g i=>?_,fun h=>?_,fun h=>?_,hi.ar.lo,hi.ar.hi⟩,hi.op,?_,fun a h=>?_⟩ c d
 ·show (e.args.map _).length=2;rw [List.length_map];exact hi.ar.two h
 ·show (e.args.map _).length=1;rw [List.length_map];exact hi.ar.one h
 ·show (e.body.map _).length=1;rw [List.length_map];exact hi.ar.rest g i
 ·show e.body.map _=[];rw [hi.ar.last h];rfl
 ·show e.arms.map _=[];rw [hi.ar.arms h];rfl
 ·show (e.args.map _).length<=1000;rw [List.length_map];exact hi.na
 ·obtain ⟨z,b,rfl⟩:=List.mem_map.1 h
  exact hi.nv z b
structure CallOk (T:Trc) (e:TE):Prop where
 ex:∃g∈T.funs,g.name=e.op
 all:∀g∈T.funs,g.name=e.op->g.params.length=e.args.length
structure GoodP (T:Trc):Prop where
 fit:FitP T
 gd:∀f∈T.funs,gdT f.body
 cl:∀f∈T.funs,∀y∈zF [] [] f.body,(y.x.kind=3∨y.x.kind=4∨y.x.kind=10)->CallOk T y.x
theorem GoodP.sm {T:Trc} (h:GoodP T) {F:TFn} (a:F∈T.funs) {y:Fnd} (b:y∈zF [] [] F.body):smT y.x:=by
 obtain ⟨i,hi⟩:=List.mem_iff_getElem?.1 a;have d:=q9x hi;have e:=y9x b;have c:=h.fit;simp only [FitP,qF] at c;exact j1t (wI (h.gd F a) b) (by omega)
theorem uQ (n:Bs) (c:n≠sNo):∀(l:List Atom) (u:List (Bs×Int)) (k:Nat),(zK u n).getD 0=(k:Int)->k+l.length < 1000000000->(zK (nC u l) n).getD 0=((k+wK n l:Nat):Int)
 | [],u,k,h,_=>by rw [nC,h];rfl
 | a::l,u,k,h,g=>by
  rw [lcQ] at g;rw [nC];by_cases d:a.name=sNo
  ·rw [if_pos d,uQ n c l u k h (by omega)]
   have:wK n (a::l)=wK n l:=by unfold wK;rw [List.filter_cons,if_neg (by simp [d])]
   rw [this]
  ·rw [if_neg d]
   by_cases b:n=a.name
   ·have e:(zK (qT u a.name (IntKind.i64.wrap ((zK u a.name).getD 0+1))) n).getD 0=((k+1:Nat):Int):=by
     rw [yJ,if_pos b];rw [b] at h;rw [h,Option.getD_some];have f:=z0o [()] (k:Int) (by omega) (by simp only [lcQ,lnQ];omega);rw [show IntKind.i64.wrap ((k:Int)+1)=((k:Int)+1) from f];omega
    rw [uQ n c l _ (k+1) e (by omega)];have:wK n (a::l)=wK n l+1:=by unfold wK;rw [List.filter_cons,if_pos (by simp [<- b,c]),lcQ]
    rw [this];congr 1;omega
   ·have e:(zK (qT u a.name (IntKind.i64.wrap ((zK u a.name).getD 0+1))) n).getD 0=((k:Nat):Int):=by
     rw [yJ,if_neg b];exact h
    rw [uQ n c l _ k e (by omega)];have:wK n (a::l)=wK n l:=by unfold wK;rw [List.filter_cons,if_neg (by simp only [decide_eq_true_eq];exact fun h=>b h.1.symm)]
    rw [this]
theorem x4w (n:Bs) (l:List Atom):wK n l<=l.length:=List.length_filter_le _ _
theorem y6a (n:Bs) (b:n≠sNo):∀(l:List Fnd) (s:LookS) (k:Nat),(∀y∈l,y.x.args.length<=1000)->(zK s.1 n).getD 0=(k:Int)->k+1000 * l.length < 1000000000->(zK (l.foldl z0c s).1 n).getD 0=((k+(l.map fun y=>wK n y.x.args).sum:Nat):Int)
 | [],s,k,_,h,_=>by rw [List.foldl_nil,h];rfl
 | y::l,s,k,a,h,d=>by
  rw [lcQ] at d;have f:=a y (msQ ..);have g:=x4w n y.x.args;have c:=uQ n b y.x.args s.1 k h (by omega);rw [List.foldl_cons,y6a n b l (z0c s y) (k+wK n y.x.args) (fun z e=>a z (mcQ _ e)) c (by omega),List.map_cons,List.sum_cons]
  congr 1;omega
theorem y3b (n:Bs) (e:TE):∀(p:List Int) (up:List TE),((zF p up e).map fun y=>wK n y.x.args).sum=xS n e:=by
 refine pH (C:=fun e=>∀(p:List Int) (up:List TE),((zF p up e).map fun y=>wK n y.x.args).sum=xS n e) (fun e j hb p up=>?_) e
 have g:∀(l:List TA) (i:Int) (up:List TE),(∀a∈l,∀(p:List Int) (up:List TE),((zF p up a.body).map fun y=>wK n y.x.args).sum=xS n a.body)->((belowTa p up i l).map fun y=>wK n y.x.args).sum=usesTa n l:=by
  intro l
  induction l with
  | nil=>intro i up _;rfl
  | cons a l f=>
   cases a with
   | mk c vs b=>
    intro i up h;rw [belowTa,List.map_append,List.sum_append,f (i+1) up (fun a d=>h a (mcQ _ d)),usesTa];have:=h (.mk c vs b) (msQ ..) (p++[i]) up;rw [show (TA.mk c vs b).body=b from rfl] at this;rw [this]
 have d:∀(l:List TE) (i:Int) (up:List TE),(∀a∈l,∀(p:List Int) (up:List TE),((zF p up a).map fun y=>wK n y.x.args).sum=xS n a)->((belowTs p up i l).map fun y=>wK n y.x.args).sum=usesTs n l:=by
  intro l
  induction l with
  | nil=>intro i up _;rfl
  | cons b l f=>
   intro i up h;rw [belowTs,List.map_append,List.sum_append,f (i+1) up (fun a d=>h a (mcQ _ d)),usesTs,h b (msQ ..) (p++[i]) up]
 rw [jS,List.map_cons,List.sum_cons,List.map_append,List.sum_append,g _ _ _ j,d _ _ _ hb];cases e;simp only [xS,TE.args,TE.arms,TE.body];omega
theorem j6i {T:Trc} {F:TFn} (h:GoodP T) (a:F∈T.funs) (n:Bs):(zK (dL F).1 n).getD 0=((xS n F.body:Nat):Int)∨n=sNo:=by
 by_cases b:n=sNo
 ·exact .inr b
 ·refine .inl ?_
  have c:(zF [] [] F.body).length<=20000:=by
   obtain ⟨i,hi⟩:=List.mem_iff_getElem?.1 a;have c:=q9x hi;have e:=h.fit;simp only [FitP,qF] at e;rw [gH];omega
  have d:=y6a n b (zF [] [] F.body) ([],[]) 0 (fun y f=>(nA (wI (h.gd F a) f)).na) rfl (by omega);rw [dL,d,y3b,Nat.zero_add]
theorem y3a:∀(l:List Atom) (u:List (Bs×Int)),zK u sNo=none->zK (nC u l) sNo=none
 | [],_,h=>h
 | a::l,u,h=>by
  rw [nC];by_cases b:a.name=sNo
  ·rw [if_pos b];exact y3a l u h
  ·rw [if_neg b];refine y3a l _ ?_
   rw [yJ,if_neg (fun c=>b c.symm)];exact h
theorem j2d:∀(l:List Fnd) (s:LookS),zK s.1 sNo=none->zK (l.foldl z0c s).1 sNo=none
 | [],_,h=>h
 | y::l,s,h=>by rw [List.foldl_cons];exact j2d l _ (y3a _ _ h)
theorem x4x (e:TE):xS sNo e=0:=by
 rw [<- y3b sNo e [] []]
 have:∀l:List Fnd,(l.map fun y=>wK sNo y.x.args).sum=0:=by
  intro l
  induction l with
  | nil=>rfl
  | cons y l b=>
   rw [List.map_cons,List.sum_cons,b]
   have:wK sNo y.x.args=0:=by
    unfold wK;rw [List.length_eq_zero_iff,List.filter_eq_nil_iff];intro a _;simp only [decide_eq_true_eq];exact fun h=>h.2 h.1
   rw [this]
 exact this _
theorem pR {T:Trc} {F:TFn} (h:GoodP T) (b:F∈T.funs) (n:Bs):(zK (dL F).1 n).getD 0=((xS n F.body:Nat):Int):=by
 rcases j6i h b n with a | a
 ·exact a
 ·subst a
  rw [dL,j2d _ _ rfl,x4x];rfl
section
variable {P:Program} {n:Nat} {E:List (Nat×Value)} {D:List Deferred} {a:Act} {Φ Ψ:Fz} {K:List Res} {w:World} {ty:TypeId}
variable {Kn:Value->World->Prop} {Qp:List PanicEntry->World->Prop} {dst:Option Tmp} {pos:String} {aft:Array Edge} {g:Option (Nat×Bool)}
theorem pW (i:Nat) {t kt et:TypeId} {x y z:Operand} {b:Nat} {m:List (Bs×Value)} {s:Bs} {v:Value} (e:Under P t (.map kt et)) (d:Under P kt .string)
  (J:EnvR n E D a) (N:Mem Φ K w) (f:ev E x=some (.map (some b))) (h:ev E y=some (.string s)) (j:ev E z=some v) (c:yU K i=some (.mp b m))
  (k:∀w',Mem Φ (wA K i (.mp b (z0y m s v))) w'->Kn undef w'):Oper.eff P ⟨dst,.insert t x y z,ty,pos,aft,g⟩ a w Kn Qp :=
 show Oper.eff P ⟨dst,.mapUpdate t x y z,ty,pos,aft,g⟩ a w Kn Qp from uV i e d J N f h j c k
end
end Go.Sw
