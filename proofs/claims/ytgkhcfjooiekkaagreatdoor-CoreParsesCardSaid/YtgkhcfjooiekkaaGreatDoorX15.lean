import Derived.Test.YtgkhcfjooiekkaaGreatDoorX14
set_option linter.unusedVariables false
set_option linter.unusedSimpArgs false
namespace Go.Sw
open Go.Proofs Go.Proofs.Tryz
set_option maxRecDepth 20000
set_option maxHeartbeats 4000000
section
variable {V:Fz} {K:List Res} {w:World}
theorem kY {r i:Nat} {b:Bool} {rs:Value} {ws:List Bs} (rl:SliceOf RStr V 1 rs ws) (N:Mem V (.blk r (ob [rs,.int .i64 i,.bool b] 150)::K) w) :
  Calls prog 131 #[.pointer (some ⟨r,0,none⟩)] w (fun ee w'=>ee=.returned (.string (zB ws i))/\Mem V (.blk r (ob [rs,.int .i64 i,.bool b] 150)::K) w'):=by
 obtain ⟨pw,cw,rfl,k,g⟩:=rl.fm
 refine zI func131 ntmps131 fun Q hQ a J=>?_
 refine Reg [1,1,1,2,1,1,1,2,1,1] [0] fun w N a J=>?_
 by_cases m:ws.length<=i
 refine zF ?_
 rw [q8y (by omega)];exact ⟨rfl,N⟩
 refine Reg [1,1,1,2,1,1,1,2,1,2,1] [0] fun w N a J=>?_
 refine go fun a J=>?_
 have f:i < ws.length:=by omega
 obtain ⟨n,rfl,l,e,c,j,h,d⟩:=rl.el g f
 obtain rfl:c=[.string l]:=d
 refine zF ?_
 rw [jL e];exact ⟨rfl,N⟩
theorem x7m {r i:Nat} {b:Bool} {rs:Value} {ws:List Bs} {x:Bs} (rl:SliceOf RStr V 1 rs ws) (g:i<=1000000) (N:Mem V (.blk r (ob [rs,.int .i64 i,.bool b] 150)::K) w) :
  Calls prog 133 #[.pointer (some ⟨r,0,none⟩),.string x] w (fun ee w'=>∃y:Sr,ee=.returned (.tuple #[])/\y=yI ws x (i,b)/\Mem V (.blk r (ob [rs,.int .i64 y.1,.bool y.2] 150)::K) w'):=by
 obtain ⟨pw,cw,rfl,d,e⟩:=rl.fm
 refine zI func133 ntmps133 fun Q hQ a J=>?_
 refine go fun a J=>?_
 cases b
 refine zO call131 (fun w N a J=>?_) (c:=kY (i:=i) (b:=false) rl N)
 by_cases f:(zB ws i)=x
 refine Sto 0 fun w N a J=>?_
 refine go fun a J=>?_
 refine hQ _ _ _ (aM J results133 ?_)
 exact ⟨((i+1),false),rfl,by simp [yI, *],N⟩
 rotate_left
 rotate_left
 all_goals (refine Sto 0 fun w N a J=>?_;refine go fun a J=>?_;refine hQ _ _ _ (ret0 J results133 ?_);exact ⟨(i,true),rfl,by simp [yI, *],N⟩)
theorem wE {r i:Nat} {b:Bool} {rs:Value} {ws:List Bs} {x:Bs} (a:ws.length<=1000000) (e:x≠sNo) (rl:SliceOf RStr V 1 rs ws) (c:i<=ws.length) (N:Mem V (.blk r (ob [rs,.int .i64 i,.bool b] 150)::K) w) :
  Calls prog 133 #[.pointer (some ⟨r,0,none⟩),.string x] w (fun ee w'=>∃y:Sr,ee=.returned (.tuple #[])/\(y=yI ws x (i,b)/\y.1<=ws.length)/\Mem V (.blk r (ob [rs,.int .i64 y.1,.bool y.2] 150)::K) w') :=
 (x7m rl (Nat.le_trans c a) N).mono fun _ _ ⟨y,h1,h2,d⟩=>⟨y,h1,⟨h2,h2▸vV e c⟩,d⟩
theorem x5v {r i:Nat} {b:Bool} {rs:Value} {ws:List Bs} {k:Nat} {v:Bool} (d:v=decide (k=118)) (rl:SliceOf RStr V 1 rs ws) (l:i<=1000000) (N:Mem V (.blk r (ob [rs,.int .i64 i,.bool b] 150)::K) w) :
  Calls prog 132 #[.pointer (some ⟨r,0,none⟩),.int .u8 k] w (fun ee w'=>∃y:Bs×Sr,ee=.returned (.string y.1)/\y=yJ ws v (i,b)/\Mem V (.blk r (ob [rs,.int .i64 y.2.1,.bool y.2.2] 150)::K) w'):=by
 obtain ⟨pw,cw,rfl,g,h⟩:=rl.fm
 refine zI func132 ntmps132 fun Q hQ a J=>?_
 refine zO call131 (fun w N a J=>?_) (c:=kY (i:=i) (b:=b) rl N)
 by_cases j:k=118
 refine zX call161 (fun f w N a J=>?_) (fun f w N a J=>?_) (c:=tI N)
 refine go fun a J=>?_
 cases b
 rotate_left
 rotate_left
 refine go fun a J=>?_
 cases b
 rotate_left
 rotate_left
 refine zX call134 (fun e w N a J=>?_) (fun e w N a J=>?_) (c:=hY N)
 refine go fun a J=>?_
 cases b
 rotate_left
 rotate_left
 refine go fun a J=>?_
 cases b
 rotate_left
 rotate_left
 all_goals first | (refine Sto 0 fun w N a J=>?_;refine zF ?_;exact ⟨((⟨#[]⟩:Bs),(i,true)),rfl,by subst d;simp [yJ,isY,sNo, *],N⟩) | (refine Sto 0 fun w N a J=>?_;refine zF ?_;exact ⟨((zB ws i),((i+1),false)),rfl,by subst d;simp [yJ,isY,sNo, *],N⟩)
theorem aJ {r i:Nat} {b:Bool} {rs:Value} {ws:List Bs} {k:Nat} (v:Bool) (a:ws.length<=1000000) (e:v=decide (k=118)) (rl:SliceOf RStr V 1 rs ws) (c:i<=ws.length) (N:Mem V (.blk r (ob [rs,.int .i64 i,.bool b] 150)::K) w) :
  Calls prog 132 #[.pointer (some ⟨r,0,none⟩),.int .u8 k] w (fun ee w'=>∃y:Bs×Sr,ee=.returned (.string y.1)/\(y=yJ ws v (i,b)/\y.2.1<=ws.length)/\Mem V (.blk r (ob [rs,.int .i64 y.2.1,.bool y.2.2] 150)::K) w') :=
 (x5v e rl (Nat.le_trans c a) N).mono fun _ _ ⟨y,h1,h2,d⟩=>⟨y,h1,⟨h2,h2▸kR v _ c⟩,d⟩
end
def tV (ws:List Bs) (d:Nat):Prop:=∀{V:Fz} {K:List Res} {w:World} {r i:Nat} {b:Bool} {rs:Value} ,SliceOf RStr V 1 rs ws->i<=ws.length->Mem V (.blk r (ob [rs,.int .i64 i,.bool b] 150)::K) w ->
  Calls prog 135 #[.pointer (some ⟨r,0,none⟩),.int .i64 d] w (fun ee w'=>∃y:Fz×List Value×Ex×Sr,ee=.returned (.agg y.2.1.toArray)/\(V.Le y.1/\REx y.1 y.2.1 y.2.2.1/\y.2.2=jF ws d (i,b))/\Mem y.1 (.blk r (ob [rs,.int .i64 y.2.2.2.1,.bool y.2.2.2.2] 150)::K) w')
def opL:List Bs:=[⟨#[43]⟩,⟨#[45]⟩,⟨#[42]⟩,⟨#[47]⟩,⟨#[37]⟩,⟨#[60]⟩,⟨#[61]⟩]
theorem q4v (s:Bs):gS opL s=mT s:=by
 simp only [gS,opL,mT,List.any_cons,List.any_nil,Bool.or_false,eq_comm (b:=s),Bool.or_assoc]
theorem dY {d:Nat} {V:Fz} {K:List Res} {w:World} {r i:Nat} {b:Bool} {rs:Value} {ws:List Bs} (g:tV ws d) (rl:SliceOf RStr V 1 rs ws) (c:i<=ws.length) (N:Mem V (.blk r (ob [rs,.int .i64 i,.bool b] 150)::K) w) :
  Calls prog 135 #[.pointer (some ⟨r,0,none⟩),.int .i64 d] w (fun ee w'=>∃y:Fz×List Value×Ex×Sr,ee=.returned (.agg y.2.1.toArray)/\(V.Le y.1/\REx y.1 y.2.1 y.2.2.1/\y.2.2=jF ws d (i,b)/\y.2.2.2.1<=ws.length)/\Mem y.1 (.blk r (ob [rs,.int .i64 y.2.2.2.1,.bool y.2.2.2.2] 150)::K) w') :=
 (g rl c N).mono fun _ _ ⟨y,h1,⟨h2,e,a⟩,f⟩=>⟨y,h1,⟨h2,e,a,a▸oK d _ c⟩,f⟩
section
variable {ws:List Bs} {ex:Sr->Ex×Sr} {i:Nat} {b:Bool}
theorem j9q (h:zB ws i=q5d) {x:Bs} {s1:Sr} (h1:(x,s1)=yJ ws true (i+1,b)) {a c:Ex} {s2 s3 d:Sr} (h2:(a,s2)=ex s1) (e:(c,s3)=ex s2) (f:d=yI ws jQ s3):((.mk 6 0 x [a,c] []:Ex),d)=pZ ws ex (i,b):=by
 unfold pZ;simp only;rw [if_pos h,<- h1];simp only [<- h2,<- e,f]
theorem x4w (e:¬zB ws i=q5d) (h1:¬zB ws i=z6s) (h2:nV (zB ws i)=false) (f:xT (zB ws i)=false) (g:mT (zB ws i)=true) {a c:Ex} {s2 s3 d:Sr} (h:(a,s2)=ex (i+1,b)) (j:(c,s3)=ex s2) (k:d=yI ws jQ s3):((.mk 8 0 (zB ws i) [a,c] []:Ex),d)=pZ ws ex (i,b):=by
 unfold pZ;simp only;rw [if_neg e,if_neg h1,if_neg (by rw [h2];decide),if_neg (by rw [f];decide),if_pos g];simp only [<- h,<- j,k]
theorem j9p (c:¬zB ws i=q5d) (h1:¬zB ws i=z6s) (h2:nV (zB ws i)=true) {a:Ex} {s2:Sr} (d:(a,s2)=ex (i+1,b)) :
  pZ ws ex (i,b)=(.mk 4 0 (zB ws i) ([a]++(vQ (fun j=>decide (zB ws j≠jQ)) ex (ws.length+1) s2).1) [],yI ws jQ (vQ (fun j=>decide (zB ws j≠jQ)) ex (ws.length+1) s2).2):=by
 unfold pZ;simp only;rw [if_neg c,if_neg h1,if_pos h2,tE];simp only [<- d];rfl
theorem j1z (a:¬zB ws i=q5d) (h1:¬zB ws i=z6s) (h2:nV (zB ws i)=false) (c:xT (zB ws i)=true) :
  pZ ws ex (i,b)=(.mk 5 0 (zB ws i) ([]++(vQ (fun j=>decide (zB ws j≠jQ)) ex (ws.length+1) (i+1,b)).1) [],yI ws jQ (vQ (fun j=>decide (zB ws j≠jQ)) ex (ws.length+1) (i+1,b)).2):=by
 unfold pZ;simp only;rw [if_neg a,if_neg h1,if_neg (by rw [h2];decide),if_pos c,tE];rfl
theorem y4p (c:zB ws i=z6s) {a:Ex} {s2 s3 d:Sr} {l:List Arm} (e:(a,s2)=ex (i+1,b)) (f:mQ ws ex (ws.length+1) true s2=(l,s3)) (g:d=yI ws jQ s3):((.mk 7 0 sNo [a] l:Ex),d)=pZ ws ex (i,b):=by
 unfold pZ;simp only;rw [if_neg (by rw [c];decide),if_pos c,<- e];simp only [f,g]
theorem j9o (a:¬zB ws i=q5d) (h1:¬zB ws i=z6s) (h2:nV (zB ws i)=false) (c:xT (zB ws i)=false) (d:mT (zB ws i)=false):((.mk 0 0 sNo [] []:Ex),(i,true))=pZ ws ex (i,b):=by
 unfold pZ;simp only;rw [if_neg a,if_neg h1,if_neg (by rw [h2];decide),if_neg (by rw [c];decide),if_neg (by rw [d];decide)]
end
section
variable {ws:List Bs} {d i:Nat} {b:Bool}
theorem y4h (h:b=true∨zB ws i=sNo∨zB ws i=jQ):((e0:Ex),(i,true))=jF ws (d+1) (i,b):=by unfold jF;rw [if_pos h]
section
variable (h1:¬zB ws i=sNo) (h2:¬zB ws i=jQ)
include h1 h2
theorem tD:jF ws (d+1) (i,false)=match wH (zB ws i) with
  | some n=>(.mk 1 n sNo [] [],(i+1,false))
  | none=>
   if xT (zB ws i)=true then (.mk 2 0 (zB ws i) [] [],(i+1,false))
   else if nV (zB ws i)=true then (.mk 4 0 (zB ws i) [] [],(i+1,false))
   else if zC (zB ws i) 0=33/\xT ((zB ws i).extract 1 (zB ws i).size)=true then (.mk 3 0 ((zB ws i).extract 1 (zB ws i).size) [] [],(i+1,false))
   else if zB ws i≠kD then (e0,(i,true))
   else pZ ws (jF ws d) (i+1,false):=by
 rw [jF,if_neg (by simp only [not_or];exact ⟨by decide,h1,h2⟩)];rfl
theorem j9j {n:Int} (a:wH (zB ws i)=some n):((.mk 1 n sNo [] []:Ex),(i+1,false))=jF ws (d+1) (i,false):=by rw [tD h1 h2,a]
theorem j9k (a:wH (zB ws i)=none) (b:xT (zB ws i)=true):((.mk 2 0 (zB ws i) [] []:Ex),(i+1,false))=jF ws (d+1) (i,false):=by rw [tD h1 h2,a];simp only;rw [if_pos b]
theorem j9h (b:wH (zB ws i)=none) (c:xT (zB ws i)=false) (a:nV (zB ws i)=true):((.mk 4 0 (zB ws i) [] []:Ex),(i+1,false))=jF ws (d+1) (i,false):=by
 rw [tD h1 h2,b];simp only;rw [if_neg (by rw [c];decide),if_pos a]
theorem j9i (c:wH (zB ws i)=none) (e:xT (zB ws i)=false) (a:nV (zB ws i)=false) (hb:zC (zB ws i) 0=33) (b:xT ((zB ws i).extract 1 (zB ws i).size)=true) :
  ((.mk 3 0 ((zB ws i).extract 1 (zB ws i).size) [] []:Ex),(i+1,false))=jF ws (d+1) (i,false):=by
 rw [tD h1 h2,c];simp only;rw [if_neg (by rw [e];decide),if_neg (by rw [a];decide),if_pos ⟨hb,b⟩]
theorem q7e (b:wH (zB ws i)=none) (e:xT (zB ws i)=false) (a:nV (zB ws i)=false) (hb:¬(zC (zB ws i) 0=33/\xT ((zB ws i).extract 1 (zB ws i).size)=true)) (c:¬zB ws i=kD):((e0:Ex),(i,true))=jF ws (d+1) (i,false):=by
 rw [tD h1 h2,b];simp only;rw [if_neg (by rw [e];decide),if_neg (by rw [a];decide),if_neg hb,if_pos c]
theorem y4g (b:wH (zB ws i)=none) (e:xT (zB ws i)=false) (a:nV (zB ws i)=false) (hb:¬(zC (zB ws i) 0=33/\xT ((zB ws i).extract 1 (zB ws i).size)=true)) (c:zB ws i=kD):pZ ws (jF ws d) (i+1,false)=jF ws (d+1) (i,false):=by
 rw [tD h1 h2,b];simp only;rw [if_neg (by rw [e];decide),if_neg (by rw [a];decide),if_neg hb,if_neg (not_not_intro c)]
end
end
theorem none_of {o:Option Int} (h:o.isSome=false):o=none:=by cases o;rfl;cases h
theorem some_of {o:Option Int} (h:o.isSome=true):∃n,o=some n:=by cases o;cases h;exact ⟨_,rfl⟩
theorem q7d {ws:List Bs} (l:ws.length<=1000000) (e:∀j,(zB ws j).size<=1000000):tV ws 0:=by
 intro V K w r i b rs rl p N
 obtain ⟨pw,cw,rfl,h,k⟩:=rl.fm
 refine zI func135 ntmps135 fun Q hQ a J=>?_
 refine Alc fun m w N a J=>?_
 replace N:=N.pl 1
 refine zO call131 (fun w N a J=>?_) (c:=kY rl N)
 refine zV call183 (fun q w g N a J=>?_) (c:=y5t (s:=(zB ws i)) (e _) N)
 replace N:=N.nf
 refine go fun a J=>?_
 cases b
 by_cases n:(zB ws i)=(⟨#[]⟩:Bs)
 refine Sto 0 fun w N a J=>?_
 refine zU fun a J=>?_
 refine Sto 1 fun w N a J=>?_
 refine go fun a J=>?_
 have d:=N
 replace N:=N.dl [1]
 rotate_left
 by_cases f:(zB ws i)=(⟨#[41]⟩:Bs)
 refine Sto 0 fun w N a J=>?_
 refine zU fun a J=>?_
 refine Sto 1 fun w N a J=>?_
 refine go fun a J=>?_
 have d:=N
 replace N:=N.dl [1]
 rotate_left
 refine Qq (fun a J=>?_) (o:=by exact fun J O=>xH true J rfl rfl rfl)
 refine Sto 0 fun w N a J=>?_
 refine zU fun a J=>?_
 refine Sto 1 fun w N a J=>?_
 refine go fun a J=>?_
 have d:=N
 replace N:=N.dl [1]
 rotate_left
 refine Sto 0 fun w N a J=>?_
 refine zU fun a J=>?_
 refine Sto 1 fun w N a J=>?_
 refine go fun a J=>?_
 have d:=N
 replace N:=N.dl [1]
 rotate_left
 all_goals (refine qI (N:=d) ?_;exact ⟨(V,_,(e0,(i,true))),rfl,⟨Fz.Le.refl _,REx.leaf aG,rfl⟩,N⟩)
theorem formYB {d:Nat} {V:Fz} {K:List Res} {w:World} {r i:Nat} {b:Bool} {rs:Value} {ws:List Bs} (g:∀{V:Fz} {K:List Res} {w:World} {r i:Nat} {b:Bool} {rs:Value} ,SliceOf RStr V 1 rs ws->i<=ws.length->Mem V (.blk r (ob [rs,.int .i64 i,.bool b] 150)::K) w->Calls prog 184 #[.pointer (some ⟨r,0,none⟩),.int .i64 ((d+1:Nat):Int)] w (fun ee w'=>∃y:Fz×List Value×Ex×Sr,ee=.returned (.agg y.2.1.toArray)/\(V.Le y.1/\REx y.1 y.2.1 y.2.2.1/\y.2.2=pZ ws (jF ws d) (i,b))/\Mem y.1 (.blk r (ob [rs,.int .i64 y.2.2.2.1,.bool y.2.2.2.2] 150)::K) w')) (rl:SliceOf RStr V 1 rs ws) (c:i<=ws.length) (N:Mem V (.blk r (ob [rs,.int .i64 i,.bool b] 150)::K) w) :
  Calls prog 184 #[.pointer (some ⟨r,0,none⟩),.int .i64 ((d+1:Nat):Int)] w (fun ee w'=>∃y:Fz×List Value×Ex×Sr,ee=.returned (.agg y.2.1.toArray)/\(V.Le y.1/\REx y.1 y.2.1 y.2.2.1/\y.2.2=pZ ws (jF ws d) (i,b)/\y.2.2.2.1<=ws.length)/\Mem y.1 (.blk r (ob [rs,.int .i64 y.2.2.2.1,.bool y.2.2.2.2] 150)::K) w') :=
 (g rl c N).mono fun _ _ ⟨y,h1,⟨h2,e,a⟩,f⟩=>⟨y,h1,⟨h2,e,a,a▸q7k (oK d) _ c⟩,f⟩
theorem q7c {ws:List Bs} {d:Nat} (E0:ws.length<=1000000) (hd:d<=1000) (a0:∀j,(zB ws j).size<=1000000) (hF:∀{V:Fz} {K:List Res} {w:World} {r i:Nat} {b:Bool} {rs:Value} ,SliceOf RStr V 1 rs ws->i<=ws.length->Mem V (.blk r (ob [rs,.int .i64 i,.bool b] 150)::K) w->Calls prog 184 #[.pointer (some ⟨r,0,none⟩),.int .i64 ((d+1:Nat):Int)] w (fun ee w'=>∃y:Fz×List Value×Ex×Sr,ee=.returned (.agg y.2.1.toArray)/\(V.Le y.1/\REx y.1 y.2.1 y.2.2.1/\y.2.2=pZ ws (jF ws d) (i,b))/\Mem y.1 (.blk r (ob [rs,.int .i64 y.2.2.2.1,.bool y.2.2.2.2] 150)::K) w')):tV ws (d+1):=by
 intro V K w r i b rs rl hi N
 obtain ⟨pw,cw,rfl,C0,D0⟩:=rl.fm
 have h0:¬d+1=0:=by omega
 refine zI func135 ntmps135 fun Q hQ a J=>?_
 refine Alc fun b2 w N a J=>?_
 replace N:=N.pl 1
 refine zO call131 (fun w N a J=>?_) (c:=kY rl N)
 refine zV call183 (fun y5 w Z N a J=>?_) (c:=y5t (s:=(zB ws i)) (a0 _) N)
 replace N:=N.nf
 refine go fun a J=>?_
 cases b
 by_cases p:(zB ws i)=(⟨#[]⟩:Bs)
 refine Sto 0 fun w N a J=>?_
 refine zU fun a J=>?_
 refine Sto 1 fun w N a J=>?_
 refine go fun a J=>?_
 have e:=N
 replace N:=N.dl [1]
 refine qI (N:=e) ?_
 exact ⟨(V,_,(e0,(i,true))),rfl,⟨Fz.Le.refl _,REx.leaf aG,y4h (.inr (.inl p))⟩,N⟩
 by_cases l:(zB ws i)=(⟨#[41]⟩:Bs)
 refine Sto 0 fun w N a J=>?_
 refine zU fun a J=>?_
 refine Sto 1 fun w N a J=>?_
 refine go fun a J=>?_
 have e:=N
 replace N:=N.dl [1]
 refine qI (N:=e) ?_
 exact ⟨(V,_,(e0,(i,true))),rfl,⟨Fz.Le.refl _,REx.leaf aG,y4h (.inr (.inr l))⟩,N⟩
 refine go fun a J=>?_
 generalize v:(wH (zB ws i)).isSome=H at J
 cases H
 have k:=none_of v
 have T:=vD p
 refine zX call161 (fun f w N a J=>?_) (fun f w N a J=>?_) (c:=tI N)
 refine Sto 0 fun w N a J=>?_
 refine zU fun a J=>?_
 refine Sto 1 fun w N a J=>?_
 refine go fun a J=>?_
 have e:=N
 replace N:=N.dl [1]
 refine qI (N:=e) ?_
 exact ⟨(V,_,(.mk 2 0 (zB ws i) [] [],((i+1),false))),rfl,⟨Fz.Le.refl _,REx.leaf aG,j9k p l k f⟩,N⟩
 refine zX call134 (fun g w N a J=>?_) (fun g w N a J=>?_) (c:=hY N)
 refine Sto 0 fun w N a J=>?_
 refine zU fun a J=>?_
 refine Sto 1 fun w N a J=>?_
 refine go fun a J=>?_
 have e:=N
 replace N:=N.dl [1]
 refine qI (N:=e) ?_
 exact ⟨(V,_,(.mk 4 0 (zB ws i) [] [],((i+1),false))),rfl,⟨Fz.Le.refl _,REx.leaf aG,j9h p l k f g⟩,N⟩
 have s0:=q9s p
 have S:0 < (zB ws i).size:=by omega
 obtain ⟨I,n⟩:=qJ S
 refine Qq (fun a J=>?_) (o:=by exact fun J O=>yZ 0 I J rfl rfl runUnderlying9 n)
 by_cases D:I.toNat=33
 refine Qq (fun a J=>?_) (o:=by exact fun J O=>qS 1 ((zB ws i).size) J rfl runUnderlying9 ⟨_,rfl⟩ rfl (by omega) (by exact Nat.le_refl _))
 refine zX call161 (fun m w N a J=>?_) (fun m w N a J=>?_) (c:=tI N)
 refine Sto 0 fun w N a J=>?_
 refine Qq (fun a J=>?_) (o:=by exact fun J O=>qS 1 ((zB ws i).size) J rfl runUnderlying9 ⟨_,rfl⟩ rfl (by omega) (by exact Nat.le_refl _))
 refine zU fun a J=>?_
 refine Sto 1 fun w N a J=>?_
 refine go fun a J=>?_
 have e:=N
 replace N:=N.dl [1]
 refine qI (N:=e) ?_
 exact ⟨(V,_,(.mk 3 0 ((zB ws i).extract 1 (zB ws i).size) [] [],((i+1),false))),rfl,⟨Fz.Le.refl _,REx.leaf aG,j9i p l k f g ((zT n).trans D) m⟩,N⟩
 by_cases L:(zB ws i)=(⟨#[40]⟩:Bs)
 refine Sto 0 fun w N a J=>?_
 refine zV call184 (fun d0 w P N a J=>?_) (c:=formYB hF (i:=(i+1)) (b:=false) rl (by omega) N)
 obtain ⟨X,w0,b0,U⟩:=d0
 obtain ⟨u,q,z,E⟩:=P
 simp only at u q z E N J
 replace rl:=rl.up u
 replace N:=N.nf
 obtain ⟨F0,c58,G0,c64,rfl,i0,y0,z0,k0,o0,l0,p0⟩:=REx.fm q
 refine Sto 1 fun w N a J=>?_
 refine go fun a J=>?_
 have e:=N
 replace N:=N.dl [1]
 refine qI (N:=e) ?_
 exact ⟨(X,_,(b0,(U.1,U.2))),rfl,⟨u,q,z.trans (y4g p l k f g (fun h=>absurd (h.2.symm.trans m) (by decide)) L)⟩,N⟩
 refine Sto 0 fun w N a J=>?_
 refine zU fun a J=>?_
 refine Sto 1 fun w N a J=>?_
 refine go fun a J=>?_
 have e:=N
 replace N:=N.dl [1]
 refine qI (N:=e) ?_
 exact ⟨(V,_,(e0,(i,true))),rfl,⟨Fz.Le.refl _,REx.leaf aG,q7e p l k f g (fun h=>absurd (h.2.symm.trans m) (by decide)) L⟩,N⟩
 by_cases M:(zB ws i)=(⟨#[40]⟩:Bs)
 refine Sto 0 fun w N a J=>?_
 refine zV call184 (fun f0 w R N a J=>?_) (c:=formYB hF (i:=(i+1)) (b:=false) rl (by omega) N)
 obtain ⟨Y,x0,c0,W⟩:=f0
 obtain ⟨C,t,A,F⟩:=R
 simp only at C t A F N J
 replace N:=N.nf
 obtain ⟨H0,t0,I0,u0,rfl,j0,A0,B0,m0,q0,n0,r0⟩:=REx.fm t
 refine Sto 1 fun w N a J=>?_
 refine go fun a J=>?_
 have e:=N
 replace N:=N.dl [1]
 refine qI (N:=e) ?_
 exact ⟨(Y,_,(c0,(W.1,W.2))),rfl,⟨C,t,A.trans (y4g p l k f g (fun h=>D ((zT n).symm.trans h.1)) M)⟩,N⟩
 refine Sto 0 fun w N a J=>?_
 refine zU fun a J=>?_
 refine Sto 1 fun w N a J=>?_
 refine go fun a J=>?_
 have e:=N
 replace N:=N.dl [1]
 refine qI (N:=e) ?_
 exact ⟨(V,_,(e0,(i,true))),rfl,⟨Fz.Le.refl _,REx.leaf aG,q7e p l k f g (fun h=>D ((zT n).symm.trans h.1)) M⟩,N⟩
 obtain ⟨n_,G⟩:=some_of v
 have B:=Z _ G
 have T:=vD p
 refine Sto 0 fun w N a J=>?_
 refine zU fun a J=>?_
 refine Sto 1 fun w N a J=>?_
 refine go fun a J=>?_
 have e:=N
 replace N:=N.dl [1]
 refine qI (N:=e) ?_
 exact ⟨(V,_,(.mk 1 y5 sNo [] [],((i+1),false))),rfl,⟨Fz.Le.refl _,REx.leaf (by rw [B];exact y5a G),(by rw [B];exact j9j p l G)⟩,N⟩
 refine Sto 0 fun w N a J=>?_
 refine zU fun a J=>?_
 refine Sto 1 fun w N a J=>?_
 refine go fun a J=>?_
 have e:=N
 replace N:=N.dl [1]
 refine qI (N:=e) ?_
 exact ⟨(V,_,(e0,(i,true))),rfl,⟨Fz.Le.refl _,REx.leaf aG,y4h (.inl rfl)⟩,N⟩
structure ArmsI (ws:List Bs) (ex:Sr->Ex×Sr) (r:List Arm×Sr) (l:List Arm) (f:Nat) (first:Bool) (s:Sr):Prop where
 eq:r=(l++(mQ ws ex f first s).1,(mQ ws ex f first s).2)
 le:s.1<=ws.length
 gas:s.2=false->ws.length < s.1+f
theorem ArmsI.start {ws:List Bs} {ex:Sr->Ex×Sr} {s:Sr} (h:s.1<=ws.length):ArmsI ws ex (mQ ws ex (ws.length+1) true s) [] (ws.length+1) true s:=⟨by simp,h,fun _=>by omega⟩
theorem ArmsI.next {ws:List Bs} {ex:Sr->Ex×Sr} {r:List Arm×Sr} {l:List Arm} {f:Nat} {first:Bool} {s:Sr} (a:ArmsI ws ex r l f first s) (hl:LeY ws (z5i ws ex)) (c:y9o (z5i ws ex)) (h1:s.2=false) (h2:first=true∨zB ws s.1=kD) :
  0 < f/\ArmsI ws ex r (l++[(z5i ws ex s).1]) (f - 1) false (z5i ws ex s).2:=by
 have d:=a.gas h1
 have b:=a.le
 obtain ⟨f,rfl⟩:∃k,f=k+1:=⟨f - 1,by omega⟩
 refine ⟨Nat.succ_pos _,?_,hl s a.le,fun h=>?_⟩
 have:=a.eq
 rw [mQ,if_pos ⟨h1,h2⟩] at this
 rw [this];simp
 rcases c s h1 with g | g
 rw [h] at g;cases g
 simp only [Nat.add_sub_cancel];omega
theorem ArmsI.fin {ws:List Bs} {ex:Sr->Ex×Sr} {r:List Arm×Sr} {l:List Arm} {f:Nat} {first:Bool} {s:Sr} (a:ArmsI ws ex r l f first s) (h:s.2=true∨¬(first=true∨zB ws s.1=kD)):r=(l,s):=by
 have e:mQ ws ex f first s=([],s):=by
  cases f with
  | zero=>rfl
  | succ f=>rw [mQ,if_neg];rcases h with h | h;simp [h];exact fun g=>h g.2
 rw [a.eq,e];simp
theorem j5n {ws:List Bs} {ex:Sr->Ex×Sr} {s s1 s2 s3 a b d:Sr} {c:Bs} {v:List Bs} {x:Ex} (h1:s1=yI ws kD s) (h2:(c,s2)=yJ ws false s1) (e:vQ (fun j=>decide (zB ws j≠wY)) (yJ ws true) (ws.length+1) s2=(v,s3)) (f:a=yI ws wY s3)
  (g:(x,b)=ex a) (h:d=yI ws jQ b):z5i ws ex s=(.mk c v x,d):=by
 unfold z5i;simp only
 rw [<- h1,<- h2];simp only [z5b,e];rw [<- f,<- g];simp only [<- h]
theorem j9n {ws:List Bs} {d:Nat} (I:ws.length<=1000000) (hd:d<=1000) (hE:tV ws d):∀{V:Fz} {K:List Res} {w:World} {r i:Nat} {b:Bool} {rs:Value} ,SliceOf RStr V 1 rs ws->i<=ws.length->Mem V (.blk r (ob [rs,.int .i64 i,.bool b] 150)::K) w->Calls prog 184 #[.pointer (some ⟨r,0,none⟩),.int .i64 ((d+1:Nat):Int)] w (fun ee w'=>∃y:Fz×List Value×Ex×Sr,ee=.returned (.agg y.2.1.toArray)/\(V.Le y.1/\REx y.1 y.2.1 y.2.2.1/\y.2.2=pZ ws (jF ws d) (i,b))/\Mem y.1 (.blk r (ob [rs,.int .i64 y.2.2.2.1,.bool y.2.2.2.2] 150)::K) w'):=by
 intro V K w r i b rs rl hi N
 obtain ⟨pw,cw,rfl,v7,w7⟩:=rl.fm
 refine zI func184 ntmps184 fun Q hQ a J=>?_
 refine Alc fun b2 w N a J=>?_
 replace N:=N.pl 1
 refine zO call131 (fun w N a J=>?_) (c:=kY rl N)
 refine zU fun a J=>?_
 refine Alc fun b5 w N a J=>?_
 refine Sto 0 fun w N a J=>?_
 by_cases h8:(zB ws i)=(⟨#[108,101,116]⟩:Bs)
 have S0:=xY h8 (by decide)
 refine Sto 1 fun w N a J=>?_
 replace N:=N.pl 1
 refine zV call132 (fun u5 w E3 N a J=>?_) (c:=aJ (k:=118) true I rfl rl (by omega) N)
 replace N:=N.nf
 refine zU fun a J=>?_
 refine Sto 1 fun w N a J=>?_
 refine Reg [1,2,1,1,1,0,0,0,1,0] [1,2] fun w N a J=>?_
 refine Qq (fun a J=>?_) (o:=by exact fun J O=>jT ((d:Nat):Int) J rfl rfl (by rw [yB (by omega)];omega))
 refine zV call135 (fun v5 w F3 N a J=>?_) (c:=dY hE rl (by omega) N)
 obtain ⟨h7,o7,X3,D7⟩:=v5
 obtain ⟨M1,g0,C2,n3⟩:=F3
 simp only at M1 g0 C2 n3 N J
 replace rl:=rl.up M1
 replace N:=N.nf
 obtain ⟨y7,k7,z7,c38,rfl,p6,r7,s7,r6,w6,s6,x6⟩:=REx.fm g0
 refine yK fun F7 w N a J=>?_
 replace N:=N.nilRow 66 5
 refine yU 0 z3q (fun G7 w N a J=>?_)
 refine Sto 3 fun w N a J=>?_
 refine Reg [1,2,1,1,1,0,0,0,1,0] [0,1,3,4] fun w N a J=>?_
 refine Qq (fun a J=>?_) (o:=by exact fun J O=>jT ((d:Nat):Int) J rfl rfl (by rw [yB (by omega)];omega))
 replace N:=N.pl 2
 refine zV call135 (fun w5 w G3 N a J=>?_) (c:=dY hE rl (by omega) N)
 obtain ⟨i7,p7,Y3,E7⟩:=w5
 obtain ⟨c1,D0,D2,o3⟩:=G3
 simp only at c1 D0 D2 o3 N J
 replace rl:=rl.up c1
 replace g0:=g0.up c1
 replace N:=N.nf
 obtain ⟨A7,l7,B7,m7,rfl,q6,t7,u7,t6,y6,u6,z6⟩:=REx.fm D0
 refine yK fun H7 w N a J=>?_
 refine yU 2 z3q (fun v72 w N a J=>?_) (hb:=by simp only [laQ,lcQ,lnQ];omega)
 refine Sto 4 fun w N a J=>?_
 replace N:=N.pl 1
 refine zV call133 (fun i4 w H3 N a J=>?_) (c:=wE (x:=(⟨#[41]⟩:Bs)) I (by decide) rl (by omega) N)
 replace N:=N.nf
 refine go fun a J=>?_
 have e:=N
 clear N
 obtain ⟨Q2,d1,N,r2⟩:=e.freezeRow (i:=2) rfl
 clear e
 replace rl:=rl.up d1
 replace g0:=g0.up d1
 replace D0:=D0.up d1
 replace N:=N.nf
 have J1:SliceOf REx Q2 5 _ ([X3,Y3]):=⟨_,r2,(Chunks.two (k:=5) rfl g0 rfl D0 :)⟩
 obtain ⟨C7,n7,A,v6,A6⟩:=J1.form (by decide)
 have g:=N
 clear N
 subst A
 have N:=g
 clear g
 refine Sto 4 fun w N a J=>?_
 refine go fun a J=>?_
 have E:=N
 replace N:=N.dl [4,3,2,1]
 refine qI (N:=E) ?_
 exact ⟨(Q2,_,((.mk 6 0 u5.1 ([X3,Y3]) []),(i4.1,i4.2))),rfl,⟨((M1).trans c1).trans d1,REx.node J1,j9q h8 E3.1 C2 D2 H3.1⟩,N⟩
 by_cases E0:(zB ws i)=(⟨#[99,97,115,101]⟩:Bs)
 have S0:=xY E0 (by decide)
 refine Sto 1 fun w N a J=>?_
 refine zU fun a J=>?_
 refine Sto 0 fun w N a J=>?_
 refine Reg [1,2,1,1,1,0,0,0,1,0] [0,2] fun w N a J=>?_
 refine Qq (fun a J=>?_) (o:=by exact fun J O=>jT ((d:Nat):Int) J rfl rfl (by rw [yB (by omega)];omega))
 replace N:=N.pl 1
 refine zV call135 (fun x5 w I3 N a J=>?_) (c:=dY hE rl (by omega) N)
 obtain ⟨j7,q7,t2,s2⟩:=x5
 obtain ⟨s0,n,I0,j2⟩:=I3
 simp only at s0 n I0 j2 N J
 replace rl:=rl.up s0
 replace N:=N.nf
 obtain ⟨B6,E5,C6,F5,rfl,k4,Y5,Z5,s4,S4,t4,T4⟩:=REx.fm n
 refine yK fun v117 w N a J=>?_
 replace N:=N.nilRow 66 5
 refine yU 0 z3q (fun S6 w N a J=>?_)
 refine Sto 3 fun w N a J=>?_
 refine go fun a J=>?_
 have e:=N
 clear N
 obtain ⟨P0,t0,N,z1⟩:=e.freezeRow (i:=0) rfl
 clear e
 replace rl:=rl.up t0
 replace n:=n.up t0
 replace N:=N.nf
 have m:SliceOf REx P0 5 _ ([t2]):=⟨_,z1,(Chunks.one (k:=5) rfl n :)⟩
 obtain ⟨M3,c127,A,u4,U4⟩:=m.form (by decide)
 have g:=N
 clear N
 subst A
 have N:=g
 clear g
 replace N:=N.nilRow 195 7
 replace N:=N.nf
 refine zR (J.ks [0,1,4,6]) N (fun R mm a w=>∃(m0:Fz) (L1:Nat) (f1:Bool) (u:Value) (cs:List Value) (xs:List Arm) (f:Nat) (first:Bool) (more:Bool),mm=f/\R m0 [(7,.bool more)] [(0,.gs (u) 195 7 cs),(2,.blk r (ob [.slice pw ws.length cw,.int .i64 L1,.bool f1] 150)),(3,.blk b5 (ob [.int .i64 ((7:Nat):Int),.int .i64 ((0:Nat):Int),.string ⟨#[]⟩,.slice M3 ([t2]).length c127,u] 66))] a w/\(P0.Le m0/\(Chunks (RArm m0) 7 cs xs/\xs.length+f=ws.length+1/\ArmsI ws (jF ws d) (mQ ws (jF ws d) (ws.length+1) true (s2.1,s2.2)) xs f first (L1,f1)/\(more=true↔first=true∨(f1=false/\zB ws L1=kD))))) ((ws.length+1)) ⟨P0,s2.1,s2.2,.slice none 0 0,[],[],ws.length+1,true,true,rfl,⟨J.pk,N⟩,⟨Fz.Le.refl _,⟨rfl,Nat.zero_add _,ArmsI.start (by simp only;omega),⟨fun _=>.inl rfl,fun _=>rfl⟩⟩⟩⟩ ?_
 clear N J
 rintro mm a w ⟨m0,L1,f1,u,cs,xs,f,first,more,Z,⟨J,N⟩,F0⟩ A5 Y
 replace N:=N.nf
 obtain ⟨z,F0⟩:=F0
 replace rl:=rl.up z
 replace n:=n.up z
 replace m:=m.up z
 have n0:=Z
 obtain ⟨hch,L3,h2,B2⟩:=F0
 have o6:L1<=ws.length:=h2.le
 refine go fun a J=>?_
 cases more
 refine go fun a J=>?_
 have l1:=h2.fin (by cases f1 with | true=>exact .inl rfl | false=>exact .inr fun h_=>(by cases B2.2 (h_.imp_right fun t=>⟨rfl,t⟩)))
 replace N:=N.pl 2
 refine zV call133 (fun J2 w R2 N a J=>?_) (c:=wE (x:=(⟨#[41]⟩:Bs)) I (by decide) rl (by omega) N)
 replace N:=N.nf
 refine go fun a J=>?_
 have e:=N
 clear N
 obtain ⟨W1,i0,N,A1⟩:=e.freezeRow (i:=1) rfl
 clear e
 replace rl:=rl.up i0
 replace n:=n.up i0
 replace m:=m.up i0
 replace hch:=hch.mono fun _ _ h=>h.up i0
 replace N:=N.nf
 have T0:SliceOf RArm W1 7 _ (xs):=⟨_,A1,hch⟩
 obtain ⟨D6,G5,A,v4,V4⟩:=T0.form (by decide)
 have g:=N
 clear N
 subst A
 have N:=g
 clear g
 refine Sto 3 fun w N a J=>?_
 refine go fun a J=>?_
 have E:=N
 replace N:=N.dl [3,2,1]
 refine qI (N:=E) ?_
 exact ⟨(W1,_,((.mk 7 0 ⟨#[]⟩ ([t2]) (xs)),(J2.1,J2.2))),rfl,⟨(((s0).trans t0).trans z).trans i0,REx.full m T0,y4p E0 I0 l1 R2.1⟩,N⟩
 refine go fun a J=>?_
 cases f1
 refine go fun a J=>?_
 have L:=h2.next (j5m (oK d)) (j8g d) rfl ((B2.1 rfl).imp_right And.right)
 replace N:=N.pl 2
 refine zV call133 (fun e7 w m1 N a J=>?_) (c:=wE (x:=(⟨#[40]⟩:Bs)) I (by decide) rl (by omega) N)
 replace N:=N.nf
 refine zV call132 (fun p w n1 N a J=>?_) (c:=aJ (k:=99) false I rfl rl (by omega) N)
 replace N:=N.nf
 refine zU fun a J=>?_
 refine Alc fun v3 w N a J=>?_
 refine Sto 0 fun w N a J=>?_
 refine go fun a J=>?_
 replace N:=N.nilRow 9 1
 replace N:=N.nf
 refine zR (J.ks [0,1,4,6,8]) N (fun R mm a w=>∃(F:Nat) (U:Bool) (u2:Value) (vs:List Bs) (f2:Nat),mm=f2/\R m0 [] [(0,.gs (u2) 9 1 (strs vs)),(1,.blk v3 (ob [.string p.1,u2,.int .i64 ((0:Nat):Int),.int .i64 ((0:Nat):Int),.string ⟨#[]⟩,.slice none 0 0,.slice none 0 0] 195)),(2,.blk r (ob [.slice pw ws.length cw,.int .i64 F,.bool U] 150))] a w/\(vs.length+f2=ws.length+1/\LoopY ws (fun j=>decide (zB ws j≠wY)) (yJ ws true) (vQ (fun j=>decide (zB ws j≠wY)) (yJ ws true) (ws.length+1) (p.2.1,p.2.2)) vs f2 (F,U))) ((ws.length+1)) ⟨p.2.1,p.2.2,.slice none 0 0,[],ws.length+1,rfl,⟨J.pk,N⟩,⟨Nat.zero_add _,LoopY.start (by simp only;omega)⟩⟩ ?_
 clear N J
 rintro mm a w ⟨F,U,u2,vs,f2,Z,⟨J,N⟩,j3⟩ B5 k3
 replace N:=N.nf
 obtain ⟨x7,i2⟩:=j3
 have A2:F<=ws.length:=i2.le
 refine go fun a J=>?_
 cases U
 replace N:=N.pl 2
 refine zO call131 (fun w N a J=>?_) (c:=kY rl N)
 by_cases v2:(zB ws F)=(⟨#[45,62]⟩:Bs)
 refine go fun a J=>?_
 have e:=N
 clear N
 obtain ⟨p3,S,N,B1⟩:=e.freezeRow (i:=1) rfl
 clear e
 replace rl:=rl.up S
 replace n:=n.up S
 replace m:=m.up S
 replace hch:=hch.mono fun _ _ h=>h.up S
 replace N:=N.nf
 have G:SliceOf RStr p3 1 _ (vs):=SliceOf.strs.2 B1
 obtain ⟨N1,c175,A,w4,W4⟩:=G.form (by decide)
 have g:=N
 clear N
 subst A
 have N:=g
 clear g
 have K1:=i2.fin (.inr (by simp only [v2];decide))
 refine zV call133 (fun f7 w S2 N a J=>?_) (c:=wE (x:=(⟨#[45,62]⟩:Bs)) I (by decide) rl (by omega) N)
 replace N:=N.nf
 refine Qq (fun a J=>?_) (o:=by exact fun J O=>jT ((d:Nat):Int) J rfl rfl (by rw [yB (by omega)];omega))
 refine zV call135 (fun Z3 w T2 N a J=>?_) (c:=dY hE rl (by omega) N)
 obtain ⟨Q0,R5,q,O6⟩:=Z3
 obtain ⟨B,d0,s1,k2⟩:=T2
 simp only at B d0 s1 k2 N J
 replace rl:=rl.up B
 replace n:=n.up B
 replace m:=m.up B
 replace hch:=hch.mono fun _ _ h=>h.up B
 replace G:=G.up B
 replace N:=N.nf
 obtain ⟨O1,g1,P1,h1,rfl,l4,a6,b6,x4,X4,y4,Y4⟩:=REx.fm d0
 refine Sto 1 fun w N a J=>?_
 refine zV call133 (fun a4 w o1 N a J=>?_) (c:=wE (x:=(⟨#[41]⟩:Bs)) I (by decide) rl (by omega) N)
 replace N:=N.nf
 refine go fun a J=>?_
 have r1:=j5n m1.1 n1.1 K1 S2.1 s1 o1.1
 rw [r1] at L
 obtain ⟨D,a0⟩:=L
 refine yK fun T6 w N a J=>?_
 refine yU 3 j7h (fun T1 w N a J=>?_) (hb:=by have h_:=hch.length;rw [h_];simp only [laQ,lcQ,lnQ];omega)
 refine Sto 5 fun w N a J=>?_
 refine go fun a J=>?_
 obtain ⟨a1,w3⟩:=a4
 simp only at o1 N J
 cases w3
 replace N:=N.pl 1
 refine zO call131 (fun w N a J=>?_) (c:=kY rl N)
 by_cases w2:(zB ws a1)=(⟨#[40]⟩:Bs)
 refine go fun a J=>?_
 replace N:=N.ar [2,1] [4,4,2,4,4]
 refine Y ((f - 1)) _ _ (by subst Z;subst n0;exact Nat.sub_lt D Nat.one_pos) ⟨(Q0),(a1),(false),(T1),((cs++[.string p.1,.slice N1 (vs).length c175,.int .i64 (q.kind),.int .i64 (q.num),.string q.name,.slice O1 q.args.length g1,.slice P1 q.arms.length h1])),(xs++[(.mk p.1 vs q)]),(f - 1),(false),(true),rfl,⟨J.pk,by exact N⟩,?_⟩
 refine ⟨((z).trans S).trans B,?_⟩
 exact ⟨hch.snoc (k:=7) rfl (RArm.of G d0 (c:=p.1)),by simp only [laQ,lcQ,lnQ];omega,a0,⟨fun _=>.inr ⟨rfl,w2⟩,fun _=>rfl⟩⟩
 refine go fun a J=>?_
 replace N:=N.ar [2,1] [4,4,2,4,4]
 refine Y ((f - 1)) _ _ (by subst Z;subst n0;exact Nat.sub_lt D Nat.one_pos) ⟨(Q0),(a1),(false),(T1),((cs++[.string p.1,.slice N1 (vs).length c175,.int .i64 (q.kind),.int .i64 (q.num),.string q.name,.slice O1 q.args.length g1,.slice P1 q.arms.length h1])),(xs++[(.mk p.1 vs q)]),(f - 1),(false),(false),rfl,⟨J.pk,by exact N⟩,?_⟩
 refine ⟨((z).trans S).trans B,?_⟩
 exact ⟨hch.snoc (k:=7) rfl (RArm.of G d0 (c:=p.1)),by simp only [laQ,lcQ,lnQ];omega,a0,⟨fun h_=>(by cases h_),fun h_=>h_.elim (fun t=>(by cases t)) fun t=>absurd t.2 w2⟩⟩
 refine go fun a J=>?_
 replace N:=N.ar [2,0] [4,4,2,4,4]
 refine Y ((f - 1)) _ _ (by subst Z;subst n0;exact Nat.sub_lt D Nat.one_pos) ⟨(Q0),(a1),(true),(T1),((cs++[.string p.1,.slice N1 (vs).length c175,.int .i64 (q.kind),.int .i64 (q.num),.string q.name,.slice O1 q.args.length g1,.slice P1 q.arms.length h1])),(xs++[(.mk p.1 vs q)]),(f - 1),(false),(false),rfl,⟨J.pk,by exact N⟩,?_⟩
 refine ⟨((z).trans S).trans B,?_⟩
 exact ⟨hch.snoc (k:=7) rfl (RArm.of G d0 (c:=p.1)),by simp only [laQ,lcQ,lnQ];omega,a0,⟨fun h_=>(by cases h_),fun h_=>h_.elim (fun t=>(by cases t)) fun t=>(by cases t.1)⟩⟩
 refine Reg [1,2,1,0,0,0,1,0] [2,3,4,5,6] fun w N a J=>?_
 have E2:=i2.next (kR true) (z4l true) rfl (by simp only [ne_eq,decide_eq_true_eq];exact v2)
 refine zV call132 (fun V1 w U2 N a J=>?_) (c:=aJ (k:=118) true I rfl rl (by omega) N)
 replace N:=N.nf
 rw [<- U2.1] at E2
 obtain ⟨K3,J3⟩:=E2
 refine yK fun U6 w N a J=>?_
 refine yU 2 vA (fun T3 w N a J=>?_) (hb:=by rw [zZ];simp only [lcQ,lnQ];omega)
 refine Sto 3 fun w N a J=>?_
 refine go fun a J=>?_
 first | rw [qM] at N | rw [<- yE] at N
 replace N:=N.ar [0] [6,6,6,6,4,6,6]
 refine k3 ((f2 - 1)) _ _ (by subst Z;exact Nat.sub_lt K3 Nat.one_pos) ⟨(V1.2.1),(V1.2.2),(T3),(vs++[V1.1]),(f2 - 1),rfl,⟨J.pk,by exact N⟩,?_⟩
 exact ⟨by simp only [laQ,lcQ,lnQ];omega,J3⟩
 refine go fun a J=>?_
 have e:=N
 clear N
 obtain ⟨q3,T,N,C1⟩:=e.freezeRow (i:=0) rfl
 clear e
 replace rl:=rl.up T
 replace n:=n.up T
 replace m:=m.up T
 replace hch:=hch.mono fun _ _ h=>h.up T
 replace N:=N.nf
 have H:SliceOf RStr q3 1 _ (vs):=SliceOf.strs.2 C1
 obtain ⟨Q1,i1,A,z4,Z4⟩:=H.form (by decide)
 have g:=N
 clear N
 subst A
 have N:=g
 clear g
 have K1:=i2.fin (.inl rfl)
 replace N:=N.pl 1
 refine zV call133 (fun g7 w V2 N a J=>?_) (c:=wE (x:=(⟨#[45,62]⟩:Bs)) I (by decide) rl (by omega) N)
 replace N:=N.nf
 refine Qq (fun a J=>?_) (o:=by exact fun J O=>jT ((d:Nat):Int) J rfl rfl (by rw [yB (by omega)];omega))
 refine zV call135 (fun b4 w W2 N a J=>?_) (c:=dY hE rl (by omega) N)
 obtain ⟨R0,S5,s,P6⟩:=b4
 obtain ⟨C,f0,t1,l2⟩:=W2
 simp only at C f0 t1 l2 N J
 replace rl:=rl.up C
 replace n:=n.up C
 replace m:=m.up C
 replace hch:=hch.mono fun _ _ h=>h.up C
 replace H:=H.up C
 replace N:=N.nf
 obtain ⟨R1,j1,S1,k1,rfl,m4,c6,d6,A4,a5,B4,c5⟩:=REx.fm f0
 refine Sto 1 fun w N a J=>?_
 refine zV call133 (fun c4 w p1 N a J=>?_) (c:=wE (x:=(⟨#[41]⟩:Bs)) I (by decide) rl (by omega) N)
 replace N:=N.nf
 refine go fun a J=>?_
 have r1:=j5n m1.1 n1.1 K1 V2.1 t1 p1.1
 rw [r1] at L
 obtain ⟨D,a0⟩:=L
 refine yK fun V6 w N a J=>?_
 refine yU 3 j7h (fun U1 w N a J=>?_) (hb:=by have h_:=hch.length;rw [h_];simp only [laQ,lcQ,lnQ];omega)
 refine Sto 5 fun w N a J=>?_
 refine go fun a J=>?_
 obtain ⟨b1,x3⟩:=c4
 simp only at p1 N J
 cases x3
 replace N:=N.pl 1
 refine zO call131 (fun w N a J=>?_) (c:=kY rl N)
 by_cases x2:(zB ws b1)=(⟨#[40]⟩:Bs)
 refine go fun a J=>?_
 replace N:=N.ar [2,1] [4,4,2,4,4]
 refine Y ((f - 1)) _ _ (by subst Z;subst n0;exact Nat.sub_lt D Nat.one_pos) ⟨(R0),(b1),(false),(U1),((cs++[.string p.1,.slice Q1 (vs).length i1,.int .i64 (s.kind),.int .i64 (s.num),.string s.name,.slice R1 s.args.length j1,.slice S1 s.arms.length k1])),(xs++[(.mk p.1 vs s)]),(f - 1),(false),(true),rfl,⟨J.pk,by exact N⟩,?_⟩
 refine ⟨((z).trans T).trans C,?_⟩
 exact ⟨hch.snoc (k:=7) rfl (RArm.of H f0 (c:=p.1)),by simp only [laQ,lcQ,lnQ];omega,a0,⟨fun _=>.inr ⟨rfl,x2⟩,fun _=>rfl⟩⟩
 refine go fun a J=>?_
 replace N:=N.ar [2,1] [4,4,2,4,4]
 refine Y ((f - 1)) _ _ (by subst Z;subst n0;exact Nat.sub_lt D Nat.one_pos) ⟨(R0),(b1),(false),(U1),((cs++[.string p.1,.slice Q1 (vs).length i1,.int .i64 (s.kind),.int .i64 (s.num),.string s.name,.slice R1 s.args.length j1,.slice S1 s.arms.length k1])),(xs++[(.mk p.1 vs s)]),(f - 1),(false),(false),rfl,⟨J.pk,by exact N⟩,?_⟩
 refine ⟨((z).trans T).trans C,?_⟩
 exact ⟨hch.snoc (k:=7) rfl (RArm.of H f0 (c:=p.1)),by simp only [laQ,lcQ,lnQ];omega,a0,⟨fun h_=>(by cases h_),fun h_=>h_.elim (fun t=>(by cases t)) fun t=>absurd t.2 x2⟩⟩
 refine go fun a J=>?_
 replace N:=N.ar [2,0] [4,4,2,4,4]
 refine Y ((f - 1)) _ _ (by subst Z;subst n0;exact Nat.sub_lt D Nat.one_pos) ⟨(R0),(b1),(true),(U1),((cs++[.string p.1,.slice Q1 (vs).length i1,.int .i64 (s.kind),.int .i64 (s.num),.string s.name,.slice R1 s.args.length j1,.slice S1 s.arms.length k1])),(xs++[(.mk p.1 vs s)]),(f - 1),(false),(false),rfl,⟨J.pk,by exact N⟩,?_⟩
 refine ⟨((z).trans T).trans C,?_⟩
 exact ⟨hch.snoc (k:=7) rfl (RArm.of H f0 (c:=p.1)),by simp only [laQ,lcQ,lnQ];omega,a0,⟨fun h_=>(by cases h_),fun h_=>h_.elim (fun t=>(by cases t)) fun t=>(by cases t.1)⟩⟩
 refine go fun a J=>?_
 have l1:=h2.fin (.inl rfl)
 replace N:=N.pl 2
 refine zV call133 (fun K2 w X2 N a J=>?_) (c:=wE (x:=(⟨#[41]⟩:Bs)) I (by decide) rl (by omega) N)
 replace N:=N.nf
 refine go fun a J=>?_
 have e:=N
 clear N
 obtain ⟨X1,j0,N,D1⟩:=e.freezeRow (i:=1) rfl
 clear e
 replace rl:=rl.up j0
 replace n:=n.up j0
 replace m:=m.up j0
 replace hch:=hch.mono fun _ _ h=>h.up j0
 replace N:=N.nf
 have U0:SliceOf RArm X1 7 _ (xs):=⟨_,D1,hch⟩
 obtain ⟨E6,H5,A,C4,d5⟩:=U0.form (by decide)
 have g:=N
 clear N
 subst A
 have N:=g
 clear g
 refine Sto 3 fun w N a J=>?_
 refine go fun a J=>?_
 have E:=N
 replace N:=N.dl [3,2,1]
 refine qI (N:=E) ?_
 exact ⟨(X1,_,((.mk 7 0 ⟨#[]⟩ ([t2]) (xs)),(K2.1,K2.2))),rfl,⟨(((s0).trans t0).trans z).trans j0,REx.full m U0,y4p E0 I0 l1 X2.1⟩,N⟩
 refine zX call134 (fun X w N a J=>?_) (fun X w N a J=>?_) (c:=hY N)
 refine Sto 0 fun w N a J=>?_
 have S0:=wO (ws:=ws) (i:=i) rfl (fun h_=>by have t:=X;rw [h_] at t;revert t;decide)
 refine Sto 1 fun w N a J=>?_
 refine Qq (fun a J=>?_) (o:=by exact fun J O=>xH false J rfl rfl rfl)
 refine Qq (fun a J=>?_) (o:=by exact fun J O=>xH true J rfl rfl rfl)
 refine Reg [1,2,1,1,1,0,0,0,1,0] [0,2] fun w N a J=>?_
 refine Qq (fun a J=>?_) (o:=by exact fun J O=>jT ((d:Nat):Int) J rfl rfl (by rw [yB (by omega)];omega))
 replace N:=N.pl 1
 refine zV call135 (fun d4 w Y2 N a J=>?_) (c:=dY hE rl (by omega) N)
 obtain ⟨Y1,T5,M,e1⟩:=d4
 obtain ⟨u0,v,u1,m2⟩:=Y2
 simp only at u0 v u1 m2 N J
 replace rl:=rl.up u0
 replace N:=N.nf
 obtain ⟨N3,y3,O3,z3,rfl,n4,e6,f6,D4,e5,E4,f5⟩:=REx.fm v
 refine yK fun W6 w N a J=>?_
 replace N:=N.nilRow 66 5
 refine yU 0 z3q (fun U3 w N a J=>?_)
 refine Sto 3 fun w N a J=>?_
 refine go fun a J=>?_
 have W:=j9p h8 E0 X u1
 refine zR (J.ks [0,1,4,6]) N (fun R mm a w=>∃(B0:Fz) (F:Nat) (U:Bool) (u:Value) (cs:List Value) (l:List Ex) (f:Nat),mm=f/\R B0 [] [(0,.gs (u) 66 5 cs),(2,.blk r (ob [.slice pw ws.length cw,.int .i64 F,.bool U] 150)),(3,.blk b5 (ob [.int .i64 ((4:Nat):Int),.int .i64 ((0:Nat):Int),.string (zB ws i),u,.slice none 0 0] 66))] a w/\(Y1.Le B0/\(Chunks (REx B0) 5 cs ([M]++l)/\l.length+f=ws.length+1/\LoopY ws (fun j=>decide (zB ws j≠jQ)) (jF ws d) (vQ (fun j=>decide (zB ws j≠jQ)) (jF ws d) (ws.length+1) (e1.1,e1.2)) l f (F,U)))) ((ws.length+1)) ⟨Y1,e1.1,e1.2,U3,[.int .i64 (M.kind),.int .i64 (M.num),.string M.name,.slice N3 M.args.length y3,.slice O3 M.arms.length z3],[],ws.length+1,rfl,⟨J.pk,N⟩,⟨Fz.Le.refl _,⟨by rw [List.append_nil];exact (Chunks.one (k:=5) rfl v :),Nat.zero_add _,LoopY.start (by simp only;omega)⟩⟩⟩ ?_
 clear N J
 rintro mm a w ⟨B0,F,U,u,cs,l,f,Z,⟨J,N⟩,G0⟩ C5 l3
 replace N:=N.nf
 obtain ⟨k0,G0⟩:=G0
 replace rl:=rl.up k0
 replace v:=v.up k0
 obtain ⟨hch,L3,r0⟩:=G0
 have A2:F<=ws.length:=r0.le
 refine go fun a J=>?_
 cases U
 replace N:=N.pl 2
 refine zO call131 (fun w N a J=>?_) (c:=kY rl N)
 by_cases y2:(zB ws F)=(⟨#[41]⟩:Bs)
 refine go fun a J=>?_
 have c0:=r0.fin (.inr (by simp only [y2];decide))
 rw [c0] at W
 refine zV call133 (fun L2 w Z2 N a J=>?_) (c:=wE (x:=(⟨#[41]⟩:Bs)) I (by decide) rl (by omega) N)
 replace N:=N.nf
 refine go fun a J=>?_
 have e:=N
 clear N
 obtain ⟨Z1,w0,N,E1⟩:=e.freezeRow (i:=1) rfl
 clear e
 replace rl:=rl.up w0
 replace v:=v.up w0
 replace hch:=hch.mono fun _ _ h=>h.up w0
 replace N:=N.nf
 have V0:SliceOf REx Z1 5 _ ([M]++l):=⟨_,E1,hch⟩
 obtain ⟨F6,I5,A,F4,g5⟩:=V0.form (by decide)
 have g:=N
 clear N
 subst A
 have N:=g
 clear g
 refine Sto 3 fun w N a J=>?_
 refine go fun a J=>?_
 have E:=N
 replace N:=N.dl [3,2,1]
 refine qI (N:=E) ?_
 exact ⟨(Z1,_,((.mk 4 0 (zB ws i) ([M]++l) []),(L2.1,L2.2))),rfl,⟨((u0).trans k0).trans w0,REx.node V0,(by rw [W];exact congrArg (Prod.mk _) Z2.1)⟩,N⟩
 refine Reg [1,2,1,1,1,0,0,0,1,0] [2,3,4] fun w N a J=>?_
 have L:=r0.next (oK d) (y4i d) rfl (by simp only [ne_eq,decide_eq_true_eq];exact y2)
 refine Qq (fun a J=>?_) (o:=by exact fun J O=>jT ((d:Nat):Int) J rfl rfl (by rw [yB (by omega)];omega))
 refine zV call135 (fun e4 w a3 N a J=>?_) (c:=dY hE rl (by omega) N)
 obtain ⟨r3,U5,o0,F2⟩:=e4
 obtain ⟨l0,J0,v1,n2⟩:=a3
 simp only at l0 J0 v1 n2 N J
 replace rl:=rl.up l0
 replace v:=v.up l0
 replace hch:=hch.mono fun _ _ h=>h.up l0
 replace N:=N.nf
 obtain ⟨P3,A3,Q3,B3,rfl,o4,g6,h6,G4,h5,H4,i5⟩:=REx.fm J0
 rw [<- v1] at L
 obtain ⟨D,q1⟩:=L
 refine yK fun X6 w N a J=>?_
 refine yU 2 z3q (fun V3 w N a J=>?_) (hb:=by have h_:=hch.length;rw [h_];simp only [laQ,lcQ,lnQ];omega)
 refine Sto 4 fun w N a J=>?_
 refine go fun a J=>?_
 replace N:=N.ar [0] [4,4,2,4,4]
 refine l3 ((f - 1)) _ _ (by subst Z;exact Nat.sub_lt D Nat.one_pos) ⟨(r3),(F2.1),(F2.2),(V3),((cs++[.int .i64 (o0.kind),.int .i64 (o0.num),.string o0.name,.slice P3 o0.args.length A3,.slice Q3 o0.arms.length B3])),(l++[o0]),(f - 1),rfl,⟨J.pk,by exact N⟩,?_⟩
 refine ⟨(k0).trans l0,?_⟩
 exact ⟨by rw [<- List.append_assoc];exact hch.snoc (k:=5) rfl J0,by simp only [laQ,lcQ,lnQ];omega,q1⟩
 refine go fun a J=>?_
 have c0:=r0.fin (.inl rfl)
 rw [c0] at W
 replace N:=N.pl 2
 refine zV call133 (fun M2 w b3 N a J=>?_) (c:=wE (x:=(⟨#[41]⟩:Bs)) I (by decide) rl (by omega) N)
 replace N:=N.nf
 refine go fun a J=>?_
 have e:=N
 clear N
 obtain ⟨a2,x0,N,F1⟩:=e.freezeRow (i:=1) rfl
 clear e
 replace rl:=rl.up x0
 replace v:=v.up x0
 replace hch:=hch.mono fun _ _ h=>h.up x0
 replace N:=N.nf
 have W0:SliceOf REx a2 5 _ ([M]++l):=⟨_,F1,hch⟩
 obtain ⟨G6,J5,A,I4,j5⟩:=W0.form (by decide)
 have g:=N
 clear N
 subst A
 have N:=g
 clear g
 refine Sto 3 fun w N a J=>?_
 refine go fun a J=>?_
 have E:=N
 replace N:=N.dl [3,2,1]
 refine qI (N:=E) ?_
 exact ⟨(a2,_,((.mk 4 0 (zB ws i) ([M]++l) []),(M2.1,M2.2))),rfl,⟨((u0).trans k0).trans x0,REx.node W0,(by rw [W];exact congrArg (Prod.mk _) b3.1)⟩,N⟩
 refine zX call161 (fun b0 w N a J=>?_) (fun b0 w N a J=>?_) (c:=tI N)
 refine Sto 0 fun w N a J=>?_
 have S0:=wO (ws:=ws) (i:=i) rfl (fun h_=>by have t:=b0;rw [h_] at t;revert t;decide)
 refine Sto 1 fun w N a J=>?_
 refine Qq (fun a J=>?_) (o:=by exact fun J O=>xH false J rfl rfl rfl)
 refine Qq (fun a J=>?_) (o:=by exact fun J O=>xH false J rfl rfl rfl)
 refine go fun a J=>?_
 have W:=j1z (ex:=jF ws d) (b:=b) h8 E0 X b0
 replace N:=N.nilRow 66 5
 replace N:=N.nf
 refine zR (J.ks [0,1,4,6]) N (fun R mm a w=>∃(C0:Fz) (F:Nat) (U:Bool) (u:Value) (cs:List Value) (l:List Ex) (f:Nat),mm=f/\R C0 [] [(0,.gs (u) 66 5 cs),(1,.blk b5 (ob [.int .i64 ((5:Nat):Int),.int .i64 ((0:Nat):Int),.string (zB ws i),u,.slice none 0 0] 66)),(2,.blk r (ob [.slice pw ws.length cw,.int .i64 F,.bool U] 150))] a w/\(V.Le C0/\(Chunks (REx C0) 5 cs ([]++l)/\l.length+f=ws.length+1/\LoopY ws (fun j=>decide (zB ws j≠jQ)) (jF ws d) (vQ (fun j=>decide (zB ws j≠jQ)) (jF ws d) (ws.length+1) ((i+1),b)) l f (F,U)))) ((ws.length+1)) ⟨V,(i+1),b,.slice none 0 0,[],[],ws.length+1,rfl,⟨J.pk,N⟩,⟨Fz.Le.refl _,⟨by rw [List.append_nil];exact rfl,Nat.zero_add _,LoopY.start (by simp only;omega)⟩⟩⟩ ?_
 clear N J
 rintro mm a w ⟨C0,F,U,u,cs,l,f,Z,⟨J,N⟩,H0⟩ D5 m3
 replace N:=N.nf
 obtain ⟨y0,H0⟩:=H0
 replace rl:=rl.up y0
 obtain ⟨hch,L3,r0⟩:=H0
 have A2:F<=ws.length:=r0.le
 refine go fun a J=>?_
 cases U
 replace N:=N.pl 2
 refine zO call131 (fun w N a J=>?_) (c:=kY rl N)
 by_cases z2:(zB ws F)=(⟨#[41]⟩:Bs)
 refine go fun a J=>?_
 have c0:=r0.fin (.inr (by simp only [z2];decide))
 rw [c0] at W
 refine zV call133 (fun N2 w d3 N a J=>?_) (c:=wE (x:=(⟨#[41]⟩:Bs)) I (by decide) rl (by omega) N)
 replace N:=N.nf
 refine go fun a J=>?_
 have e:=N
 clear N
 obtain ⟨c2,L0,N,G1⟩:=e.freezeRow (i:=1) rfl
 clear e
 replace rl:=rl.up L0
 replace hch:=hch.mono fun _ _ h=>h.up L0
 replace N:=N.nf
 have X0:SliceOf REx c2 5 _ ([]++l):=⟨_,G1,hch⟩
 obtain ⟨H6,K5,A,J4,k5⟩:=X0.form (by decide)
 have g:=N
 clear N
 subst A
 have N:=g
 clear g
 refine Sto 2 fun w N a J=>?_
 refine go fun a J=>?_
 have E:=N
 replace N:=N.dl [2,1]
 refine qI (N:=E) ?_
 exact ⟨(c2,_,((.mk 5 0 (zB ws i) ([]++l) []),(N2.1,N2.2))),rfl,⟨(y0).trans L0,REx.node X0,(by rw [W];exact congrArg (Prod.mk _) d3.1)⟩,N⟩
 refine Reg [1,2,1,1,1,0,0,0,1,0] [2,3] fun w N a J=>?_
 have L:=r0.next (oK d) (y4i d) rfl (by simp only [ne_eq,decide_eq_true_eq];exact z2)
 refine Qq (fun a J=>?_) (o:=by exact fun J O=>jT ((d:Nat):Int) J rfl rfl (by rw [yB (by omega)];omega))
 refine zV call135 (fun f4 w e3 N a J=>?_) (c:=dY hE rl (by omega) N)
 obtain ⟨s3,V5,p0,G2⟩:=f4
 obtain ⟨z0,K0,w1,o2⟩:=e3
 simp only at z0 K0 w1 o2 N J
 replace rl:=rl.up z0
 replace hch:=hch.mono fun _ _ h=>h.up z0
 replace N:=N.nf
 obtain ⟨R3,C3,S3,D3,rfl,p4,i6,j6,K4,l5,L4,m5⟩:=REx.fm K0
 rw [<- w1] at L
 obtain ⟨D,q1⟩:=L
 refine yK fun Y6 w N a J=>?_
 refine yU 2 z3q (fun W3 w N a J=>?_) (hb:=by have h_:=hch.length;rw [h_];simp only [laQ,lcQ,lnQ];omega)
 refine Sto 3 fun w N a J=>?_
 refine go fun a J=>?_
 replace N:=N.ar [0] [3,1,3,3]
 refine m3 ((f - 1)) _ _ (by subst Z;exact Nat.sub_lt D Nat.one_pos) ⟨(s3),(G2.1),(G2.2),(W3),((cs++[.int .i64 (p0.kind),.int .i64 (p0.num),.string p0.name,.slice R3 p0.args.length C3,.slice S3 p0.arms.length D3])),(l++[p0]),(f - 1),rfl,⟨J.pk,by exact N⟩,?_⟩
 refine ⟨(y0).trans z0,?_⟩
 exact ⟨by rw [<- List.append_assoc];exact hch.snoc (k:=5) rfl K0,by simp only [laQ,lcQ,lnQ];omega,q1⟩
 refine go fun a J=>?_
 have c0:=r0.fin (.inl rfl)
 rw [c0] at W
 replace N:=N.pl 2
 refine zV call133 (fun O2 w f3 N a J=>?_) (c:=wE (x:=(⟨#[41]⟩:Bs)) I (by decide) rl (by omega) N)
 replace N:=N.nf
 refine go fun a J=>?_
 have e:=N
 clear N
 obtain ⟨d2,M0,N,H1⟩:=e.freezeRow (i:=1) rfl
 clear e
 replace rl:=rl.up M0
 replace hch:=hch.mono fun _ _ h=>h.up M0
 replace N:=N.nf
 have Y0:SliceOf REx d2 5 _ ([]++l):=⟨_,H1,hch⟩
 obtain ⟨I6,L5,A,M4,n5⟩:=Y0.form (by decide)
 have g:=N
 clear N
 subst A
 have N:=g
 clear g
 refine Sto 2 fun w N a J=>?_
 refine go fun a J=>?_
 have E:=N
 replace N:=N.dl [2,1]
 refine qI (N:=E) ?_
 exact ⟨(d2,_,((.mk 5 0 (zB ws i) ([]++l) []),(O2.1,O2.2))),rfl,⟨(y0).trans M0,REx.node Y0,(by rw [W];exact congrArg (Prod.mk _) f3.1)⟩,N⟩
 refine yK fun Z6 w N a J=>?_
 replace N:=N.nf
 refine zX call87 (fun q0 w N a J=>?_) (fun q0 w N a J=>?_) (c:=q4d (l:=opL) N)
 refine Sto 1 fun w N a J=>?_
 have S0:=j6t ((q4v _).symm.trans q0)
 refine Sto 2 fun w N a J=>?_
 refine Qq (fun a J=>?_) (o:=by exact fun J O=>xH true J rfl rfl rfl)
 refine Reg [1,2,1,1,1,0,0,0,1,0] [0,1,3] fun w N a J=>?_
 refine Qq (fun a J=>?_) (o:=by exact fun J O=>jT ((d:Nat):Int) J rfl rfl (by rw [yB (by omega)];omega))
 replace N:=N.pl 2
 refine zV call135 (fun g4 w g3 N a J=>?_) (c:=dY hE rl (by omega) N)
 obtain ⟨y5,W5,H2,Q6⟩:=g4
 obtain ⟨N0,P,x1,p2⟩:=g3
 simp only at N0 P x1 p2 N J
 replace rl:=rl.up N0
 replace N:=N.nf
 obtain ⟨J6,M5,K6,N5,rfl,q4,k6,l6,N4,o5,O4,p5⟩:=REx.fm P
 refine yK fun a7 w N a J=>?_
 replace N:=N.nilRow 66 5
 refine yU 0 z3q (fun b7 w N a J=>?_)
 refine Sto 4 fun w N a J=>?_
 refine Reg [1,2,1,1,1,0,0,0,1,0] [0,1,3,4,5] fun w N a J=>?_
 refine Qq (fun a J=>?_) (o:=by exact fun J O=>jT ((d:Nat):Int) J rfl rfl (by rw [yB (by omega)];omega))
 replace N:=N.pl 2
 refine zV call135 (fun h4 w h3 N a J=>?_) (c:=dY hE rl (by omega) N)
 obtain ⟨z5,X5,I2,R6⟩:=h4
 obtain ⟨A0,h0,y1,q2⟩:=h3
 simp only at A0 h0 y1 q2 N J
 replace rl:=rl.up A0
 replace P:=P.up A0
 replace N:=N.nf
 obtain ⟨L6,O5,M6,P5,rfl,r4,m6,n6,P4,q5,Q4,r5⟩:=REx.fm h0
 refine yK fun c7 w N a J=>?_
 refine yU 2 z3q (fun d7 w N a J=>?_) (hb:=by simp only [laQ,lcQ,lnQ];omega)
 refine Sto 5 fun w N a J=>?_
 replace N:=N.pl 1
 refine zV call133 (fun P2 w i3 N a J=>?_) (c:=wE (x:=(⟨#[41]⟩:Bs)) I (by decide) rl (by omega) N)
 replace N:=N.nf
 refine go fun a J=>?_
 have e:=N
 clear N
 obtain ⟨e2,O0,N,I1⟩:=e.freezeRow (i:=2) rfl
 clear e
 replace P:=P.up O0
 replace h0:=h0.up O0
 replace N:=N.nf
 have Z0:SliceOf REx e2 5 _ ([H2,I2]):=⟨_,I1,(Chunks.two (k:=5) rfl P rfl h0 :)⟩
 obtain ⟨N6,Q5,A,R4,s5⟩:=Z0.form (by decide)
 have g:=N
 clear N
 subst A
 have N:=g
 clear g
 refine Sto 5 fun w N a J=>?_
 refine go fun a J=>?_
 have E:=N
 replace N:=N.dl [5,4,3,2,1]
 refine qI (N:=E) ?_
 exact ⟨(e2,_,((.mk 8 0 (zB ws i) ([H2,I2]) []),(P2.1,P2.2))),rfl,⟨((N0).trans A0).trans O0,REx.node Z0,x4w h8 E0 X b0 ((q4v _).symm.trans q0) x1 y1 i3.1⟩,N⟩
 refine Sto 2 fun w N a J=>?_
 refine zU fun a J=>?_
 refine Sto 3 fun w N a J=>?_
 refine go fun a J=>?_
 have E:=N
 replace N:=N.dl [3,1,0]
 refine qI (N:=E) ?_
 exact ⟨(V,_,(.mk 0 0 ⟨#[]⟩ [] [],(i,true))),rfl,⟨Fz.Le.refl _,REx.leaf aG,j9o h8 E0 X b0 ((q4v _).symm.trans q0)⟩,N⟩
theorem qE {v:Value} {vs:List Value} (h:[v].all Value.oneCell'=true) (h2:vs.all Value.oneCell'=true):(v::vs).all Value.oneCell'=true:=by
 simp only [List.all_cons,List.all_nil,Bool.and_true] at h
 rw [List.all_cons,h,h2];rfl
structure ConsI (ws:List Bs) (r:List Con×Sr) (l:List Con) (f:Nat) (s:Sr):Prop where
 eq:r=(l++(pN ws f s).1,(pN ws f s).2)
 le:s.1<=ws.length
 gas:s.2=false->ws.length < s.1+f
 pos:0 < f
theorem ConsI.start {ws:List Bs} {s:Sr} (h:s.1<=ws.length):ConsI ws (pN ws (ws.length+1) s) [] (ws.length+1) s:=⟨by simp,h,fun _=>by omega,Nat.succ_pos _⟩
theorem conY_le {ws:List Bs}:LeY ws (oE ws):=fun s h=>by
 unfold oE;simp only;rw [uB];exact z1l (kR false) _ _ (kR false s h)
theorem j8m {ws:List Bs}:y9o (oE ws):=fun s h=>by
 obtain ⟨i,b⟩:=s
 simp only at h;subst h
 rcases z4l (ws:=ws) false (i,false) rfl with g | g
 left
 have:(yJ ws false (i,false)).2=((yJ ws false (i,false)).2.1,true):=Prod.ext rfl g
 unfold oE;simp only;rw [this,dG]
 by_cases hb:(yJ ws false (i,false)).2.2=true
 left
 have:(yJ ws false (i,false)).2=((yJ ws false (i,false)).2.1,true):=Prod.ext rfl hb
 unfold oE;simp only;rw [this,dG]
 have a:(yJ ws false (i,false)).2.1<=ws.length:=by
  unfold yJ at hb ⊢
  split
  rename_i q;rw [if_pos q] at hb;exact absurd rfl hb
  rename_i q
  simp only [not_or] at q
  exact wO rfl fun e=>q.2 (by rw [e,j2i];exact j1k)
 have h2:=z4g (ws:=ws) (ws.length+1) (yJ ws false (i,false)).2.1 a (by omega)
 have e:(yJ ws false (i,false)).2=((yJ ws false (i,false)).2.1,false):=Prod.ext rfl (by simpa using hb)
 unfold oE;simp only;rw [e]
 cases hr:xC ws (ws.length+1) (yJ ws false (i,false)).2.1 with
 | ok y=>
  obtain ⟨x,j⟩:=y
  have c:=y9x h2 hr
  have d:=gR (ws:=ws) _ _ _ a hr
  rw [c];right;simp only at d g ⊢;omega
 | error n=>
  obtain ⟨m,_,c⟩:=z7k h2 hr
  rw [c];exact .inl rfl
theorem ConsI.next {ws:List Bs} {r:List Con×Sr} {l:List Con} {f:Nat} {s s':Sr} {x:Con} (d:ConsI ws r l f s) (a:(x,s')=oE ws s) (h1:s'.2=false) (h2:zB ws s'.1=y1h):ConsI ws r (l++[x]) (f - 1) (s'.1+1,s'.2):=by
 obtain ⟨f,rfl⟩:∃k,f=k+1:=⟨f - 1,by have:=d.pos;omega⟩
 have e:s'.1 < ws.length:=wO h2 (by decide)
 have O:s.2=false:=by
  cases hb:s.2 with
  | false=>rfl
  | true=>
   have:s=(s.1,true):=Prod.ext rfl hb
   rw [this] at a
   have c:=y2p (ws:=ws) s.1
   rw [<- a] at c
   simp only at c
   rw [c] at h1;cases h1
 have g:=d.gas O
 have b:=j8m (ws:=ws) s O
 rw [<- a] at b
 simp only [h1] at b
 have b:=b.resolve_left (by decide)
 refine ⟨?_,by simp only;omega,fun _=>by simp only [Nat.add_sub_cancel];omega,by simp only [Nat.add_sub_cancel];omega⟩
 have:=d.eq
 rw [pN,if_neg (by rw [<- a];simp [h1,h2]),<- a] at this
 rw [this];simp
theorem ConsI.fin {ws:List Bs} {r:List Con×Sr} {l:List Con} {f:Nat} {s s':Sr} {x:Con} (a:ConsI ws r l f s) (b:(x,s')=oE ws s) (h:s'.2=true∨¬zB ws s'.1=y1h):r=(l++[x],s'):=by
 obtain ⟨f,rfl⟩:∃k,f=k+1:=⟨f - 1,by have:=a.pos;omega⟩
 have:=a.eq
 rw [pN,if_pos (by rw [<- b];exact h),<- b] at this
 rw [this]
theorem j5w {ws:List Bs} {s s1 s2:Sr} {n:Bs} {l:List Bs} (h1:(n,s1)=yJ ws false s) (h2:vQ (fun j=>nV (zB ws j)) (yJ ws false) (ws.length+1) s1=(l,s2)):((⟨n,l⟩:Con),s2)=oE ws s:=by
 unfold oE;simp only;rw [<- h1];simp only [uB,h2]
theorem x0v {ws:List Bs} {i:Nat} {b:Bool} {s1 s2 s3 a:Sr} {n t:Bs} (h1:(n,s1)=yJ ws true (i+1,b)) (h2:s2=yI ws mP s1) (c:(t,s3)=yJ ws false s2) (d:a=yI ws jQ s3):((⟨n,t⟩:Param),a)=gD ws (i,b):=by
 unfold gD gC;simp only;rw [<- h1];simp only [<- h2,<- c,d]
theorem x0u {ws:List Bs}:∀s:Sr,s.1<=ws.length->(s.2=false->zB ws s.1=kD)->s.2=false->(gD ws s).2.1<=ws.length:=fun s h a hb=>by
 unfold gD
 exact vV (by decide) (z8u (s.1+1,s.2) (wO (a hb) (by decide)))
theorem y3p {ws:List Bs} {c:Core} {i:Nat} {b:Bool} (h:zB ws i=dI) {n:Bs} {s1 s2 s3:Sr} {l:List Con} (h1:(n,s1)=yJ ws false (i+1,b)) (h2:s2=yI ws sEq s1) (a:pN ws (ws.length+1) s2=(l,s3)):(({ c with datas:=c.datas++[⟨n,l⟩] }:Core),s3)=pX ws c (i,b):=by
 unfold pX j5x;simp only;rw [if_pos h,<- h1];simp only [<- h2,a]
theorem q6t {ws:List Bs} {c:Core} {i:Nat} {b:Bool} (a:¬zB ws i=dI) (h:zB ws i=aH) {n t:Bs} {s1 s2 s3:Sr} (h1:(n,s1)=yJ ws true (i+1,b)) (h2:s2=yI ws mP s1) (d:(t,s3)=yJ ws false s2):(({ c with inputs:=c.inputs++[⟨n,t⟩] }:Core),s3)=pX ws c (i,b):=by
 unfold pX gC;simp only;rw [if_neg a,if_pos h,<- h1];simp only [<- h2,<- d]
theorem q0j {ws:List Bs} {c:Core} {i:Nat} {b:Bool} (f:¬zB ws i=dI) (h0':¬zB ws i=aH) (h:zB ws i=y5f) {n t:Bs} {ps:List Param} {x:Ex} {s1 s2 s3 a d e:Sr} (h1:(n,s1)=yJ ws true (i+1,b)) (h2:vQ (fun j=>decide (zB ws j=kD)) (gD ws) (ws.length+1) s1=(ps,s2))
  (g:s3=yI ws mP s2) (k:(t,a)=yJ ws false s3) (l:d=yI ws sEq a) (m:(x,e)=jF ws 250 d):(({ c with funs:=c.funs++[⟨n,ps,t,x⟩] }:Core),e)=pX ws c (i,b):=by
 unfold pX funY;simp only;rw [if_neg f,if_neg h0',if_pos h,<- h1];simp only [z6j,h2];rw [<- g,<- k];simp only;rw [<- l,<- m]
theorem j8s {ws:List Bs} {c:Core} {i:Nat} {b:Bool} (a:¬zB ws i=dI) (h0':¬zB ws i=aH) (h0'':¬zB ws i=y5f) (h:zB ws i=sG) {n:Bs} {s1:Sr} (h1:(n,s1)=yJ ws true (i+1,b)):(({ c with outputs:=c.outputs++[n] }:Core),s1)=pX ws c (i,b):=by
 unfold pX;simp only;rw [if_neg a,if_neg h0',if_neg h0'',if_pos h,<- h1]
theorem x3c {ws:List Bs} {c:Core} {i:Nat} {b:Bool} (a:¬zB ws i=dI) (h0':¬zB ws i=aH) (h0'':¬zB ws i=y5f) (h:¬zB ws i=sG):(c,(i,true))=pX ws c (i,b):=by
 unfold pX;simp only;rw [if_neg a,if_neg h0',if_neg h0'',if_neg h]
theorem LoopY.next' {α:Type} {ws:List Bs} {c:Nat->Bool} {b:Sr->α×Sr} {r:List α×Sr} {l:List α} {f:Nat} {s:Sr} (a:LoopY ws c b r l f s) (hl:(b s).2.1<=ws.length) (e:(b s).2.2=true∨s.1 < (b s).2.1) (h1:s.2=false) (h2:c s.1=true) :
  0 < f/\LoopY ws c b r (l++[(b s).1]) (f - 1) (b s).2:=by
 have i:=a.gas h1
 have d:=a.le
 obtain ⟨f,rfl⟩:∃k,f=k+1:=⟨f - 1,by omega⟩
 refine ⟨Nat.succ_pos _,?_,hl,fun h=>?_⟩
 have:=a.eq
 rw [vQ,if_pos ⟨h1,h2⟩] at this
 rw [this];simp
 rcases e with g | g
 rw [h] at g;cases g
 simp only [Nat.add_sub_cancel];omega
theorem q8s {ws:List Bs} (i:Nat):(gD ws (i,false)).2.2=true∨i < (gD ws (i,false)).2.1:=by
 have a:AtY (gD ws (i,false)) (yA (xX ws (i+1)) fun p j=>yA (vH ws jQ j) fun _ j=>.ok (p,j)):=by
  unfold gD
  refine AtY.bind (g:=fun r:Param×Sr=>(r.1,yI ws jQ r.2)) (z2y (i+1)) (fun p j _=>?_) fun _ m=>by simp only [jB]
  exact AtY.bind (g:=fun r:Unit×Sr=>(p,r.2)) (mV (by decide) j) (fun _ _ _=>rfl) fun _ _=>rfl
 have b:Goes ws fun i=>yA (xX ws i) fun p j=>yA (vH ws jQ j) fun _ j=>.ok (p,j):=param_goes.bind fun _=>(vL _).stays.bind fun _=>Stays.ok _
 cases hr:(yA (xX ws (i+1)) fun p j=>yA (vH ws jQ j) fun _ j=>.ok (p,j)) with
 | ok y=>
  obtain ⟨x,j⟩:=y
  have h1:=y9x a hr
  have h2:=b (i+1) (x,j) hr
  rw [h1];right;simp only at h2 ⊢;omega
 | error n=>
  obtain ⟨m,_,h1⟩:=z7k a hr
  rw [h1];exact .inl rfl
theorem j8q {ws:List Bs} (g:ws.length<=1000000) (hE:tV ws 250) {V:Fz} {K:List Res} {w:World} {r i:Nat} {b:Bool} {rs:Value}  {c:Core} {v1 v2 v3 v4:Value} {P S T:List Value} (rl:SliceOf RStr V 1 rs ws) (hi:i<=ws.length) (h1:Chunks (RData V) 2 P c.datas) (h2:Chunks (RParam V) 2 S c.inputs) (q:Chunks (RFun V) 8 T c.funs)
  (hn:c.datas.length+c.inputs.length+c.funs.length+c.outputs.length<=2000000) (N:Mem V (.blk r (ob [rs,.int .i64 i,.bool b] 150)::.gs v1 133 2 P::.gs v2 72 2 S::.gs v3 68 8 T::.gs v4 9 1 (strs c.outputs)::K) w) :
  Calls prog 76 #[.pointer (some ⟨r,0,none⟩),.agg #[v1,v2,v3,v4]] w (fun ee w'=>∃y:Fz×(Value×Value×Value×Value)×(List Value×List Value×List Value)×Core×Sr,ee=.returned (.agg #[y.2.1.1,y.2.1.2.1,y.2.1.2.2.1,y.2.1.2.2.2]) /\
   (V.Le y.1/\Chunks (RData y.1) 2 y.2.2.1.1 y.2.2.2.1.datas/\Chunks (RParam y.1) 2 y.2.2.1.2.1 y.2.2.2.1.inputs/\Chunks (RFun y.1) 8 y.2.2.1.2.2 y.2.2.2.1.funs/\y.2.2.2=pX ws c (i,b))/\Mem y.1 (.blk r (ob [rs,.int .i64 y.2.2.2.2.1,.bool y.2.2.2.2.2] 150)::.gs y.2.1.1 133 2 y.2.2.1.1::.gs y.2.1.2.1 72 2 y.2.2.1.2.1::.gs y.2.1.2.2.1 68 8 y.2.2.1.2.2::.gs y.2.1.2.2.2 9 1 (strs y.2.2.2.1.outputs)::K) w'):=by
 obtain ⟨pw,cw,rfl,C3,D3⟩:=rl.fm
 refine zI func76 ntmps76 fun Q hQ a J=>?_
 refine Bx fun b2 w N a J=>?_
 refine Alc fun b3 w N a J=>?_
 replace N:=N.pl 2
 refine zO call131 (fun w N a J=>?_) (c:=kY rl N)
 by_cases h7:(zB ws i)=(⟨#[100,97,116,97]⟩:Bs)
 have X:=xY h7 (by decide)
 refine Sto 0 fun w N a J=>?_
 refine zV call132 (fun A0 w Q0 N a J=>?_) (c:=aJ (k:=99) false g rfl rl (by omega) N)
 replace N:=N.nf
 refine zU fun a J=>?_
 refine Alc fun p2 w N a J=>?_
 refine Sto 0 fun w N a J=>?_
 replace N:=N.pl 1
 refine zV call133 (fun O0 w R0 N a J=>?_) (c:=wE (x:=(⟨#[61]⟩:Bs)) g (by decide) rl (by omega) N)
 replace N:=N.nf
 refine go fun a J=>?_
 replace N:=N.nilRow 135 2
 replace N:=N.nf
 refine zR (J.ks [0,3,4,5]) N (fun R mm a w=>∃(a0:Fz) (z:Nat) (U:Bool) (u:Value) (cs:List Value) (l:List Con) (f:Nat),mm=f/\R a0 [] [(0,.gs (u) 135 2 cs),(1,.blk r (ob [.slice pw ws.length cw,.int .i64 z,.bool U] 150)),(2,.blk p2 (ob [.string A0.1,u] 133))] a w/\(V.Le a0/\(Chunks (RCon a0) 2 cs l/\l.length+f=ws.length+1/\ConsI ws (pN ws (ws.length+1) (O0.1,O0.2)) l f (z,U)))) ((ws.length+1)) ⟨V,O0.1,O0.2,.slice none 0 0,[],[],ws.length+1,rfl,⟨J.pk,N⟩,⟨Fz.Le.refl _,⟨rfl,Nat.zero_add _,ConsI.start (by simp only;omega)⟩⟩⟩ ?_
 clear N J
 rintro mm a w ⟨a0,z,U,u,cs,l,f,j0,⟨J,N⟩,o0⟩ A3 R1
 replace N:=N.nf
 obtain ⟨E,o0⟩:=o0
 replace rl:=rl.up E
 replace h1:=h1.mono fun _ _ h=>h.up E
 replace h2:=h2.mono fun _ _ h=>RParam.mono _ _ _ _ E h
 replace q:=q.mono fun _ _ h=>h.up E
 have X1:=j0
 obtain ⟨hch,K2,i0⟩:=o0
 have T0:z<=ws.length:=i0.le
 have d3:=i0.pos
 replace N:=N.pl 1
 refine zV call132 (fun m w S0 N a J=>?_) (c:=aJ (k:=99) false g rfl rl (by omega) N)
 replace N:=N.nf
 refine zU fun a J=>?_
 refine Alc fun q2 w N a J=>?_
 refine Sto 0 fun w N a J=>?_
 refine go fun a J=>?_
 replace N:=N.nilRow 9 1
 replace N:=N.nf
 refine zR (J.ks [0,3,4,5,6]) N (fun R mm a w=>∃(Y:Nat) (F0:Bool) (u2:Value) (ls:List Bs) (f2:Nat),mm=f2/\R a0 [] [(0,.gs (u2) 9 1 (strs ls)),(1,.blk q2 (ob [.string m.1,u2] 135)),(2,.blk r (ob [.slice pw ws.length cw,.int .i64 Y,.bool F0] 150))] a w/\(ls.length+f2=ws.length+1/\LoopY ws (fun j=>nV (zB ws j)) (yJ ws false) (vQ (fun j=>nV (zB ws j)) (yJ ws false) (ws.length+1) (m.2.1,m.2.2)) ls f2 (Y,F0))) ((ws.length+1)) ⟨m.2.1,m.2.2,.slice none 0 0,[],ws.length+1,rfl,⟨J.pk,N⟩,⟨Nat.zero_add _,LoopY.start (by simp only;omega)⟩⟩ ?_
 clear N J
 rintro mm a w ⟨Y,F0,u2,ls,f2,j0,⟨J,N⟩,Q1⟩ B3 S1
 replace N:=N.nf
 obtain ⟨E3,H0⟩:=Q1
 have e3:Y<=ws.length:=H0.le
 refine go fun a J=>?_
 cases F0
 replace N:=N.pl 2
 refine zO call131 (fun w N a J=>?_) (c:=kY rl N)
 refine zX call134 (fun m0 w N a J=>?_) (fun m0 w N a J=>?_) (c:=hY N)
 refine Reg [1,2,1,0,0,0,1,0] [2,3,4,5,6,7,8,9,10] fun w N a J=>?_
 have V0:=H0.next (kR false) (z4l false) rfl m0
 refine zV call132 (fun B1 w P1 N a J=>?_) (c:=aJ (k:=99) false g rfl rl (by omega) N)
 replace N:=N.nf
 rw [<- P1.1] at V0
 obtain ⟨Z1,U1⟩:=V0
 refine yK fun F3 w N a J=>?_
 refine yU 2 vA (fun P2 w N a J=>?_) (hb:=by rw [zZ];simp only [lcQ,lnQ];omega)
 refine Sto 3 fun w N a J=>?_
 refine go fun a J=>?_
 first | rw [qM] at N | rw [<- yE] at N
 replace N:=N.ar [0] [10,10,10,10,10,10,10,10,8,10,10]
 refine S1 ((f2 - 1)) _ _ (by subst j0;exact Nat.sub_lt Z1 Nat.one_pos) ⟨(B1.2.1),(B1.2.2),(P2),(ls++[B1.1]),(f2 - 1),rfl,⟨J.pk,by exact N⟩,?_⟩
 exact ⟨by simp only [laQ,lcQ,lnQ];omega,U1⟩
 refine go fun a J=>?_
 have q0:=H0.fin (.inr m0)
 have g0:=j5w S0.1 q0
 have d:=N
 clear N
 obtain ⟨E0,F,N,K0⟩:=d.freezeRow (i:=1) rfl
 clear d
 replace rl:=rl.up F
 replace h1:=h1.mono fun _ _ h=>h.up F
 replace h2:=h2.mono fun _ _ h=>RParam.mono _ _ _ _ F h
 replace q:=q.mono fun _ _ h=>h.up F
 replace hch:=hch.mono fun _ _ h=>RCon.mono _ _ _ _ F h
 replace N:=N.nf
 have d0:SliceOf RStr E0 1 _ (ls):=SliceOf.strs.2 K0
 obtain ⟨j2,O1,D,f3,k3⟩:=d0.form (by decide)
 have e:=N
 clear N
 subst D
 have N:=e
 clear e
 refine yK fun G3 w N a J=>?_
 refine yU 3 j3t (fun Q2 w N a J=>?_) (hb:=by have h_:=hch.length;rw [h_];simp only [laQ,lcQ,lnQ];omega)
 refine Sto 4 fun w N a J=>?_
 replace N:=N.pl 1
 refine zO call131 (fun w N a J=>?_) (c:=kY rl N)
 by_cases g1:(zB ws Y)=(⟨#[124]⟩:Bs)
 have X:=xY g1 (by decide)
 have V1:=i0.next g0 rfl g1
 refine Sto 0 fun w N a J=>?_
 refine go fun a J=>?_
 replace N:=N.ar [2,1] [8,8,8,8,8,8,8,7,8]
 refine R1 ((f - 1)) _ _ (by subst j0;subst X1;exact Nat.sub_lt i0.pos Nat.one_pos) ⟨(E0),((Y+1)),(false),(Q2),((cs++[.string m.1,.slice j2 (ls).length O1])),(l++[⟨m.1,ls⟩]),(f - 1),rfl,⟨J.pk,by exact N⟩,?_⟩
 refine ⟨(E).trans F,?_⟩
 exact ⟨hch.snoc (k:=2) rfl ⟨_,rfl,d0⟩,by simp only [laQ,lcQ,lnQ];omega,V1⟩
 refine go fun a J=>?_
 have p0:=i0.fin g0 (.inr g1)
 have C:Chunks (RCon E0) 2 ((cs++[.string m.1,.slice j2 (ls).length O1])) (l++[⟨m.1,ls⟩]):=hch.snoc (k:=2) (x:=(⟨m.1,ls⟩:Con)) rfl ⟨_,rfl,d0⟩
 have d:=N
 clear N
 obtain ⟨d1,G,N,L0⟩:=d.freezeRow (i:=3) rfl
 clear d
 replace rl:=rl.up G
 replace h1:=h1.mono fun _ _ h=>h.up G
 replace h2:=h2.mono fun _ _ h=>RParam.mono _ _ _ _ G h
 replace q:=q.mono fun _ _ h=>h.up G
 replace hch:=hch.mono fun _ _ h=>RCon.mono _ _ _ _ G h
 replace C:=C.mono fun _ _ h=>RCon.mono _ _ _ _ G h
 replace N:=N.nf
 have x0:SliceOf RCon d1 2 _ (l++[(⟨m.1,ls⟩:Con)]):=⟨_,L0,C⟩
 obtain ⟨L2,r2,D,g3,l3⟩:=x0.form (by decide)
 have e:=N
 clear N
 subst D
 have N:=e
 clear e
 refine yK fun H3 w N a J=>?_
 refine yU 7 q9l (fun l2 w N a J=>?_) (hb:=by have h_:=h1.length;rw [h_];simp only [laQ,lcQ,lnQ];omega)
 refine Sto 6 fun w N a J=>?_
 refine go fun a J=>?_
 refine st0 J rfl rfl (qF 5 (cs:=[.slice none 0 0,.slice none 0 0,.slice none 0 0,.slice none 0 0]) (vs:=[l2,v2,v3,v4]) J N rfl rfl rfl rfl sizeOf27 rfl (qE (N.toSees.gsOne (i:=7) rfl) (qE (N.toSees.gsOne (i:=8) rfl) (qE (N.toSees.gsOne (i:=9) rfl) (qE (N.toSees.gsOne (i:=10) rfl) rfl)))) rfl fun w N a J=>?_)
 replace N:=N.nf
 refine go fun a J=>?_
 have s:=N
 replace N:=N.dl [6,5,4,3,2,0]
 refine qI (N:=s) ?_
 exact ⟨(d1,(l2,v2,v3,v4),((P++[.string A0.1,.slice L2 (l++[(⟨m.1,ls⟩:Con)]).length r2]),S,T),{ c with datas:=c.datas++[⟨A0.1,l++[⟨m.1,ls⟩]⟩] },(Y,false)),rfl,⟨((E).trans F).trans G,(h1.snoc (k:=2) rfl ⟨_,rfl,x0⟩),h2,q,y3p h7 Q0.1 R0.1 p0⟩,N⟩
 refine go fun a J=>?_
 have q0:=H0.fin (.inl rfl)
 have g0:=j5w S0.1 q0
 have d:=N
 clear N
 obtain ⟨e1,I,N,M0⟩:=d.freezeRow (i:=0) rfl
 clear d
 replace rl:=rl.up I
 replace h1:=h1.mono fun _ _ h=>h.up I
 replace h2:=h2.mono fun _ _ h=>RParam.mono _ _ _ _ I h
 replace q:=q.mono fun _ _ h=>h.up I
 replace hch:=hch.mono fun _ _ h=>RCon.mono _ _ _ _ I h
 replace N:=N.nf
 have y0:SliceOf RStr e1 1 _ (ls):=SliceOf.strs.2 M0
 obtain ⟨M2,s2,D,i3,m3⟩:=y0.form (by decide)
 have e:=N
 clear N
 subst D
 have N:=e
 clear e
 refine yK fun v80 w N a J=>?_
 refine yU 3 j3t (fun I3 w N a J=>?_) (hb:=by have h_:=hch.length;rw [h_];simp only [laQ,lcQ,lnQ];omega)
 refine Sto 4 fun w N a J=>?_
 refine go fun a J=>?_
 have p0:=i0.fin g0 (.inl rfl)
 have C:Chunks (RCon e1) 2 ((cs++[.string m.1,.slice M2 (ls).length s2])) (l++[⟨m.1,ls⟩]):=hch.snoc (k:=2) (x:=(⟨m.1,ls⟩:Con)) rfl ⟨_,rfl,y0⟩
 have d:=N
 clear N
 obtain ⟨f1,H,N,N0⟩:=d.freezeRow (i:=3) rfl
 clear d
 replace rl:=rl.up H
 replace h1:=h1.mono fun _ _ h=>h.up H
 replace h2:=h2.mono fun _ _ h=>RParam.mono _ _ _ _ H h
 replace q:=q.mono fun _ _ h=>h.up H
 replace hch:=hch.mono fun _ _ h=>RCon.mono _ _ _ _ H h
 replace C:=C.mono fun _ _ h=>RCon.mono _ _ _ _ H h
 replace N:=N.nf
 have z0:SliceOf RCon f1 2 _ (l++[(⟨m.1,ls⟩:Con)]):=⟨_,N0,C⟩
 obtain ⟨N2,t2,D,j3,n3⟩:=z0.form (by decide)
 have e:=N
 clear N
 subst D
 have N:=e
 clear e
 refine yK fun J3 w N a J=>?_
 refine yU 7 q9l (fun m2 w N a J=>?_) (hb:=by have h_:=h1.length;rw [h_];simp only [laQ,lcQ,lnQ];omega)
 refine Sto 6 fun w N a J=>?_
 refine go fun a J=>?_
 refine st0 J rfl rfl (qF 5 (cs:=[.slice none 0 0,.slice none 0 0,.slice none 0 0,.slice none 0 0]) (vs:=[m2,v2,v3,v4]) J N rfl rfl rfl rfl sizeOf27 rfl (qE (N.toSees.gsOne (i:=7) rfl) (qE (N.toSees.gsOne (i:=8) rfl) (qE (N.toSees.gsOne (i:=9) rfl) (qE (N.toSees.gsOne (i:=10) rfl) rfl)))) rfl fun w N a J=>?_)
 replace N:=N.nf
 refine go fun a J=>?_
 have s:=N
 replace N:=N.dl [6,5,4,2,1,0]
 refine qI (N:=s) ?_
 exact ⟨(f1,(m2,v2,v3,v4),((P++[.string A0.1,.slice N2 (l++[(⟨m.1,ls⟩:Con)]).length t2]),S,T),{ c with datas:=c.datas++[⟨A0.1,l++[⟨m.1,ls⟩]⟩] },(Y,true)),rfl,⟨((E).trans I).trans H,(h1.snoc (k:=2) rfl ⟨_,rfl,z0⟩),h2,q,y3p h7 Q0.1 R0.1 p0⟩,N⟩
 by_cases h0:(zB ws i)=(⟨#[105,110,112,117,116]⟩:Bs)
 have X:=xY h0 (by decide)
 refine Sto 0 fun w N a J=>?_
 refine zV call132 (fun C1 w i1 N a J=>?_) (c:=aJ (k:=118) true g rfl rl (by omega) N)
 replace N:=N.nf
 refine zU fun a J=>?_
 refine Alc fun S2 w N a J=>?_
 refine Sto 0 fun w N a J=>?_
 replace N:=N.pl 1
 refine zV call133 (fun t3 w j1 N a J=>?_) (c:=wE (x:=(⟨#[58]⟩:Bs)) g (by decide) rl (by omega) N)
 replace N:=N.nf
 refine zV call132 (fun Z w k1 N a J=>?_) (c:=aJ (k:=99) false g rfl rl (by omega) N)
 replace N:=N.nf
 refine Sto 1 fun w N a J=>?_
 refine yK fun o3 w N a J=>?_
 refine yU 6 z0o (fun v117 w N a J=>?_) (hb:=by have h_:=h2.length;rw [h_];simp only [laQ,lcQ,lnQ];omega)
 refine Sto 4 fun w N a J=>?_
 refine go fun a J=>?_
 refine st0 J rfl rfl (qF 3 (cs:=[.slice none 0 0,.slice none 0 0,.slice none 0 0,.slice none 0 0]) (vs:=[v1,v117,v3,v4]) J N rfl rfl rfl rfl sizeOf27 rfl (qE (N.toSees.gsOne (i:=5) rfl) (qE (N.toSees.gsOne (i:=6) rfl) (qE (N.toSees.gsOne (i:=7) rfl) (qE (N.toSees.gsOne (i:=8) rfl) rfl)))) rfl fun w N a J=>?_)
 replace N:=N.nf
 refine go fun a J=>?_
 have s:=N
 replace N:=N.dl [4,3,2,0]
 refine qI (N:=s) ?_
 exact ⟨(V,(v1,v117,v3,v4),(P,(S++[.string C1.1,.string Z.1]),T),{ c with inputs:=c.inputs++[⟨C1.1,Z.1⟩] },(Z.2.1,Z.2.2)),rfl,⟨Fz.Le.refl _,h1,(Chunks.snoc (R:=RParam V) (k:=2) (x:=(⟨C1.1,Z.1⟩:Param)) rfl rfl h2),q,q6t h7 h0 i1.1 j1.1 k1.1⟩,N⟩
 by_cases W:(zB ws i)=(⟨#[102,117,110]⟩:Bs)
 have X:=xY W (by decide)
 refine Sto 0 fun w N a J=>?_
 refine zV call132 (fun p w n0 N a J=>?_) (c:=aJ (k:=118) true g rfl rl (by omega) N)
 replace N:=N.nf
 refine zU fun a J=>?_
 refine Alc fun I1 w N a J=>?_
 refine Sto 0 fun w N a J=>?_
 refine go fun a J=>?_
 replace N:=N.nilRow 72 2
 replace N:=N.nf
 refine zR (J.ks [0,3,4,8]) N (fun R mm a w=>∃(z:Nat) (U:Bool) (u:Value) (cs:List Value) (l:List Param) (f:Nat),mm=f/\R V [] [(0,.gs (u) 72 2 cs),(1,.blk I1 (ob [.string p.1,u,.string ⟨#[]⟩,.int .i64 ((0:Nat):Int),.int .i64 ((0:Nat):Int),.string ⟨#[]⟩,.slice none 0 0,.slice none 0 0] 68)),(2,.blk r (ob [.slice pw ws.length cw,.int .i64 z,.bool U] 150))] a w/\(Chunks (RParam V) 2 cs l/\l.length+f=ws.length+1/\LoopY ws (fun j=>decide (zB ws j=kD)) (gD ws) (vQ (fun j=>decide (zB ws j=kD)) (gD ws) (ws.length+1) (p.2.1,p.2.2)) l f (z,U))) ((ws.length+1)) ⟨p.2.1,p.2.2,.slice none 0 0,[],[],ws.length+1,rfl,⟨J.pk,N⟩,⟨rfl,Nat.zero_add _,LoopY.start (by simp only;omega)⟩⟩ ?_
 clear N J
 rintro mm a w ⟨z,U,u,cs,l,f,j0,⟨J,N⟩,z1⟩ R2 A1
 replace N:=N.nf
 obtain ⟨hch,K2,G0⟩:=z1
 have T0:z<=ws.length:=G0.le
 refine go fun a J=>?_
 cases U
 replace N:=N.pl 2
 refine zO call131 (fun w N a J=>?_) (c:=kY rl N)
 by_cases f0:(zB ws z)=(⟨#[40]⟩:Bs)
 have X:=xY f0 (by decide)
 have U0:=G0.next' (x0u (z,false) T0 (fun _=>f0) rfl) (q8s z) rfl (by simp only [decide_eq_true_eq];exact f0)
 refine Sto 0 fun w N a J=>?_
 refine zV call132 (fun B0 w l1 N a J=>?_) (c:=aJ (k:=118) true g rfl rl (by omega) N)
 replace N:=N.nf
 refine zU fun a J=>?_
 refine Alc fun T2 w N a J=>?_
 refine Sto 0 fun w N a J=>?_
 replace N:=N.pl 1
 refine zV call133 (fun u3 w m1 N a J=>?_) (c:=wE (x:=(⟨#[58]⟩:Bs)) g (by decide) rl (by omega) N)
 replace N:=N.nf
 refine zV call132 (fun C0 w n1 N a J=>?_) (c:=aJ (k:=99) false g rfl rl (by omega) N)
 replace N:=N.nf
 refine Sto 1 fun w N a J=>?_
 refine zV call133 (fun a1 w o1 N a J=>?_) (c:=wE (x:=(⟨#[41]⟩:Bs)) g (by decide) rl (by omega) N)
 replace N:=N.nf
 refine go fun a J=>?_
 have Y1:=x0v l1.1 m1.1 n1.1 o1.1
 rw [<- Y1] at U0
 obtain ⟨W1,T1⟩:=U0
 refine yK fun p3 w N a J=>?_
 refine yU 3 z0o (fun k2 w N a J=>?_) (hb:=by have h_:=hch.length;rw [h_];simp only [laQ,lcQ,lnQ];omega)
 refine Sto 4 fun w N a J=>?_
 refine go fun a J=>?_
 replace N:=N.ar [2,0] [8,8,8,8,8,8,6,8,8]
 refine A1 ((f - 1)) _ _ (by subst j0;exact Nat.sub_lt W1 Nat.one_pos) ⟨(a1.1),(a1.2),(k2),((cs++[.string B0.1,.string C0.1])),(l++[⟨B0.1,C0.1⟩]),(f - 1),rfl,⟨J.pk,by exact N⟩,?_⟩
 exact ⟨Chunks.snoc (R:=RParam V) (k:=2) (x:=(⟨B0.1,C0.1⟩:Param)) rfl rfl hch,by simp only [laQ,lcQ,lnQ];omega,T1⟩
 refine go fun a J=>?_
 have r0:=G0.fin (.inr (decide_eq_false f0))
 have d:=N
 clear N
 obtain ⟨D1,t,N,u0⟩:=d.freezeRow (i:=1) rfl
 clear d
 replace rl:=rl.up t
 replace h1:=h1.mono fun _ _ h=>h.up t
 replace h2:=h2.mono fun _ _ h=>RParam.mono _ _ _ _ t h
 replace q:=q.mono fun _ _ h=>h.up t
 replace hch:=hch.mono fun _ _ h=>RParam.mono _ _ _ _ t h
 replace N:=N.nf
 have A:SliceOf RParam D1 2 _ (l):=⟨_,u0,hch⟩
 obtain ⟨a2,c167,D,y2,E2⟩:=A.form (by decide)
 have e:=N
 clear N
 subst D
 have N:=e
 clear e
 refine zV call133 (fun w3 w p1 N a J=>?_) (c:=wE (x:=(⟨#[58]⟩:Bs)) g (by decide) rl (by omega) N)
 replace N:=N.nf
 refine zV call132 (fun b1 w q1 N a J=>?_) (c:=aJ (k:=99) false g rfl rl (by omega) N)
 replace N:=N.nf
 refine Sto 1 fun w N a J=>?_
 refine zV call133 (fun x3 w r1 N a J=>?_) (c:=wE (x:=(⟨#[61]⟩:Bs)) g (by decide) rl (by omega) N)
 replace N:=N.nf
 refine zV call135 (fun n2 w s1 N a J=>?_) (c:=dY hE rl (by omega) N)
 obtain ⟨E1,U2,L,W0⟩:=n2
 obtain ⟨n,b0,s0,I0⟩:=s1
 simp only at n b0 s0 I0 N J
 replace rl:=rl.up n
 replace h1:=h1.mono fun _ _ h=>h.up n
 replace h2:=h2.mono fun _ _ h=>RParam.mono _ _ _ _ n h
 replace q:=q.mono fun _ _ h=>h.up n
 replace hch:=hch.mono fun _ _ h=>RParam.mono _ _ _ _ n h
 replace A:=A.up n
 replace N:=N.nf
 obtain ⟨c2,J1,d2,K1,rfl,w2,W2,X2,z2,F2,A2,G2⟩:=REx.fm b0
 refine Sto 1 fun w N a J=>?_
 refine yK fun q3 w N a J=>?_
 refine yU 7 rt_24 (fun v212 w N a J=>?_) (hb:=by have h_:=q.length;rw [h_];simp only [laQ,lcQ,lnQ];omega)
 refine Sto 4 fun w N a J=>?_
 refine go fun a J=>?_
 refine st0 J rfl rfl (qF 3 (cs:=[.slice none 0 0,.slice none 0 0,.slice none 0 0,.slice none 0 0]) (vs:=[v1,v2,v212,v4]) J N rfl rfl rfl rfl sizeOf27 rfl (qE (N.toSees.gsOne (i:=5) rfl) (qE (N.toSees.gsOne (i:=6) rfl) (qE (N.toSees.gsOne (i:=7) rfl) (qE (N.toSees.gsOne (i:=8) rfl) rfl)))) rfl fun w N a J=>?_)
 replace N:=N.nf
 refine go fun a J=>?_
 have s:=N
 replace N:=N.dl [4,3,2,0]
 refine qI (N:=s) ?_
 exact ⟨(E1,(v1,v2,v212,v4),(P,S,(T++[.string p.1,.slice a2 (l).length c167,.string b1.1,.int .i64 (L.kind),.int .i64 (L.num),.string L.name,.slice c2 L.args.length J1,.slice d2 L.arms.length K1])),{ c with funs:=c.funs++[⟨p.1,l,b1.1,L⟩] },(W0.1,W0.2)),rfl,⟨(t).trans n,h1,h2,(q.snoc (k:=8) rfl ⟨_,_,rfl,A,b0⟩),q0j h7 h0 W n0.1 r0 p1.1 q1.1 r1.1 s0⟩,N⟩
 refine go fun a J=>?_
 have r0:=G0.fin (.inl rfl)
 have d:=N
 clear N
 obtain ⟨F1,v,N,w0⟩:=d.freezeRow (i:=0) rfl
 clear d
 replace rl:=rl.up v
 replace h1:=h1.mono fun _ _ h=>h.up v
 replace h2:=h2.mono fun _ _ h=>RParam.mono _ _ _ _ v h
 replace q:=q.mono fun _ _ h=>h.up v
 replace hch:=hch.mono fun _ _ h=>RParam.mono _ _ _ _ v h
 replace N:=N.nf
 have B:SliceOf RParam F1 2 _ (l):=⟨_,w0,hch⟩
 obtain ⟨e2,L1,D,B2,H2⟩:=B.form (by decide)
 have e:=N
 clear N
 subst D
 have N:=e
 clear e
 replace N:=N.pl 1
 refine zV call133 (fun y3 w t1 N a J=>?_) (c:=wE (x:=(⟨#[58]⟩:Bs)) g (by decide) rl (by omega) N)
 replace N:=N.nf
 refine zV call132 (fun c1 w u1 N a J=>?_) (c:=aJ (k:=99) false g rfl rl (by omega) N)
 replace N:=N.nf
 refine Sto 1 fun w N a J=>?_
 refine zV call133 (fun z3 w w1 N a J=>?_) (c:=wE (x:=(⟨#[61]⟩:Bs)) g (by decide) rl (by omega) N)
 replace N:=N.nf
 refine zV call135 (fun o2 w x1 N a J=>?_) (c:=dY hE rl (by omega) N)
 obtain ⟨G1,V2,M,X0⟩:=o2
 obtain ⟨o,c0,t0,J0⟩:=x1
 simp only at o c0 t0 J0 N J
 replace rl:=rl.up o
 replace h1:=h1.mono fun _ _ h=>h.up o
 replace h2:=h2.mono fun _ _ h=>RParam.mono _ _ _ _ o h
 replace q:=q.mono fun _ _ h=>h.up o
 replace B:=B.up o
 replace N:=N.nf
 obtain ⟨g2,M1,i2,N1,rfl,x2,Y2,Z2,C2,I2,D2,J2⟩:=REx.fm c0
 refine Sto 1 fun w N a J=>?_
 refine yK fun r3 w N a J=>?_
 refine yU 7 rt_24 (fun Y0 w N a J=>?_) (hb:=by have h_:=q.length;rw [h_];simp only [laQ,lcQ,lnQ];omega)
 refine Sto 4 fun w N a J=>?_
 refine go fun a J=>?_
 refine st0 J rfl rfl (qF 3 (cs:=[.slice none 0 0,.slice none 0 0,.slice none 0 0,.slice none 0 0]) (vs:=[v1,v2,Y0,v4]) J N rfl rfl rfl rfl sizeOf27 rfl (qE (N.toSees.gsOne (i:=5) rfl) (qE (N.toSees.gsOne (i:=6) rfl) (qE (N.toSees.gsOne (i:=7) rfl) (qE (N.toSees.gsOne (i:=8) rfl) rfl)))) rfl fun w N a J=>?_)
 replace N:=N.nf
 refine go fun a J=>?_
 have s:=N
 replace N:=N.dl [4,3,2,0]
 refine qI (N:=s) ?_
 exact ⟨(G1,(v1,v2,Y0,v4),(P,S,(T++[.string p.1,.slice e2 (l).length L1,.string c1.1,.int .i64 (M.kind),.int .i64 (M.num),.string M.name,.slice g2 M.args.length M1,.slice i2 M.arms.length N1])),{ c with funs:=c.funs++[⟨p.1,l,c1.1,M⟩] },(X0.1,X0.2)),rfl,⟨(v).trans o,h1,h2,(q.snoc (k:=8) rfl ⟨_,_,rfl,B,c0⟩),q0j h7 h0 W n0.1 r0 t1.1 u1.1 w1.1 t0⟩,N⟩
 refine go fun a J=>?_
 by_cases l0:(zB ws i)=(⟨#[111,117,116,112,117,116]⟩:Bs)
 have X:=xY l0 (by decide)
 refine Sto 0 fun w N a J=>?_
 refine Reg [1,2,1,0,0,0,1,0] [1,2,3,4,5] fun w N a J=>?_
 refine zV call132 (fun D0 w y1 N a J=>?_) (c:=aJ (k:=118) true g rfl rl (by omega) N)
 replace N:=N.nf
 refine yK fun s3 w N a J=>?_
 refine yU 7 vA (fun Z0 w N a J=>?_) (hb:=by rw [zZ];simp only [lcQ,lnQ];omega)
 first | rw [qM] at N | rw [<- yE] at N
 refine Sto 3 fun w N a J=>?_
 refine go fun a J=>?_
 refine st0 J rfl rfl (qF 2 (cs:=[.slice none 0 0,.slice none 0 0,.slice none 0 0,.slice none 0 0]) (vs:=[v1,v2,v3,Z0]) J N rfl rfl rfl rfl sizeOf27 rfl (qE (N.toSees.gsOne (i:=4) rfl) (qE (N.toSees.gsOne (i:=5) rfl) (qE (N.toSees.gsOne (i:=6) rfl) (qE (N.toSees.gsOne (i:=7) rfl) rfl)))) rfl fun w N a J=>?_)
 replace N:=N.nf
 refine go fun a J=>?_
 have s:=N
 replace N:=N.dl [3,2,0]
 refine qI (N:=s) ?_
 exact ⟨(V,(v1,v2,v3,Z0),(P,S,T),{ c with outputs:=c.outputs++[D0.1] },(D0.2.1,D0.2.2)),rfl,⟨Fz.Le.refl _,h1,h2,q,j8s h7 h0 W l0 y1.1⟩,N⟩
 refine Sto 0 fun w N a J=>?_
 refine go fun a J=>?_
 refine st0 J rfl rfl (qF 1 (cs:=[.slice none 0 0,.slice none 0 0,.slice none 0 0,.slice none 0 0]) (vs:=[v1,v2,v3,v4]) J N rfl rfl rfl rfl sizeOf27 rfl (qE (N.toSees.gsOne (i:=3) rfl) (qE (N.toSees.gsOne (i:=4) rfl) (qE (N.toSees.gsOne (i:=5) rfl) (qE (N.toSees.gsOne (i:=6) rfl) rfl)))) rfl fun w N a J=>?_)
 replace N:=N.nf
 refine go fun a J=>?_
 have s:=N
 replace N:=N.dl [2,1]
 refine qI (N:=s) ?_
 exact ⟨(V,(v1,v2,v3,v4),(P,S,T),c,(i,true)),rfl,⟨Fz.Le.refl _,h1,h2,q,x3c h7 h0 W l0⟩,N⟩
theorem cG:∀{l:List Data} {n:Bs} {d:Data},wA l n=some d->d∈l/\d.name=n
 | [],_,_,h=>by cases h
 | e::l,n,d,h=>by
  simp only [wA] at h
  split at h
  ·rename_i g;cases h;exact ⟨msQ,g⟩
  ·have:=cG h;exact ⟨mcQ _ this.1,this.2⟩
theorem z9v {l:List Data} {n:Bs} (h:n∉l.map Data.name):wA l n=none:=by
 cases g:wA l n with
 | none=>rfl
 | some d=>obtain ⟨h1,h2⟩:=cG g;exact absurd (h2▸List.mem_map_of_mem h1) h
theorem q0h (ds:List Data) (n:Bs):qV ds n=wA (truthsD::ds) n:=by rw [<- z3z,z3y]
theorem y0d:∀{l:List Data} {n:Bs} {m:Maker},mM l n=some m->∃d∈l,d.name=m.data/\sC d.cons n=some m.con
 | [],_,_,h=>by cases h
 | e::l,n,m,h=>by
  simp only [mM] at h
  cases a:sC e.cons n with
  | some x=>rw [a] at h;cases h;exact ⟨e,msQ,rfl,a⟩
  | none=>rw [a] at h;obtain ⟨d,b,g⟩:=y0d h;exact ⟨d,mcQ _ b,g⟩
theorem y4v (name:Bs):∀(l:List Con) (ok:Bool),dZ name l ok=(ok && !mI name l)
 | [],ok=>by simp [dZ,mI]
 | x::l,ok=>by
  simp only [dZ,y4v name l,mI,List.any_cons,Bool.not_or,<- Bool.and_assoc];rfl
theorem sF (name:Bs):∀(l:List Data) (n:Int) (ok:Bool),(l.map Data.name).Nodup->mY name l n ok=match wA l name with | none=>(n,ok) | some d=>(IntKind.i64.wrap (n+1),ok && !mI name d.cons)
 | [],n,ok,_=>rfl
 | d::l,n,ok,a=>by
  simp only [List.map_cons,List.nodup_cons] at a
  simp only [mY,wA]
  by_cases h:d.name=name
  ·rw [if_pos h,if_pos h,sF name l _ _ a.2,z9v (by rw [<- h];exact a.1),y4v]
  ·rw [if_neg h,if_neg h,sF name l _ _ a.2]
theorem q8f (name:Bs):∀(l:List Data),(l.map Data.name).Nodup->(wL name l,kH name l)=match wA l name with | none=>(false,0) | some d=>(mI name d.cons,1)
 | [],_=>rfl
 | d::l,b=>by
  simp only [List.map_cons,List.nodup_cons] at b
  have a:=q8f name l b.2
  simp only [wL,kH,wA] at a ⊢
  by_cases h:d.name=name
  ·rw [z9v (by rw [<- h];exact b.1)] at a
   simp only [Prod.mk.injEq] at a
   simp only [List.any_cons,List.filter_cons,h,decide_true,Bool.true_and,if_true,a.1,Bool.or_false,lcQ,a.2]
  ·simp only [List.any_cons,List.filter_cons,h,decide_false,Bool.false_and,Bool.false_or,Bool.false_eq_true,if_false]
   exact a
theorem uD {ds:List Data} (b:(ds.map Data.name).Nodup) (c:∀d∈ds,d.name≠wG) (name:Bs):xE ds name=xD ds name:=by
 unfold xE xD
 by_cases h:name=yL
 ·rw [if_pos h,if_pos h]
 ·rw [if_neg h,if_neg h]
  have h1:=q8f name ds b
  rw [sF name ds 0 true b]
  cases a:wA ds name with
  | none=>
   rw [a] at h1;simp only [Prod.mk.injEq] at h1
   rw [h1.2];simp
  | some d=>
   rw [a] at h1;simp only [Prod.mk.injEq] at h1
   obtain ⟨e,f⟩:=cG a
   have:name≠wG:=f▸c d e
   rw [h1.1,h1.2]
   simp only [this,decide_false,Bool.not_false,Bool.and_true,decide_true,Bool.true_and]
   rw [show IntKind.i64.wrap (0+1)=1 by decide];simp
structure Decl (c:Core):Prop where
 tab:Tabled c
 fd:∀d∈c.datas,∀x∈d.cons,∀f∈x.fields,jP c.datas f=true
 it:∀p∈c.inputs,xE c.datas p.type=true
 fp:∀f∈c.funs,(∀p∈f.params,jP c.datas p.type=true)/\jP c.datas f.result=true
theorem q0i {c:Core} (h:Tabled c) {t:Bs} {d:Data} (g:qV c.datas t=some d):t≠sNo:=by
 rintro rfl
 rw [q0h] at g
 obtain ⟨h1,h2⟩:=cG g
 rcases List.mem_cons.1 h1 with rfl | h1
 ·revert h2;decide
 ·have:=(h.dN d h1).1;rw [h2,q7u] at this;cases this
theorem z7d {c:Core} (h:Tabled c) {t:Bs} (g:jP c.datas t=true):t≠sNo:=by
 simp only [jP,Bool.or_eq_true,decide_eq_true_eq] at g
 rcases g with g | g
 ·cases a:qV c.datas t with
  | none=>rw [a] at g;cases g
  | some d=>exact q0i h a
 ·rw [g];decide
theorem q1e {c:Core} (h:Tabled c) (n:Bs):pP (zN c) n=jP c.datas n:=by
 unfold pP jP
 rw [(uZ (z8y h)).2.1,z3z]
theorem fit_of {c:Core} (h:Decl c):Fit (zN c) c:=by
 obtain ⟨_,p,t2,t3,t4⟩:=uZ (z8y h.tab)
 have a:∀n,zW (zN c).datas n=qV c.datas n:=fun n=>by rw [p,z3z]
 have k:∀n,zW (zN c).cons n=nC c.datas n:=fun n=>by rw [t2,y0c];rfl
 have b:∀d∈truthsD::c.datas,d.name≠sNo/\0 < d.cons.length/\∀x∈d.cons,∀f∈x.fields,f≠sNo:=fun d a=>by
  rcases List.mem_cons.1 a with rfl | a
  ·refine ⟨by decide,by decide,fun x i f j=>?_⟩
   simp only [truthsD,List.mem_cons,List.not_mem_nil,or_false] at i
   rcases i with rfl | rfl <;> cases j
  ·refine ⟨fun e=>?_,(h.tab.dN d a).2.2.2.1,fun x i f j=>z7d h.tab (h.fd d a x i f j)⟩
   have:=(h.tab.dN d a).1;rw [e,q7u] at this;cases this
 refine ⟨a,k,fun n=>by rw [t3];exact (j9r c.funs n).symm,fun n=>by rw [t4,q7s],?_,fun n d g=>?_,fun n m g=>?_,fun n f g=>?_,fun n t g=>?_⟩
 ·rw [a]
  cases g:qV c.datas sNo with
  | none=>rfl
  | some d=>exact absurd rfl (q0i h.tab g)
 ·rw [a,q0h] at g;exact (b d (cG g).1).2
 ·rw [k] at g
  obtain ⟨d,a,e,_⟩:=y0d g
  rw [<- e];exact (b d a).1
 ·rw [t3] at g
  obtain ⟨x,i,_,rfl⟩:=tB g
  exact z7d h.tab (h.fp x i).2
 ·rw [t4] at g
  obtain ⟨x,i,_,rfl⟩:=tB g
  have:=h.it x i
  rw [uD h.tab.dU (fun d a=>(h.tab.dN d a).2.2.1)] at this
  unfold xD at this
  split at this
  ·rename_i e;rw [e];decide
  ·rw [sF _ _ _ _ h.tab.dU] at this
   cases a:wA c.datas x.type with
   | none=>rw [a] at this;simp at this
   | some d=>
    obtain ⟨l,o⟩:=cG a
    rw [<- o];exact (b d (mcQ _ l)).1
theorem q1t:xT=yT:=funext kQ
theorem apartR_iff {l:List Bs}:cB l=true↔l.Nodup/\∀n∈l,yT n=true:=by
 unfold cB
 rw [q1t]
 exact ⟨fun h=>⟨(mH h).1,(mH h).2.2⟩,fun h=>y9q h.1 (fun n _ N=>by cases N) h.2⟩
theorem z2i (l:List Bs):cB l=pK yT [] l:=by unfold cB;rw [q1t]
theorem declR {c:Core} (h:vT c=true):Decl c:=by
 simp only [vT,baQ,decide_eq_true_eq,List.all_eq_true,kN] at h
 obtain ⟨⟨⟨⟨⟨⟨⟨⟨h1,h2⟩,m⟩,n⟩,j⟩,o⟩,u⟩,v⟩,w⟩:=h
 obtain ⟨d1,d2,d3⟩:=(z4a c.datas).1 h1
 obtain ⟨q,i2⟩:=apartR_iff.1 n
 obtain ⟨k,l⟩:=apartR_iff.1 o
 refine ⟨{ dN:=fun d b=>?_,dU:=d2,cU:=d3,fN:=fun f a=>l _ (List.mem_map_of_mem a),fU:=k,iN:=fun p e=>i2 _ (List.mem_map_of_mem e),iU:=q },fun d b x g f a=>?_,m,fun f a=>⟨fun p e=>(j f a).1.1 p e,(j f a).1.2⟩⟩
 ·obtain ⟨r,i,s,t⟩:=d1 d b
  simp only [List.mem_cons,List.not_mem_nil,or_false,not_or] at i
  refine ⟨r,i.1,i.2,s,fun x g=>?_⟩
  obtain ⟨m1,m2,_⟩:=t x g
  simp only [List.mem_cons,List.not_mem_nil,or_false,not_or] at m2
  exact ⟨m1,m2⟩
 ·exact List.all_eq_true.1 ((d1 d b).2.2.2 x g).2.2 f a
theorem declP {c:Core} (h:jA c=true):Decl c:=by
 simp only [jA,baQ,decide_eq_true_eq,List.all_eq_true,aF,dF] at h
 obtain ⟨⟨⟨⟨⟨h1,h2⟩,j⟩,k⟩,i⟩,m⟩:=h
 have b:=(uZ h1).1
 have J:=q1e b
 refine ⟨b,fun d e x l f a=>J f▸j d e x l f a,fun p g=>?_,fun f a=>⟨fun p g=>J p.type▸(i f a).1.1.1 p g,J f.result▸(i f a).1.1.2⟩⟩
 rw [uD b.dU (fun d e=>(b.dN d e).2.2.1)]
 exact k p g
theorem y5u {T:Table}:∀{os seen:List Bs},nF T seen os=true↔os.Nodup/\(∀o∈os,o∉seen)/\∀o∈os,∃f,zW T.funs o=some f/\f.params.length=0
 | [],seen=>by simp [nF]
 | o::os,seen=>by
  simp only [nF]
  cases d:zW T.funs o with
  | none=>exact ⟨fun g=>(by cases g),fun g=>by obtain ⟨f,h1,_⟩:=g.2.2 o msQ;rw [d] at h1;cases h1⟩
  | some f=>
   simp only [baQ,decide_eq_true_eq,y5u (os:=os),Bool.not_eq_true',List.nodup_cons]
   have O:has seen o=false↔o∉seen:=by rw [<- has_mem (l:=seen)];simp
   rw [O]
   constructor
   ·rintro ⟨⟨h1,h2⟩,c,b,h⟩
    refine ⟨⟨fun N=>b o N (by simp),c⟩,fun p a=>?_,fun p a=>?_⟩
    ·rcases List.mem_cons.1 a with rfl | a
     ·exact h2
     ·exact fun g=>b p a (by simp [g])
    ·rcases List.mem_cons.1 a with rfl | a
     ·exact ⟨f,d,h1⟩
     ·exact h p a
   ·rintro ⟨⟨h1,h2⟩,c,b⟩
    obtain ⟨f',e,i⟩:=b o msQ
    rw [d] at e;cases e
    refine ⟨⟨i,c o msQ⟩,h2,fun p a N=>?_,fun p a=>b p (mcQ _ a)⟩
    rcases List.mem_append.1 N with g | g
    ·exact c p (mcQ _ a) g
    ·simp only [List.mem_cons,List.not_mem_nil,or_false] at g;subst g;exact h1 a
theorem y7p:∀(ps:List Param),jI (ps.map Param.name) (ps.map Param.type)=ps
 | []=>rfl
 | p::ps=>by
  have:=y7p ps
  simp only [jI] at this ⊢
  simp only [List.map_cons,List.zip_cons_cons];rw [this]
theorem j3n {c:Core} (h:Tabled c) {ps:List Param} (a:∀p∈ps,jP c.datas p.type=true):Rel (z4x ps) ps:=by
 have b:Rel [] []:=⟨fun n=>rfl,fun p a=>by cases a⟩
 have:=b.putAll (vs:=ps.map Param.name) (fs:=ps.map Param.type) (fun f d=>by
  obtain ⟨p,N,rfl⟩:=List.mem_map.1 d
  exact z7d h (a p N))
 rw [y7p,List.nil_append,<- q2h] at this
 exact this
theorem q0z {c:Core} (h:Decl c) {ps:List Param} {e:Ex} (d:∀p∈ps,jP c.datas p.type=true) (a:(ps.map Param.name++yH e).Nodup):Alk (zH (zN c) e (z4x ps)).1 (zQ c e ps):=by
 have ha':=jH a
 refine rt_ok (fit_of h) (e.sz+1) e (by omega) _ _ (j3n h.tab d) ha'.2.1 (fun n b=>?_)
 rw [q2h,uP (fun N=>ha'.2.2 n N b)];rfl
theorem q8o {c:Core} (h:Decl c) {o:Bs}:y1e c.funs o=true↔∃f,zW (zN c).funs o=some f/\f.params.length=0:=by
 rw [(fit_of h).fs]
 unfold y1e
 cases gK c.funs o with
 | none=>simp
 | some i=>
  cases a:c.funs[i]? with
  | none=>simp [a]
  | some f=>simp [a]
theorem x6p (c:Core):vT c=jA c:=by
 have key:Decl c->(vT c=true↔jA c=true):=fun h=>by
  have v:=z8y h.tab
  have J:=q1e h.tab
  have A:z2j c.datas=true:=by
   refine (z4a c.datas).2 ⟨fun d j=>?_,h.tab.dU,h.tab.cU⟩
   obtain ⟨B,C,D,E,w⟩:=h.tab.dN d j
   refine ⟨B,by simp [C,D],E,fun x i=>⟨(w x i).1,by simp [(w x i).2],List.all_eq_true.2 (h.fd d j x i)⟩⟩
  simp only [vT,jA,baQ,decide_eq_true_eq,List.all_eq_true,kN,aF,dF,v,A,true_and,J,mA,z2i,y5u]
  constructor
  ·rintro ⟨⟨⟨⟨⟨⟨⟨h2,r⟩,y⟩,b⟩,s⟩,t⟩,k⟩,z⟩
   refine ⟨⟨⟨⟨fun e=>h2 (by rw [e];rfl),fun d j x i f a=>h.fd d j x i f a⟩,fun p m=>?_⟩,fun f a=>⟨(b f a),?_⟩⟩,(mH t).1,fun o _ N=>(by cases N),fun o q=>(q8o h).1 (z o q)⟩
   ·rw [<- uD h.tab.dU (fun d j=>(h.tab.dN d j).2.2.1)];exact r p m
   ·have:=(q0z h (b f a).1.1 (mH (b f a).2).1).1 (k f a).1
    rw [this.1];exact (k f a).2
  ·rintro ⟨⟨⟨⟨h2,r⟩,y⟩,b⟩,s,t,k⟩
   refine ⟨⟨⟨⟨⟨⟨⟨fun e=>h2 (List.eq_nil_of_length_eq_zero e),h.it⟩,?_⟩,fun f a=>(b f a).1⟩,?_⟩,?_⟩,fun f a=>?_⟩,fun o q=>(q8o h).2 (k o q)⟩
   ·rw [<- z2i];exact apartR_iff.2 ⟨h.tab.iU,fun n l=>by obtain ⟨p,m,rfl⟩:=List.mem_map.1 l;exact h.tab.iN p m⟩
   ·rw [<- z2i];exact apartR_iff.2 ⟨h.tab.fU,fun n l=>by obtain ⟨p,m,rfl⟩:=List.mem_map.1 l;exact h.tab.fN p m⟩
   ·rw [<- z2i];refine apartR_iff.2 ⟨s,fun n l=>?_⟩
    obtain ⟨f,a,_⟩:=k n l
    rw [(uZ v).2.2.2.1] at a
    obtain ⟨x,i,e,_⟩:=tB a
    rw [<- e];exact h.tab.fN x i
   ·have u:=q0z h (b f a).1.1.1 (mH (b f a).1.2).1
    have hr:=z7d h.tab (h.fp f a).2
    have e:=(b f a).2
    cases g:(zQ c f.body f.params).2 with
    | true=>exact ⟨rfl,by rw [<- (u.1 g).1];exact e⟩
    | false=>rw [u.2 g] at e;exact absurd e.symm hr
 cases h1:vT c with
 | true=>exact ((key (declR h1)).1 h1).symm
 | false=>
  cases h2:jA c with
  | true=>rw [(key (declP h2)).2 h2] at h1;cases h1
  | false=>rfl
theorem y2o (c:Core):mO c=qL c:=by unfold mO qL;rw [q8d,x6p]
end Go.Sw
