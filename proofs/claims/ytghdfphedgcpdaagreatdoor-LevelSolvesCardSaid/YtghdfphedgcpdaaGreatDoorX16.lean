import Derived.Test.YtghdfphedgcpdaaGreatDoorX15
set_option linter.unusedVariables false
set_option linter.unusedSimpArgs false
namespace Go.Sw
open Go.Proofs Go.Proofs.Tryz
set_option maxRecDepth 20000
set_option maxHeartbeats 4000000
section
variable {n r:Nat} {es:Edges} {l:List Nat} {o:List Int}
theorem y1c:∀(g r:Nat) (o:List Int),(nL es g r o).length=o.length
 | 0,_,_=>rfl
 | g+1,r,o=>by
  simp only [nL];split
  rw [y1c g (r+1),z0h]
  rw [z0h]
theorem y1e:(aX n es l).length=n:=by rw [aX,y1c,z5l]
end
def oD (ns:List Bs) (o:List Int) (i:Nat):List Bs:=(List.range i).filterMap fun k=>if 0<=o.getD k 0 then ns[k]? else none
section
variable {ns:List Bs} {o:List Int} {i:Nat} {x:Int} {s:Bs}
theorem x8q (a:o[i]? = some x) (h:0<=x) (O:ns[i]? = some s):oD ns o (i+1)=oD ns o i++[s]:=by
 rw [oD,List.range_succ,List.filterMap_append,oD]
 simp only [List.filterMap_cons,z3c a,h,if_true,O,List.filterMap_nil]
theorem pick_no (a:o[i]? = some x) (h:¬0<=x):oD ns o (i+1)=oD ns o i:=by
 rw [oD,List.range_succ,List.filterMap_append,oD]
 simp only [List.filterMap_cons,z3c a,h,if_false,List.filterMap_nil,List.append_nil]
theorem x8p:(oD ns o i).length<=i:=by
 have:=List.length_filterMap_le (fun k=>if 0<=o.getD k 0 then ns[k]? else none) (List.range i)
 rw [List.length_range] at this;exact this
theorem y0y {p:Bs->Bool} (h:∀(i:Nat) s,ns[i]? = some s->(0<=o.getD i 0↔p s=true)):∀i,i<=ns.length->oD ns o i=(ns.take i).filter p
 | 0,_=>rfl
 | i+1,d=>by
  obtain ⟨s,O⟩:=yG (l:=ns) (i:=i) (by omega)
  rw [oD,List.range_succ,List.filterMap_append,jB O,List.filter_append,<- y0y h i (by omega),oD]
  congr 1
  by_cases a:p s=true
  simp only [List.filterMap_cons,(h i s O).2 a,if_true,O,List.filterMap_nil,List.filter_cons,a,List.filter_nil]
  have c:¬0<=o.getD i 0:=fun b=>a ((h i s O).1 b)
  simp only [List.filterMap_cons,c,if_false,List.filterMap_nil,List.filter_cons,a,List.filter_nil];simp
end
def y7h (g:GrD) (l:List Nat):List Bs:=oD g.nodes (aX g.nodes.length (g.fr.zip g.to) l) g.nodes.length
theorem q9x {Φ:Fz} {K:List Res} {w:World} {dg:List Value} {b:GrD} {vf:Value} {l:List Nat} (rg:RGr Φ dg b) (rf:SliceOf RNat Φ 1 vf l) (hl:∀x∈l,x < b.nodes.length) (B:b.fr.length=b.to.length) (A:∀x∈b.fr,x < b.nodes.length) (E:∀x∈b.to,x < b.nodes.length) (hN:b.nodes.length<=1000000000) (N:Mem Φ K w) :
  Calls prog 45 #[.agg dg.toArray,vf] w (fun ee w'=>∃v:Value,ee=.returned v/\True/\Mem Φ (.gs v 9 1 (strs (y7h b l))::K) w'):=by
 have t:=rg
 obtain ⟨s1,s7,k0,rfl,H,h8,z⟩:=id rg
 obtain ⟨p3,c4,rfl,f0,D⟩:=H.fm
 obtain ⟨p9,Y,rfl,P,T⟩:=h8.fm
 obtain ⟨g0,Z,rfl,S,U⟩:=z.fm
 obtain ⟨h0,c20,rfl,C,V⟩:=rf.fm
 refine zL func45 ntmps45 fun Q hQ a J=>?_
 refine Bx fun X w N a J=>?_
 refine yU call52 (fun m0 w I N a J=>?_) (c:=x2b t rf hl B A E hN N)
 obtain ⟨i0,a0,rfl⟩:=z3d (m:=b.nodes.length) N (i:=0) rfl (by rw [aB,y1e,Nat.mul_one]) (by decide)
 replace N:=N.nf
 refine go fun a J=>?_
 replace N:=N.nilRow 9 1
 replace N:=N.nf
 refine go fun a J=>?_
 refine zT (J.ks [2,5]) N (fun R mm a w=>∃(d:Nat) (u:Value) (m:List Bs),mm=b.nodes.length - d/\R Φ [(6,u),(7,.int .i64 d)] [(0,.gs (u) 9 1 (strs m))] a w/\(m=oD b.nodes (aX b.nodes.length (b.fr.zip b.to) l) d/\d<=b.nodes.length)) (b.nodes.length - 0) ⟨0,.slice none 0 0,[],rfl,⟨J.pk,N⟩,⟨rfl,Nat.zero_le _⟩⟩ ?_
 clear N J
 rintro mm a w ⟨d,u,m,q,⟨J,N⟩,n⟩ W g
 replace N:=N.nf
 obtain ⟨f,e0⟩:=n
 by_cases j:d < b.nodes.length
 refine go fun a J=>?_
 obtain ⟨F,h⟩:=N.toSees.gsSome (i:=1) rfl j
 obtain ⟨G,e⟩:=yG (l:=(aX b.nodes.length (b.fr.zip b.to) l)) (i:=d) (by rw [y1e];omega)
 refine Qq (fun a J=>?_) (o:=by exact fun J O=>qO (p:=F) d J (by rw [<- h];rfl) rfl runUnderlying84 sizeOf3 j)
 refine Qq (fun a J=>?_) (o:=by exact fun J O=>wW 1 d J O rfl (by rw [<- h];rfl) (y5j e) isAgg3)
 by_cases b0:0<=G
 refine go fun a J=>?_
 obtain ⟨j0,rfl,y,s,k,M,L,r⟩:=H.el D j
 obtain rfl:k=[.string y]:=r
 refine jQ fun l0 w N a J=>?_
 refine vH 1 xP (fun v53 w N a J=>?_) (hb:=by have h_:=x8p (ns:=b.nodes) (o:=(aX b.nodes.length (b.fr.zip b.to) l)) (i:=d);rw [<- f] at h_;rw [zR];simp only [lcQ,lnQ];omega)
 rw [oM] at N
 refine go fun a J=>?_
 replace N:=N.dl [0]
 refine g _ _ _ (by subst q;omega) ⟨(d+1),(v53),((m++[y])),rfl,⟨J.pk,N⟩,?_⟩
 exact ⟨by rw [f,x8q e (by assumption) s],by omega⟩
 refine go fun a J=>?_
 refine g _ _ _ (by subst q;omega) ⟨(d+1),(u),(m),rfl,⟨J.pk,N⟩,?_⟩
 exact ⟨by rw [f,pick_no e (by assumption)],by omega⟩
 refine zC ?_
 replace N:=N.dl [2,1]
 rw [f,show d=b.nodes.length by omega] at N;exact ⟨_,rfl,trivial,N⟩
section
variable {c:Core} {l:List Bs}
theorem q4c (h:GOk (zG c) (zY c)):(qW c).fr.length=(qW c).to.length/\(∀x∈(qW c).fr,x < (qW c).nodes.length)/\∀x∈(qW c).to,x < (qW c).nodes.length:=by
 refine ⟨by simp [qW],fun x b=>?_,fun x b=>?_⟩
 obtain ⟨f,a,rfl⟩:=List.mem_map.1 b;exact cO (h.ends f.1 f.2 a).1
 obtain ⟨f,a,rfl⟩:=List.mem_map.1 b;exact cO (h.ends f.1 f.2 a).2
theorem q9t (h:GOk (zG c) (zY c)):List.range c.inputs.length=(yA c).map (yW (zG c)):=by
 apply List.ext_getElem?;intro i
 rw [List.getElem?_map,yA,List.getElem?_map]
 by_cases a:i < c.inputs.length
 obtain ⟨p,b⟩:=yG a
 rw [List.getElem?_range a,b]
 simp only [Option.map_some]
 rw [cN h.nd (y0v b)]
 rw [List.getElem?_eq_none (by rw [List.length_range];omega),List.getElem?_eq_none (l:=c.inputs) (by omega)];rfl
theorem y7i (h:GOk (zG c) (zY c)) (hl:∀r∈l,r∈zG c):y7h (qW c) (l.map (yW (zG c)))=xQ (zG c) (yZ (qR (zY c)) l):=by
 show oD (zG c) (aX (zG c).length ((qW c).fr.zip (qW c).to) _) (zG c).length=_
 rw [q4b,y0y (p:=fun n=>(zK (yZ (qR (zY c)) l) n).isSome) (fun i s O=>?_) _ (Nat.le_refl _),List.take_length]
 rfl
 rw [j4p h hl O,<- tR]
theorem x9a (h:GOk (zG c) (zY c)) (hl:∀r∈l,r∈zG c):∀x∈l.map (yW (zG c)),x < (qW c).nodes.length:=fun x a=>by
 obtain ⟨r,hr,rfl⟩:=List.mem_map.1 a;exact cO (hl r hr)
theorem okF_all (d:Right c) (b:LOk c) (hl:xL c=false):∀f∈c.funs,okF c f.body:=fun f a=>by
 exact ⟨okR_of (z8m d a).ty,(b.fl f a).1,z5c hl a⟩
end
theorem x0z {c:Core} (h:zX c=0):xL c=false:=by
 unfold zX at h
 split at h
 cases h
 split at h
 cases h
 rename_i h1;simpa using h1
theorem y6r {c:Core} (h:zX c=0):∀f∈c.funs,okF c f.body:=okF_all (oB h) (jA h) (x0z h)
section
variable {Φ:Fz} {K:List Res} {w:World}
theorem y5i {d0:List Value} {c:Core} (b:zX c=0) (a:RCore Φ d0 c) (N:Mem Φ K w) :
  Calls prog 47 #[.agg d0.toArray] w (fun ee w'=>∃v:Value,ee=.returned v/\True/\Mem Φ (.gs v 3 1 (nats ((yA c).map (yW (zG c))))::K) w'):=by
 rw [<- q9t (jA b).gok];exact j2p a (jA b).il N
theorem q9w {dg:List Value} {a:GrD} {vf:Value} {l:List Nat} (rg:RGr Φ dg a) (hl:∀x∈l,x < a.nodes.length) (c:a.fr.length=a.to.length) (b:∀x∈a.fr,x < a.nodes.length) (d:∀x∈a.to,x < a.nodes.length) (k:a.nodes.length<=1000000000) (N:Mem Φ (.gs vf 3 1 (nats l)::K) w) :
  Calls prog 45 #[.agg dg.toArray,vf] w (fun ee w'=>∃v:Value,ee=.returned v/\True/\Mem Φ (.gs v 9 1 (strs (y7h a l))::K) w'):=by
 obtain ⟨Ψ,h1,e,f,_⟩:=N.freezeRowT (i:=0) rfl
 exact (q9x (rg.mono _ _ _ _ h1) (SliceOf.nats.2 f) hl c b d k e).mono fun ee w' h=>let ⟨v,g,_,j⟩:=h;⟨v,g,trivial,j.le h1⟩
theorem y1a {dg:List Value} {c:Core} {vf:Value} {l:List Bs} (b:zX c=0) (rg:RGr Φ dg (qW c)) (hl:∀r∈l,r∈zG c) (N:Mem Φ (.gs vf 3 1 (nats (l.map (yW (zG c))))::K) w) :
  Calls prog 45 #[.agg dg.toArray,vf] w (fun ee w'=>∃v:Value,ee=.returned v/\True/\Mem Φ (.gs v 9 1 (strs (xQ (zG c) (yZ (qR (zY c)) l)))::K) w'):=by
 have a:=(jA b).gok
 obtain ⟨d,e,f⟩:=q4c a
 rw [<- y7i a hl]
 exact q9w rg (x9a a hl) d e f (jA b).nl N
theorem q2n {d0:List Value} {c:Core} (j:RCore Φ d0 c) (o:∀v,d0[3]? = some v->Cap v) (N:Mem Φ K w) :
  Calls prog 19 #[.agg d0.toArray] w (fun ee w'=>Out (aZ c) (fun l=>∃y:Value,ee=.returned (.tuple #[y,.int .i64 0])/\True/\Mem Φ (.gs y 9 1 (strs l)::K) w') (fun e=>ee=.returned (.tuple #[.slice none 0 0,.int .i64 e])/\Mem Φ K w')):=by
 have b:=j
 obtain ⟨p3,c4,p9,P,Z,R,a0,c22,rfl,h2,h8,V,W,X,Y,t,D,u,E,z,F⟩:=RCore.fm j
 refine zL func19 ntmps19 fun Q hQ a J=>?_
 refine Bx fun M w N a J=>?_
 refine zO call44 (fun w N a J=>?_) (c:=y3q c▸z4l b o N)
 by_cases d:(zX c)=0
 refine go fun a J=>?_
 refine yN [2,0,2,0,0,1,1] (.q 0 (.q 2 (.e 1 (.e 3 (.e 4 (.q 5 (.q 6 (.done)))))))) [0] J N fun w N=>?_
 refine yU call46 (fun p w i N a J=>?_) (c:=z8n b (oB d) (jA d) (y6r d) N)
 obtain ⟨L,U⟩:=p
 obtain ⟨g,f⟩:=i
 simp only at g f N J
 replace b:=RCore.mono _ _ _ _ g b
 replace N:=N.nf
 have h:=f
 obtain ⟨f0,g0,h0,rfl,k,m,n⟩:=id f
 obtain ⟨b0,S,rfl,A,G⟩:=k.fm
 obtain ⟨c0,T,rfl,B,H⟩:=m.fm
 obtain ⟨e0,c53,rfl,C,I⟩:=n.fm
 refine yU call47 (fun i0 w r N a J=>?_) (c:=y5i d b N)
 refine yU call45 (fun j0 w s N a J=>?_) (c:=y1a (l:=(yA c)) d h (sL) N)
 refine jE ?_
 replace N:=N.dl [1]
 replace N:=N.le (g)
 rw [aZ,if_pos d];exact ⟨_,rfl,trivial,N⟩
 refine jE ?_
 replace N:=N.dl [0]
 rw [aZ,if_neg d];exact ⟨rfl,N⟩
end
section
variable {ns l:List Bs} {x s:Bs} {i j k:Nat} {c:Core}
theorem ix_neg (h:ixG x ns 0 < 0):¬x∈ns:=fun a=>by rw [z1s a] at h;omega
theorem ix_pos (h:¬ixG x ns 0 < 0):x∈ns:=Classical.byContradiction fun a=>h (by rw [j7e a];decide)
theorem nats_ix {m:List Nat} (h:x∈ns):nats m++[.int .i64 (ixG x ns 0)]=nats (m++[yW ns x]):=by rw [z1s h,Nat.zero_add,z3j]
def tE (ns:List Bs):Int->List Bs->Bool
 | _,[]=>true
 | last,x::l=>decide (last < ixG x ns 0)&&tE ns (ixG x ns 0) l
theorem j7a {last:Int} (h:l[i]? = some x):tE ns last (l.drop i)=(decide (last < ixG x ns 0)&&tE ns (ixG x ns 0) (l.drop (i+1))):=by rw [zA h];rfl
theorem q8i (b:ns.Nodup):∀{l:List Bs} {k:Nat},l.Sublist (ns.drop k)->tE ns ((k:Int) - 1) l=true
 | [],_,_=>rfl
 | x::l,k,h=>by
  obtain ⟨i,m,h1,d,e⟩:=List.cons_sublist_iff.1 h
  obtain ⟨j,a⟩:=List.getElem?_of_mem d
  have c:ns[k+j]? = some x:=by
   rw [<- List.getElem?_drop,h1,List.getElem?_append_left (List.getElem?_eq_some_iff.1 a).1];exact a
  have f:ixG x ns 0=((k+j:Nat):Int):=by rw [z1s (mgQ c),cN b c,Nat.zero_add]
  rw [tE,f,baQ]
  refine ⟨decide_eq_true (by omega),?_⟩
  have hr:m=ns.drop (k+i.length):=by rw [<- List.drop_drop,h1,List.drop_left]
  have g:=(List.getElem?_eq_some_iff.1 a).1
  have:=q8i b (l:=l) (k:=k+j+1) (e.trans (by rw [hr];exact List.drop_sublist_drop_left _ (by omega)))
  rw [show (((k+j+1:Nat):Int) - 1)=((k+j:Nat):Int) by omega] at this
  exact this
theorem q8h (i:ns.Nodup):∀{l:List Bs} {k:Nat},tE ns ((k:Int) - 1) l=true->(∀s∈l,s∈ns.drop k)/\(ns.drop k).filter (fun n=>decide (n∈l))=l
 | [],k,_=>⟨by simp,by simp⟩
 | x::l,k,h=>by
  rw [tE,baQ] at h
  obtain ⟨h1,b⟩:=h
  have h1:=of_decide_eq_true h1
  have j:x∈ns:=Classical.byContradiction fun c=>by rw [j7e c] at h1;omega
  have p:=vI j
  rw [z1s j,Nat.zero_add] at h1 b
  rw [show ((yW ns x:Nat):Int)=((yW ns x+1:Nat):Int) - 1 by omega] at b
  obtain ⟨f,g⟩:=q8h i b
  have q:k<=yW ns x:=by omega
  have e:ns.drop k=(ns.drop k).take (yW ns x - k)++x::ns.drop (yW ns x+1):=by
   have o:(ns.drop k).drop (yW ns x - k)=x::ns.drop (yW ns x+1):=by rw [List.drop_drop,show k+(yW ns x - k)=yW ns x by omega,zA p]
   rw [<- o,List.take_append_drop]
  have d:((ns.drop k).take (yW ns x - k)++x::ns.drop (yW ns x+1)).Nodup:=e▸i.sublist (List.drop_sublist _ _)
  obtain ⟨_,r,m⟩:=List.nodup_append.1 d
  obtain ⟨t,_⟩:=List.nodup_cons.1 r
  constructor
  ·intro s O
   rw [e,List.mem_append,List.mem_cons]
   rcases List.mem_cons.1 O with rfl | O
   ·exact .inr (.inl rfl)
   ·exact .inr (.inr (f s O))
  ·rw [e,List.filter_append,List.filter_eq_nil_iff.2,List.nil_append,List.filter_cons,if_pos (by simp)]
   ·congr 1
    rw [<- g]
    refine List.filter_congr fun y a=>?_
    have:¬y=x:=fun e=>t (e▸a)
    rw [g];simp [this]
   ·intro y a
    simp only [List.mem_cons,decide_eq_true_eq,not_or]
    exact ⟨fun e=>m y a x msQ e,fun c=>m y a y (mcQ _ (f y c)) rfl⟩
theorem q8g (a:ns.Nodup):tE ns (-1) l=true↔z3f ns l=l:=by
 constructor
 ·intro h
  have:=(q8h a (l:=l) (k:=0) h).2
  rw [List.drop_zero] at this;exact this
 ·intro h
  have:=q8i a (l:=l) (k:=0) (by rw [List.drop_zero,<- h];exact List.filter_sublist)
  exact this
def isR (ns l:List Bs):List Bool:=l.foldl (fun o x=>o.set (yW ns x) true) (List.replicate ns.length false)
theorem x7d (h:l[i]? = some x):(isR ns (l.take i)).set (yW ns x) true=isR ns (l.take (i+1)):=by rw [jB h];simp [isR]
theorem cW:(isR ns l).length=ns.length:=by
 refine vO (p:=fun l=>(isR ns l).length=ns.length) (by simp [isR]) (fun l x a=>?_) l
 have:isR ns (l++[x])=(isR ns l).set (yW ns x) true:=by simp [isR]
 rw [this,List.length_set];exact a
theorem j7c (c:ns.Nodup) (O:ns[j]? = some s):(∀y∈l,y∈ns)->(isR ns l)[j]? = some (decide (s∈l)):=by
 refine vO (p:=fun l=>(∀y∈l,y∈ns)->(isR ns l)[j]? = some (decide (s∈l))) (fun _=>?_) (fun l x f hl=>?_) l
 ·have:=(List.getElem?_eq_some_iff.1 O).1
  simp [isR,List.getElem?_replicate,this]
 ·have e:isR ns (l++[x])=(isR ns l).set (yW ns x) true:=by simp [isR]
  have b:=hl x (by simp)
  rw [e,List.getElem?_set,f fun y d=>hl y (List.mem_append_left _ d),cW]
  by_cases h:yW ns x=j
  ·subst h
   rw [vI b] at O
   cases O
   rw [if_pos rfl,if_pos (cO b)];simp
  ·have a:¬s=x:=fun e=>h (by rw [<- e];exact cN c O)
   rw [if_neg h];simp [a]
theorem j2v (a:ns.Nodup) (hl:∀y∈l,y∈ns) (O:ns[j]? = some s) (h:(isR ns l)[j]? = some true):s∈l:=by
 rw [j7c a O hl] at h;exact of_decide_eq_true (Option.some.inj h)
theorem is_no (a:ns.Nodup) (hl:∀y∈l,y∈ns) (O:ns[j]? = some s) (h:(isR ns l)[j]? = some false):¬s∈l:=by
 rw [j7c a O hl] at h;exact of_decide_eq_false (Option.some.inj h)
theorem fr_at (h:GOk (zG c) (zY c)) (a:(qW c).fr[k]? = some j):∃f,(zY c)[k]? = some f/\(zG c)[j]? = some f.1:=by
 simp only [qW,List.getElem?_map] at a
 cases b:(zY c)[k]? with
 | none=>rw [b] at a;cases a
 | some f=>rw [b] at a;cases a;exact ⟨f,rfl,vI (h.ends f.1 f.2 (mgQ b)).1⟩
theorem to_at (h:GOk (zG c) (zY c)) (a:(qW c).to[k]? = some j):∃f,(zY c)[k]? = some f/\(zG c)[j]? = some f.2:=by
 simp only [qW,List.getElem?_map] at a
 cases b:(zY c)[k]? with
 | none=>rw [b] at a;cases a
 | some f=>rw [b] at a;cases a;exact ⟨f,rfl,vI (h.ends f.1 f.2 (mgQ b)).2⟩
theorem j8w (e:zX c=0) (i:tE (zG c) (-1) l=true) (hr:∀r∈yA c,r∈l) (h:∀f∈zY c,f.1∈l->f.2∈l):kE c l=0 :=
 y9t e ((z0i _ _ _ _).2 ⟨(q8g (jA e).gok.nd).1 i,hr,fun a b d g=>h (a,b) d g⟩)
theorem z7y (a:zX c=0) (h:¬(tE (zG c) (-1) l=true/\(∀r∈yA c,r∈l)/\∀f∈zY c,f.1∈l->f.2∈l)):kE c l=111:=by
 cases O:xM (zG c) (zY c) (yA c) l with
 | false=>exact y9s a O
 | true=>
  obtain ⟨h1,b,d⟩:=(z0i _ _ _ _).1 O
  exact absurd ⟨(q8g (jA a).gok.nd).2 h1,b,fun f g e=>d f.1 f.2 g e⟩ h
end
theorem rt_90:RowT prog 90 4 1 1:=⟨underlying90,⟨_,_,Tryz.type4,rfl,rfl,rfl,rfl⟩,by decide,by decide⟩
theorem z2x {Φ:Fz} {K:List Res} {w:World} {d0:List Value} {c:Core} {v:Value} {l:List Bs} (X0:RCore Φ d0 c) (n1:∀v,d0[3]? = some v->Cap v) (rl:SliceOf RStr Φ 1 v l) (N:Mem Φ K w) :
  Calls prog 23 #[.agg d0.toArray,v] w (fun ee w'=>ee=.returned (.int .i64 (kE c l))/\Mem Φ K w'):=by
 have D:=X0
 obtain ⟨p3,c4,p9,e1,s1,f1,t1,c22,rfl,h2,h8,X1,Y1,c2,d2,E1,K1,F1,L1,G1,M1⟩:=RCore.fm X0
 obtain ⟨e2,T1,rfl,r1,O0⟩:=rl.fm
 refine zL func23 ntmps23 fun Q hQ a J=>?_
 refine Bx fun c1 w N a J=>?_
 refine zO call44 (fun w N a J=>?_) (c:=y3q c▸z4l D n1 N)
 by_cases u:(zX c)=0
 have E:=(jA u).gok
 have C1:(qW c).nodes.length<=1000000000:=(jA u).nl
 refine yU call46 (fun y1 w I0 N a J=>?_) (c:=z8n D (oB u) (jA u) (y6r u) N)
 obtain ⟨U,U1⟩:=y1
 obtain ⟨q,b0⟩:=I0
 simp only at q b0 N J
 replace D:=RCore.mono _ _ _ _ q D
 replace rl:=rl.up q
 replace N:=N.nf
 have o1:=b0
 obtain ⟨k2,l2,m2,rfl,F0,G0,H0⟩:=id b0
 obtain ⟨u1,g1,rfl,H1,N1⟩:=F0.fm
 obtain ⟨v1,c51,rfl,I1,P0⟩:=G0.fm
 obtain ⟨w1,h1,rfl,J1,Q0⟩:=H0.fm
 refine Alc fun d1 w N a J=>?_
 refine Sto 0 fun w N a J=>?_
 refine go fun a J=>?_
 refine st J rfl rfl rfl (z3y ((qW c).nodes.length) rt_90 zeroValue4 rfl J N rfl rfl (by omega) fun n2 w N a J=>?_)
 rw [<- j8s] at N
 obtain ⟨T0,c64,rfl⟩:=z3d (m:=(qW c).nodes.length) N (i:=0) rfl (by rw [z5x,List.length_replicate,Nat.mul_one]) (by decide)
 replace N:=N.nf
 refine go fun a J=>?_
 refine zT (J.ks [1,2,6,7]) N (fun R mm a w=>∃(G:Nat) (i0:Int) (m_:List Bool),mm=l.length - G/\R U [(8,.int .i64 (i0)),(9,.int .i64 G)] [(0,.gs (.slice T0 (qW c).nodes.length c64) 4 1 (z1d m_))] a w/\(m_=isR (zG c) (l.take G)/\tE (zG c) (-1) l=tE (zG c) i0 (l.drop G)/\(∀y∈l.take G,y∈(zG c))/\-1<=i0)) (l.length - 0) ⟨0,(-1),(List.replicate ((qW c).nodes.length) false),rfl,⟨J.pk,N⟩,⟨rfl,rfl,by simp,by decide⟩⟩ ?_
 clear N J
 rintro mm a w ⟨G,i0,m_,W,⟨J,N⟩,J0⟩ R1 K0
 replace N:=N.nf
 obtain ⟨M,u0,w0,b2⟩:=J0
 by_cases i1:G < l.length
 refine Reg [1,2,1,1,1,2,0,1] [0,1,2] fun w N a J=>?_
 refine go fun a J=>?_
 obtain ⟨j2,rfl,t,T,D0,D1,A1,S0⟩:=rl.el O0 i1
 obtain rfl:D0=[.string t]:=S0
 refine zO call49 (fun w N a J=>?_) (c:=z8w (l:=(zG c)) (s:=t) F0 N)
 by_cases j1:(ixG t (zG c) 0)<=i0
 refine zC ?_
 replace N:=N.dl [2,1,0]
 replace N:=N.le (q)
 rw [z7y u (fun h_=>absurd h_.1 (by rw [u0,j7a T,decide_eq_false (by omega)];simp))];exact ⟨rfl,N⟩
 refine go fun a J=>?_
 have B:=ix_pos (ns:=(zG c)) (x:=t) (by omega)
 have n:yW (zG c) t < (qW c).nodes.length:=cO B
 have N0:=j1
 rw [z1s B,Nat.zero_add] at J N0
 refine go fun a J=>?_
 obtain ⟨x1,h0⟩:=N.toSees.gsSome (i:=0) rfl n
 obtain ⟨o2,O1⟩:=yG (l:=m_) (i:=(yW (zG c) t)) (by first | (rw [M,cW];first | exact n | exact k | exact e | exact g) | (rw [z,cW];first | exact k | exact g | exact e))
 refine Qq (fun a J=>?_) (o:=by exact fun J O=>qO (p:=x1) (yW (zG c) t) J (by rw [<- h0];rfl) rfl runUnderlying90 sizeOf4 n)
 refine st0 J rfl rfl (mP 0 (yW (zG c) t) J N rfl rfl (by rw [<- h0];rfl) (by rw [z5x];rw [M,cW];exact n) rfl sizeOf4 rfl fun w N a J=>?_)
 replace N:Mem U (.gs (.slice T0 (qW c).nodes.length c64) 4 1 (z1d (m_.set (yW (zG c) t) true))::.blk d1 (ob [.slice u1 (qW c).nodes.length g1,.slice v1 (qW c).fr.length c51,.slice w1 (qW c).to.length h1] 86)::.blk c1 (ob [.slice p3 c.datas.length c4,.slice p9 c.inputs.length e1,.slice s1 c.funs.length f1,.slice t1 c.outputs.length c22] 27)::K) w:=by rw [h0,j8t];exact N
 refine go fun a J=>?_
 refine K0 _ _ _ (by subst W;omega) ⟨(G+1),(((yW (zG c) t:Nat):Int)),((m_.set (yW (zG c) t) true)),rfl,⟨J.pk,N⟩,?_⟩
 exact ⟨by rw [M,x7d T],by rw [u0,j7a T,z1s B,Nat.zero_add,decide_eq_true (by omega)];rfl,fun y hy=>by
  rw [jB T,List.mem_append,List.mem_singleton] at hy
  rcases hy with hy | rfl
  exact w0 y hy
  exact B,by omega⟩
 have z:m_=isR (zG c) l:=by rw [M,oN (by omega)]
 have V:∀y∈l,y∈(zG c):=by rw [oN (by omega)] at w0;exact w0
 have k1:tE (zG c) (-1) l=true:=by rw [u0,zB (by omega)];rfl
 refine go fun a J=>?_
 refine zT (J.ks [2,6,7]) N (fun R mm a w=>∃(b:Nat),mm=c.inputs.length - b/\R U [(11,.int .i64 b)] [] a w/\(∀j p,j < b->c.inputs[j]? = some p->inN p.name∈l)) (c.inputs.length - 0) ⟨0,rfl,⟨J.pk,N⟩,(fun j p h _=>absurd h (by omega))⟩ ?_
 clear N J
 rintro mm a w ⟨b,W,⟨J,N⟩,m0⟩ S1 L0
 by_cases a2:b < c.inputs.length
 obtain ⟨p_,x0⟩:=yG (l:=c.inputs) (i:=b) (by omega)
 have c0:=y0v x0
 have k:b < (qW c).nodes.length:=(List.getElem?_eq_some_iff.1 c0).1
 refine go fun a J=>?_
 obtain ⟨U0,e0⟩:=N.toSees.gsSome (i:=0) rfl k
 obtain ⟨Y0,P⟩:=yG (l:=m_) (i:=b) (by first | (rw [M,cW];first | exact n | exact k | exact e | exact g) | (rw [z,cW];first | exact k | exact g | exact e))
 refine Qq (fun a J=>?_) (o:=by exact fun J O=>qO (p:=U0) b J (by rw [<- e0];rfl) rfl runUnderlying90 sizeOf4 k)
 refine Qq (fun a J=>?_) (o:=by exact fun J O=>wW 0 b J O rfl (by rw [<- e0];rfl) (z7u P) isAgg4)
 refine go fun a J=>?_
 cases Y0
 refine zC ?_
 replace N:=N.dl [2,1,0]
 replace N:=N.le (q)
 have A:=P
 rw [z] at A
 rw [z7y u (fun h_=>is_no E.nd V c0 A (h_.2.1 _ (show inN p_.name∈yA c from List.mem_map_of_mem (f:=fun p=>inN p.name) (mgQ x0))))];exact ⟨rfl,N⟩
 refine go fun a J=>?_
 refine L0 _ _ _ (by subst W;omega) ⟨(b+1),rfl,⟨J.pk,N⟩,?_⟩
 intro j p hj hp
 rcases Nat.lt_or_ge j b with h_ | h_
 exact m0 j p h_ hp
 have X:j=b:=by omega
 rw [X,x0] at hp
 have A:=P
 rw [z] at A
 cases hp
 exact j2v E.nd V c0 A
 refine go fun a J=>?_
 have s0:∀r∈yA c,r∈l:=fun r hr=>by
  obtain ⟨p,hp,rfl⟩:=List.mem_map.1 hr
  obtain ⟨j,hj⟩:=List.getElem?_of_mem hp
  exact m0 j p (by have:=(List.getElem?_eq_some_iff.1 hj).1;omega) hj
 have B1:(qW c).fr.length=(qW c).to.length:=by simp [qW]
 refine go fun a J=>?_
 refine zT (J.ks [6,7]) N (fun R mm a w=>∃(d:Nat),mm=(qW c).fr.length - d/\R U [(12,.int .i64 d)] [] a w/\(∀(j:Nat) f,j < d->(zY c)[j]? = some f->f.1∈l->f.2∈l)) ((qW c).fr.length - 0) ⟨0,rfl,⟨J.pk,N⟩,(fun j f h _ _=>absurd h (by omega))⟩ ?_
 clear N J
 rintro mm a w ⟨d,W,⟨J,N⟩,L⟩ z1 Y
 by_cases E0:d < (qW c).fr.length
 refine go fun a J=>?_
 obtain ⟨P1,rfl,H,A0,q0,p1,l1,y0⟩:=G0.el P0 E0
 obtain rfl:q0=[.int .i64 H]:=y0
 refine go fun a J=>?_
 obtain ⟨f_,l0,Z⟩:=fr_at E A0
 have e:H < (qW c).nodes.length:=(List.getElem?_eq_some_iff.1 Z).1
 obtain ⟨V0,f0⟩:=N.toSees.gsSome (i:=0) rfl e
 obtain ⟨Z0,C⟩:=yG (l:=m_) (i:=H) (by first | (rw [M,cW];first | exact n | exact k | exact e | exact g) | (rw [z,cW];first | exact k | exact g | exact e))
 refine Qq (fun a J=>?_) (o:=by exact fun J O=>qO (p:=V0) H J (by rw [<- f0];rfl) rfl runUnderlying90 sizeOf4 e)
 refine Qq (fun a J=>?_) (o:=by exact fun J O=>wW 0 H J O rfl (by rw [<- f0];rfl) (z7u C) isAgg4)
 refine go fun a J=>?_
 cases Z0
 refine go fun a J=>?_
 refine Y _ _ _ (by subst W;omega) ⟨(d+1),rfl,⟨J.pk,N⟩,?_⟩
 intro j f hj hf ha
 rcases Nat.lt_or_ge j d with h_ | h_
 exact L j f h_ hf ha
 have X:j=d:=by omega
 rw [X,l0] at hf
 have A:=C
 rw [z] at A
 cases hf
 exact absurd ha (is_no E.nd V Z A)
 refine go fun a J=>?_
 have t0:d < (qW c).to.length:=by omega
 obtain ⟨Q1,rfl,I,B0,r0,q1,m1,z0⟩:=H0.el Q0 t0
 obtain rfl:r0=[.int .i64 I]:=z0
 refine go fun a J=>?_
 obtain ⟨V1,M0,a0⟩:=to_at E B0
 have g:I < (qW c).nodes.length:=(List.getElem?_eq_some_iff.1 a0).1
 have n0:=Option.some.inj (l0.symm.trans M0)
 obtain ⟨W0,g0⟩:=N.toSees.gsSome (i:=0) rfl g
 obtain ⟨a1,S⟩:=yG (l:=m_) (i:=I) (by first | (rw [M,cW];first | exact n | exact k | exact e | exact g) | (rw [z,cW];first | exact k | exact g | exact e))
 refine Qq (fun a J=>?_) (o:=by exact fun J O=>qO (p:=W0) I J (by rw [<- g0];rfl) rfl runUnderlying90 sizeOf4 g)
 refine Qq (fun a J=>?_) (o:=by exact fun J O=>wW 0 I J O rfl (by rw [<- g0];rfl) (z7u S) isAgg4)
 refine go fun a J=>?_
 cases a1
 refine zC ?_
 replace N:=N.dl [2,1,0]
 replace N:=N.le (q)
 have p0:=C
 have F:=S
 rw [z] at p0 F
 rw [z7y u (fun h_=>is_no E.nd V a0 F (n0▸h_.2.2 f_ (mgQ l0) (j2v E.nd V Z p0)))];exact ⟨rfl,N⟩
 refine go fun a J=>?_
 refine Y _ _ _ (by subst W;omega) ⟨(d+1),rfl,⟨J.pk,N⟩,?_⟩
 intro j f hj hf ha
 rcases Nat.lt_or_ge j d with h_ | h_
 exact L j f h_ hf ha
 have X:j=d:=by omega
 rw [X,l0] at hf
 have A:=C
 rw [z] at A
 cases hf
 have F:=S
 rw [z] at F
 exact n0▸j2v E.nd V a0 F
 refine zC ?_
 replace N:=N.dl [2,1,0]
 replace N:=N.le (q)
 rw [j8w u k1 s0 (fun f hf ha=>by
   obtain ⟨j,hj⟩:=List.getElem?_of_mem hf
   exact L j f (by have h_:=(List.getElem?_eq_some_iff.1 hj).1;have Z1:(qW c).fr.length=(zY c).length:=(by simp [qW]);omega) hj ha)];exact ⟨rfl,N⟩
 refine zC ?_
 replace N:=N.dl [0]
 rw [kE,if_neg u];exact ⟨rfl,N⟩
theorem x2p {c:Core} {x:List Bs} (h:aZ c=.ok x):zX c=0/\x=z9l c:=by
 unfold aZ at h;split at h
 cases h;exact ⟨by assumption,rfl⟩
 cases h
theorem j0n {c:Core} {e:Int} (h:aZ c=.error e):¬zX c=0/\zX c=e:=by
 unfold aZ at h;split at h
 cases h
 cases h;exact ⟨by assumption,rfl⟩
section
variable {Φ:Fz} {K:List Res} {w:World} {d0:List Value} {c:Core} {n:Bs}
end
section
variable {c:Core} {n x:Bs} {k a:Nat} {p:Param}
end
section
variable {c:Core} {a b l:List Bs} {s x:Bs} {i:Nat}
theorem gok (a:zX c=0):GOk (zG c) (zY c):=(jA a).gok
theorem x6v (b:aP c a=true):∀r∈yA c++a,r∈zG c:=fun r hr=>by
 rcases List.mem_append.1 hr with h | h
 ·exact sL r h
 ·exact of_decide_eq_true (List.all_eq_true.1 b r h)
theorem j2l {r:List Bs} (h:cV c l=.ok r):zX c=0/\aP c l=true/\r=uO c l:=by
 unfold cV at h
 by_cases a:zX c=0
 ·rw [if_pos a] at h
  by_cases b:aP c l=true
  ·rw [if_pos b] at h;cases h;exact ⟨a,b,rfl⟩
  ·rw [if_neg b] at h;cases h
 ·rw [if_neg a] at h;cases h
end
section
variable {Φ:Fz} {K:List Res} {w:World}
theorem y7x {d0:List Value} {c:Core} (d:zX c=0) (b:RCore Φ d0 c) (a:∀v,d0[3]? = some v->Cap v) (N:Mem Φ K w) :
  Calls prog 19 #[.agg d0.toArray] w (fun ee w'=>∃y:Value,ee=.returned (.tuple #[y,.int .i64 0])/\True/\Mem Φ (.gs y 9 1 (strs (z9l c))::K) w'):=by
 have h:=q2n b a N
 rw [aZ,if_pos d] at h;exact h
theorem q6v {c:Core} {l:List Bs} (h:kE c l=0):zX c=0/\xM (zG c) (zY c) (yA c) l=true:=by
 unfold kE at h
 by_cases a:zX c=0
 rw [if_pos a] at h
 by_cases O:xM (zG c) (zY c) (yA c) l=true
 exact ⟨a,O⟩
 rw [if_neg O] at h;cases h
 rw [if_neg a] at h;exact absurd h a
theorem x0u {c:Core} {l:List Bs} (h:¬kE c l=0):aR c l=kE c l:=by
 unfold kE at *;unfold aR
 by_cases a:zX c=0
 rw [if_pos a] at h ⊢;rw [if_pos a]
 by_cases O:xM (zG c) (zY c) (yA c) l=true
 rw [if_pos O] at h;exact absurd rfl h
 rw [if_neg O,if_neg O]
 rw [if_neg a,if_neg a]
theorem q8s {c:Core} {l:List Bs} (a:zX c=0) (O:xM (zG c) (zY c) (yA c) l=true):aR c l=if y7p l (z9l c)=true then 0 else 112:=by
 rw [aR,if_pos a,if_pos O,x9r]
 have:=x0v (jA a).gok sL O
 by_cases h:l=z9l c
 rw [if_pos (this.2 h),if_pos (decide_eq_true h)]
 rw [if_neg (fun e=>h (this.1 e)),if_neg (by rw [decide_eq_false h];simp)]
theorem z9a {d0:List Value} {c:Core} {v:Value} {l:List Bs} (o:RCore Φ d0 c) (n:∀v,d0[3]? = some v->Cap v) (rl:SliceOf RStr Φ 1 v l) (N:Mem Φ K w) :
  Calls prog 24 #[.agg d0.toArray,v] w (fun ee w'=>ee=.returned (.int .i64 (aR c l))/\Mem Φ K w'):=by
 have b:=o
 obtain ⟨p3,c4,p9,G,T,H,U,c22,rfl,Y,Z,M,P,R,S,t,A,u,B,y,C⟩:=RCore.fm o
 obtain ⟨V,I,rfl,q,D⟩:=rl.fm
 refine zL func24 ntmps24 fun Q hQ a J=>?_
 refine Bx fun F w N a J=>?_
 refine zO call23 (fun w N a J=>?_) (c:=z2x b n rl N)
 by_cases m:(kE c l)=0
 have g:=q6v m
 refine yU call19 (fun X w s N a J=>?_) (c:=y7x g.1 b n N)
 refine go fun a J=>?_
 have j:=N
 clear N
 obtain ⟨p,d,N,h⟩:=j.freezeRow (i:=0) rfl
 clear j
 replace b:=RCore.mono _ _ _ _ d b
 replace rl:=rl.up d
 replace N:=N.nf
 have f:SliceOf RStr p 1 _ ((z9l c)):=SliceOf.strs.2 h
 obtain ⟨W,L,r,z,E⟩:=f.form (by decide)
 have k:=N
 clear N
 subst r
 have N:=k
 clear k
 refine yH call22 (fun e w N a J=>?_) (fun e w N a J=>?_) (c:=kW rl f N)
 refine zC ?_
 replace N:=N.dl [0]
 replace N:=N.le (d)
 rw [q8s g.1 g.2,if_pos e];exact ⟨rfl,N⟩
 refine zC ?_
 replace N:=N.dl [0]
 replace N:=N.le (d)
 rw [q8s g.1 g.2,if_neg (by rw [e];simp)];exact ⟨rfl,N⟩
 refine zC ?_
 replace N:=N.dl [0]
 rw [x0u m];exact ⟨rfl,N⟩
theorem z4t {d0:List Value} {c:Core} {v:Value} {l:List Bs} (E:RCore Φ d0 c) (L:∀v,d0[3]? = some v->Cap v) (rl:SliceOf RStr Φ 1 v l) (Y:l.length<=8796093022208) (N:Mem Φ K w) :
  Calls prog 21 #[.agg d0.toArray,v] w (fun ee w'=>Out (cV c l) (fun l=>∃y:Value,ee=.returned (.tuple #[y,.int .i64 0])/\True/\Mem Φ (.gs y 9 1 (strs l)::K) w') (fun e=>ee=.returned (.tuple #[.slice none 0 0,.int .i64 e])/\Mem Φ K w')):=by
 have b:=E
 obtain ⟨p3,c4,p9,p0,C0,q0,D0,c22,rfl,h2,h8,w0,y0,A0,B0,Z,g0,a0,h0,b0,i0⟩:=RCore.fm E
 obtain ⟨E0,r0,rfl,P,C⟩:=rl.fm
 refine zL func21 ntmps21 fun Q hQ a J=>?_
 refine Bx fun n0 w N a J=>?_
 refine zO call44 (fun w N a J=>?_) (c:=y3q c▸z4l b L N)
 by_cases d:(zX c)=0
 refine yU call46 (fun S w z N a J=>?_) (c:=z8n b (oB d) (jA d) (y6r d) N)
 obtain ⟨F,u0⟩:=S
 obtain ⟨f,i⟩:=z
 simp only at f i N J
 replace b:=RCore.mono _ _ _ _ f b
 replace rl:=rl.up f
 replace N:=N.nf
 have o:=i
 obtain ⟨J0,K0,L0,rfl,t,G,H⟩:=id i
 obtain ⟨F0,s0,rfl,c0,j0⟩:=t.fm
 obtain ⟨G0,c51,rfl,e0,k0⟩:=G.fm
 obtain ⟨H0,t0,rfl,f0,l0⟩:=H.fm
 refine Alc fun o0 w N a J=>?_
 refine Sto 0 fun w N a J=>?_
 refine yU call47 (fun T w U N a J=>?_) (c:=y5i d b N)
 refine go fun a J=>?_
 refine zT (J.ks [1,7]) N (fun R mm a w=>∃(g:Nat) (u:Value) (m:List Nat),mm=l.length - g/\R F [(8,u),(9,.int .i64 g)] [(0,.gs (u) 3 1 (nats m))] a w/\(m=(yA c++l.take g).map (yW (zG c))/\aP c l=aP c (l.drop g))) (l.length - 0) ⟨0,T,((yA c).map (yW (zG c))),rfl,⟨J.pk,N⟩,⟨by simp,rfl⟩⟩ ?_
 clear N J
 rintro mm a w ⟨g,u,m,M,⟨J,N⟩,A⟩ m0 B
 replace N:=N.nf
 obtain ⟨p,q⟩:=A
 by_cases I:g < l.length
 refine Reg [1,2,1,1,1,2,0,1] [0,1,2] fun w N a J=>?_
 refine go fun a J=>?_
 obtain ⟨I0,rfl,n,k,r,X,W,D⟩:=rl.el C I
 obtain rfl:r=[.string n]:=D
 refine zO call49 (fun w N a J=>?_) (c:=z8w (l:=(zG c)) (s:=n) t N)
 by_cases z0:(ixG n (zG c) 0) < 0
 refine jE ?_
 replace N:=N.dl [2,1,0]
 replace N:=N.le (f)
 rw [uM d (by rw [q,z6k k,decide_eq_false (ix_neg (by omega))];rfl)];exact ⟨rfl,N⟩
 have j:=ix_pos (ns:=(zG c)) (x:=n) (by omega)
 refine jQ fun M0 w N a J=>?_
 refine vH 1 j0f (fun v85 w N a J=>?_) (hb:=by have x0:=(jA d).il;rw [sH,p,List.length_map,laQ,z3m,List.length_take];simp only [lcQ,lnQ];omega)
 rw [nats_ix j] at N
 refine go fun a J=>?_
 replace N:=N.dl [0]
 refine B _ _ _ (by subst M;omega) ⟨(g+1),(v85),((m++[yW (zG c) n])),rfl,⟨J.pk,N⟩,?_⟩
 exact ⟨by rw [p,jB k];simp,by rw [q,z6k k,decide_eq_true j];rfl⟩
 refine go fun a J=>?_
 have h:aP c l=true:=by rw [q,q0y (by omega)]
 rw [p,oN (by omega)] at N
 refine yU call45 (fun N0 w V N a J=>?_) (c:=y1a (l:=(yA c++l)) d o (x6v h) N)
 refine jE ?_
 replace N:=N.dl [2,1]
 replace N:=N.le (f)
 rw [uN d h];exact ⟨_,rfl,trivial,N⟩
 refine jE ?_
 replace N:=N.dl [0]
 rw [sB d];exact ⟨rfl,N⟩
end
section
variable {c:Core} {n x y:Bs} {p:List Bs} {i:Nat}
end
section
variable {Φ:Fz} {K:List Res} {w:World} {d0:List Value} {c:Core} {n:Bs} {v:Value} {p:List Bs}
end
section
variable {c:Core} {la lb:List Bs} {x:Bs} {i:Nat}
theorem q7t {e:Int} (a:zX c=0) (h:cV c la=.error e):aP c la=false/\(110:Int)=e:=by
 cases hb:aP c la with
 | true=>rw [uN a hb] at h;cases h
 | false=>rw [uM a hb] at h;cases h;exact ⟨rfl,rfl⟩
variable {Φ:Fz} {K:List Res} {w:World} {d0:List Value} {v:Value}
end
section
variable {Φ:Fz} {K:List Res} {w:World}
theorem x2q {d0:List Value} {c:Core} (d:¬zX c=0) (b:RCore Φ d0 c) (a:∀v,d0[3]? = some v->Cap v) (N:Mem Φ K w) :
  Calls prog 19 #[.agg d0.toArray] w (fun ee w'=>ee=.returned (.tuple #[.slice none 0 0,.int .i64 (zX c)])/\Mem Φ K w'):=by
 have h:=q2n b a N
 rw [aZ,if_neg d] at h;exact h
theorem j2m {d0:List Value} {c:Core} {v:Value} {l:List Bs} (d:¬zX c=0) (b:RCore Φ d0 c) (rl:SliceOf RStr Φ 1 v l) (a:l.length<=8796093022208) (G:Glob Φ) (N:Mem Φ K w) :
  Calls prog 20 #[.agg d0.toArray,v] w (fun ee w'=>ee=.returned (.tuple #[.slice none 0 0,.int .i64 (zX c)])/\Mem Φ K w'):=by
 have h:=y4p b rl a G jA N
 rw [sB d] at h;exact h
theorem j2n {d0:List Value} {c:Core} {v:Value} {l:List Bs} (e:¬zX c=0) (d:RCore Φ d0 c) (b:∀v,d0[3]? = some v->Cap v) (rl:SliceOf RStr Φ 1 v l) (a:l.length<=8796093022208) (N:Mem Φ K w) :
  Calls prog 21 #[.agg d0.toArray,v] w (fun ee w'=>ee=.returned (.tuple #[.slice none 0 0,.int .i64 (zX c)])/\Mem Φ K w'):=by
 have h:=z4t d b rl a N
 rw [sB e] at h;exact h
theorem q7u {d0:List Value} {c:Core} {v:Value} {l:List Bs} (e:zX c=0) (f:aP c l=false) (d:RCore Φ d0 c) (b:∀v,d0[3]? = some v->Cap v) (rl:SliceOf RStr Φ 1 v l) (a:l.length<=8796093022208) (N:Mem Φ K w) :
  Calls prog 21 #[.agg d0.toArray,v] w (fun ee w'=>ee=.returned (.tuple #[.slice none 0 0,.int .i64 110])/\Mem Φ K w'):=by
 have h:=z4t d b rl a N
 rw [uM e f] at h;exact h
theorem q7v {d0:List Value} {c:Core} {v:Value} {l:List Bs} (e:zX c=0) (f:aP c l=true) (d:RCore Φ d0 c) (b:∀v,d0[3]? = some v->Cap v) (rl:SliceOf RStr Φ 1 v l) (a:l.length<=8796093022208) (N:Mem Φ K w) :
  Calls prog 21 #[.agg d0.toArray,v] w (fun ee w'=>∃y:Value,ee=.returned (.tuple #[y,.int .i64 0])/\True/\Mem Φ (.gs y 9 1 (strs (uO c l))::K) w'):=by
 have h:=z4t d b rl a N
 rw [uN e f] at h;exact h
theorem y6d {d0:List Value} {c:Core} {v:Value} {l:List Bs} (T:RCore Φ d0 c) (rl:SliceOf RStr Φ 1 v l) (u:l.length<=8796093022208) (k:∀v,d0[3]? = some v->Cap v) (G:Glob Φ) (N:Mem Φ K w) :
  Calls prog 5 #[.agg d0.toArray,v] w (fun ee w'=>ee=.returned (.bool true)/\Mem Φ K w'):=by
 have b:=T
 obtain ⟨p3,c4,p9,I0,V0,J0,W0,c22,rfl,h2,h8,Q0,R0,T0,U0,o0,y0,p0,z0,q0,A0⟩:=RCore.fm T
 obtain ⟨X0,K0,rfl,b0,B0⟩:=rl.fm
 refine zL func5 ntmps5 fun Q hQ a J=>?_
 refine Bx fun H0 w N a J=>?_
 refine go fun a J=>?_
 refine st J rfl rfl rfl (wN J rfl call15 (q2o b G jA N) (fun e0 e1 w A k0 N a J=>?_) (fun e0 w A N a J=>?_))
 obtain ⟨h0,rfl⟩:=x2p A
 replace N:=N.nf
 refine yU call19 (fun f1 w l0 N a J=>?_) (c:=y7x h0 b k N)
 refine go fun a J=>?_
 refine st J rfl rfl rfl (wN J rfl call20 (y4p b rl u G jA N) (fun f0 g1 w B m0 N a J=>?_) (fun f0 w B N a J=>?_))
 obtain ⟨_,S,rfl⟩:=j2l B
 replace N:=N.nf
 refine yU call21 (fun h1 w n0 N a J=>?_) (c:=q7v h0 S b k rl u N)
 refine zO call11 (fun w N a J=>?_) (c:=q5i G (fun _=>jA) N)
 refine go fun a J=>?_
 have d:=N
 clear N
 obtain ⟨U,y,N,E⟩:=d.freezeRow (i:=3) rfl
 clear d
 replace b:=RCore.mono _ _ _ _ y b
 replace G:=G.mono y
 replace rl:=rl.up y
 replace N:=N.nf
 have g:SliceOf RStr U 1 _ ((z9l c)):=SliceOf.strs.2 E
 obtain ⟨Y0,L0,m,r0,C0⟩:=g.form (by decide)
 have f:=N
 clear N
 subst m
 have N:=f
 clear f
 have d:=N
 clear N
 obtain ⟨V,p,N,F⟩:=d.freezeRow (i:=2) rfl
 clear d
 replace b:=RCore.mono _ _ _ _ p b
 replace G:=G.mono p
 replace rl:=rl.up p
 replace g:=g.up p
 replace N:=N.nf
 have h:SliceOf RStr V 1 _ ((z9l c)):=SliceOf.strs.2 F
 obtain ⟨Z0,c62,m,s0,D0⟩:=h.form (by decide)
 have f:=N
 clear N
 subst m
 have N:=f
 clear f
 have d:=N
 clear N
 obtain ⟨W,n,N,H⟩:=d.freezeRow (i:=1) rfl
 clear d
 replace b:=RCore.mono _ _ _ _ n b
 replace G:=G.mono n
 replace rl:=rl.up n
 replace g:=g.up n
 replace h:=h.up n
 replace N:=N.nf
 have s:SliceOf RStr W 1 _ ((uO c l)):=SliceOf.strs.2 H
 obtain ⟨a1,M0,m,t0,E0⟩:=s.form (by decide)
 have f:=N
 clear N
 subst m
 have N:=f
 clear f
 have d:=N
 clear N
 obtain ⟨X,j,N,I⟩:=d.freezeRow (i:=0) rfl
 clear d
 replace b:=RCore.mono _ _ _ _ j b
 replace G:=G.mono j
 replace rl:=rl.up j
 replace g:=g.up j
 replace h:=h.up j
 replace s:=s.up j
 replace N:=N.nf
 have C:SliceOf RStr X 1 _ ((uO c l)):=SliceOf.strs.2 I
 obtain ⟨b1,N0,m,u0,F0⟩:=C.form (by decide)
 have f:=N
 clear N
 subst m
 have N:=f
 clear f
 refine yN [1,1,1,1,1,1,1,1,1,1,1,1,1,1,0,1,1,1,1,0,1,1,2,1,0,2,1,0,1,1,1,2,1,0,2,1,0,1,1,1] (.q 0 (.q 1 (.q 2 (.q 3 (.q 4 (.q 5 (.q 6 (.q 7 (.q 8 (.q 9 (.q 10 (.q 11 (.q 12 (.q 13 (.e 14 (.q 15 (.q 16 (.q 17 (.q 18 (.e 19 (.q 20 (.q 21 (.q 22 (.q 23 (.q 25 (.q 26 (.e 24 (.e 27 (.q 28 (.q 29 (.q 30 (.q 31 (.q 32 (.q 34 (.q 35 (.e 33 (.e 36 (.q 37 (.q 38 (.q 39 (.done))))))))))))))))))))))))))))))))))))))))) [0] J N fun w N=>?_
 refine Qq (fun a J=>?_) (o:=by exact fun J O=>kD true J rfl rfl rfl)
 refine Qq (fun a J=>?_) (o:=by exact fun J O=>kD true J rfl rfl rfl)
 refine zO call22 (fun w N a J=>?_) (c:=(show Calls prog _ _ _ (fun ee w'=>ee=.returned (.bool true)/\_) from (nT (z9l c))▸kW g h N))
 refine zO call22 (fun w N a J=>?_) (c:=(show Calls prog _ _ _ (fun ee w'=>ee=.returned (.bool true)/\_) from (nT (uO c l))▸kW s C N))
 refine zO call16 (fun w N a J=>?_) (c:=z7z b rl G jA N)
 refine zO call23 (fun w N a J=>?_) (c:=z2x b k rl N)
 by_cases S0:(kE c l)=(kE c l)
 refine zO call17 (fun w N a J=>?_) (c:=z3h b rl G jA N)
 refine zO call24 (fun w N a J=>?_) (c:=z9a b k rl N)
 refine Qq (fun a J=>?_) (o:=by exact fun J O=>mV J rfl rfl)
 refine zC ?_
 replace N:=N.le ((((y).trans p).trans n).trans j)
 replace N:=N.dl [0]
 first | exact ⟨rfl,N⟩ | exact absurd rfl (by assumption) | (rw [decide_eq_true rfl];exact ⟨rfl,N⟩)
 refine zC ?_
 replace N:=N.le ((((y).trans p).trans n).trans j)
 replace N:=N.dl [0]
 first | exact ⟨rfl,N⟩ | exact absurd rfl (by assumption) | (rw [decide_eq_true rfl];exact ⟨rfl,N⟩)
 obtain ⟨P,rfl⟩:=q7t h0 B
 refine zO call21 (fun w N a J=>?_) (c:=q7u h0 P b k rl u N)
 refine zO call11 (fun w N a J=>?_) (c:=q5i G (fun _=>jA) N)
 refine go fun a J=>?_
 have d:=N
 clear N
 obtain ⟨Y,z,N,L⟩:=d.freezeRow (i:=1) rfl
 clear d
 replace b:=RCore.mono _ _ _ _ z b
 replace G:=G.mono z
 replace rl:=rl.up z
 replace N:=N.nf
 have t:SliceOf RStr Y 1 _ ((z9l c)):=SliceOf.strs.2 L
 obtain ⟨c1,O0,m,w0,G0⟩:=t.form (by decide)
 have f:=N
 clear N
 subst m
 have N:=f
 clear f
 have d:=N
 clear N
 obtain ⟨Z,r,N,M⟩:=d.freezeRow (i:=0) rfl
 clear d
 replace b:=RCore.mono _ _ _ _ r b
 replace G:=G.mono r
 replace rl:=rl.up r
 replace t:=t.up r
 replace N:=N.nf
 have D:SliceOf RStr Z 1 _ ((z9l c)):=SliceOf.strs.2 M
 obtain ⟨d1,P0,m,x0,c0⟩:=D.form (by decide)
 have f:=N
 clear N
 subst m
 have N:=f
 clear f
 refine yN [1,1,1,1,1,1,1,1,1,1,1,1,1,1,0,1,1,1,1,0,1,1,2,1,0,2,1,0,1,1,1,2,1,0,2,1,0,1,1,1] (.q 0 (.q 1 (.q 2 (.q 3 (.q 4 (.q 5 (.q 6 (.q 7 (.q 8 (.q 9 (.q 10 (.q 11 (.q 12 (.q 13 (.e 14 (.q 15 (.q 16 (.q 17 (.q 18 (.e 19 (.q 20 (.q 21 (.q 22 (.q 23 (.q 25 (.q 26 (.e 24 (.e 27 (.q 28 (.q 29 (.q 30 (.q 31 (.q 32 (.q 34 (.q 35 (.e 33 (.e 36 (.q 37 (.q 38 (.q 39 (.done))))))))))))))))))))))))))))))))))))))))) [0] J N fun w N=>?_
 refine Qq (fun a J=>?_) (o:=by exact fun J O=>kD true J rfl rfl rfl)
 refine Qq (fun a J=>?_) (o:=by exact fun J O=>kD true J rfl rfl rfl)
 refine zO call22 (fun w N a J=>?_) (c:=(show Calls prog _ _ _ (fun ee w'=>ee=.returned (.bool true)/\_) from (nT (z9l c))▸kW t D N))
 refine zO call22 (fun w N a J=>?_) (c:=(show Calls prog _ _ _ (fun ee w'=>ee=.returned (.bool true)/\_) from (nT [])▸kW (SliceOf.nil 1) (SliceOf.nil 1) N))
 refine zO call16 (fun w N a J=>?_) (c:=z7z b rl G jA N)
 refine zO call23 (fun w N a J=>?_) (c:=z2x b k rl N)
 by_cases g0:(kE c l)=(kE c l)
 refine zO call17 (fun w N a J=>?_) (c:=z3h b rl G jA N)
 refine zO call24 (fun w N a J=>?_) (c:=z9a b k rl N)
 refine Qq (fun a J=>?_) (o:=by exact fun J O=>mV J rfl rfl)
 refine zC ?_
 replace N:=N.le ((z).trans r)
 replace N:=N.dl [0]
 first | exact ⟨rfl,N⟩ | exact absurd rfl (by assumption) | (rw [decide_eq_true rfl];exact ⟨rfl,N⟩)
 refine zC ?_
 replace N:=N.le ((z).trans r)
 replace N:=N.dl [0]
 first | exact ⟨rfl,N⟩ | exact absurd rfl (by assumption) | (rw [decide_eq_true rfl];exact ⟨rfl,N⟩)
 obtain ⟨R,rfl⟩:=j0n A
 refine zO call19 (fun w N a J=>?_) (c:=x2q R b k N)
 refine zO call20 (fun w N a J=>?_) (c:=j2m R b rl u G N)
 refine zO call21 (fun w N a J=>?_) (c:=j2n R b k rl u N)
 refine zO call11 (fun w N a J=>?_) (c:=q5i G (fun _=>jA) N)
 refine go fun a J=>?_
 refine yN [1,1,1,1,1,1,1,1,1,1,1,1,1,1,0,1,1,1,1,0,1,1,2,1,0,2,1,0,1,1,1,2,1,0,2,1,0,1,1,1] (.q 0 (.q 1 (.q 2 (.q 3 (.q 4 (.q 5 (.q 6 (.q 7 (.q 8 (.q 9 (.q 10 (.q 11 (.q 12 (.q 13 (.e 14 (.q 15 (.q 16 (.q 17 (.q 18 (.e 19 (.q 20 (.q 21 (.q 22 (.q 23 (.q 25 (.q 26 (.e 24 (.e 27 (.q 28 (.q 29 (.q 30 (.q 31 (.q 32 (.q 34 (.q 35 (.e 33 (.e 36 (.q 37 (.q 38 (.q 39 (.done))))))))))))))))))))))))))))))))))))))))) [0] J N fun w N=>?_
 by_cases i0:(zX c)=(zX c)
 refine zO call22 (fun w N a J=>?_) (c:=(show Calls prog _ _ _ (fun ee w'=>ee=.returned (.bool true)/\_) from (nT [])▸kW (SliceOf.nil 1) (SliceOf.nil 1) N))
 refine zO call22 (fun w N a J=>?_) (c:=(show Calls prog _ _ _ (fun ee w'=>ee=.returned (.bool true)/\_) from (nT [])▸kW (SliceOf.nil 1) (SliceOf.nil 1) N))
 refine zO call16 (fun w N a J=>?_) (c:=z7z b rl G jA N)
 refine zO call23 (fun w N a J=>?_) (c:=z2x b k rl N)
 by_cases j0:(kE c l)=(kE c l)
 refine zO call17 (fun w N a J=>?_) (c:=z3h b rl G jA N)
 refine zO call24 (fun w N a J=>?_) (c:=z9a b k rl N)
 refine Qq (fun a J=>?_) (o:=by exact fun J O=>mV J rfl rfl)
 refine zC ?_
 replace N:=N.dl [0]
 first | exact ⟨rfl,N⟩ | exact absurd rfl (by assumption) | (rw [decide_eq_true rfl];exact ⟨rfl,N⟩)
 refine zC ?_
 replace N:=N.dl [0]
 first | exact ⟨rfl,N⟩ | exact absurd rfl (by assumption) | (rw [decide_eq_true rfl];exact ⟨rfl,N⟩)
 refine zC ?_
 replace N:=N.dl [0]
 first | exact ⟨rfl,N⟩ | exact absurd rfl (by assumption) | (rw [decide_eq_true rfl];exact ⟨rfl,N⟩)
end
end Go.Sw
