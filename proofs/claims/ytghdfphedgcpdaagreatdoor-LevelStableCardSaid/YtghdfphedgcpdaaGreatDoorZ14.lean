import Derived.Test.YtghdfphedgcpdaaGreatDoorProg
import Derived.Test.YtghdfphedgcpdaaGreatDoorZ01
import Derived.Test.YtghdfphedgcpdaaGreatDoorZ02
import Derived.Test.YtghdfphedgcpdaaGreatDoorZ03
import Derived.Test.YtghdfphedgcpdaaGreatDoorZ04
import Derived.Test.YtghdfphedgcpdaaGreatDoorZ06
import Derived.Test.YtghdfphedgcpdaaGreatDoorZ07
import Derived.Test.YtghdfphedgcpdaaGreatDoorZ08
import Derived.Test.YtghdfphedgcpdaaGreatDoorZ10
import Derived.Test.YtghdfphedgcpdaaGreatDoorZ11
import Derived.Test.YtghdfphedgcpdaaGreatDoorZ13
set_option linter.unusedVariables false
set_option linter.unusedSimpArgs false
namespace Go.Sw
open Go.Proofs.Tryz
open Go.Proofs
set_option maxRecDepth 20000
set_option maxHeartbeats 4000000
variable {Φ:Fz} {K:List Res} {w:World}
theorem z0w {c:Core} {x:Unit} (h:y0v c=.ok x):yC c=0:=by
 unfold y0v at h;split at h
 assumption
 cases h
theorem z0v {c:Core} {e:Int} (h:y0v c=.error e):¬yC c=0∧yC c=e:=by
 unfold y0v at h;split at h
 cases h
 cases h;exact ⟨by assumption,rfl⟩
theorem j1i (c:Core):(jM c).length≤(xJ c).length:=dR _
theorem LOk.bound {c:Core} (L:LOk c) (l:List Bs):kS (xA (jM c)) l≤l.length+1000000000000:=by
 unfold kS;rw [j3d];have:=j1i c;have:=L.al;omega
theorem j3n (c:Core):(yN c).length=c.inputs.length:=by simp [yN]
theorem LOk.boundR {c:Core} (L:LOk c):kS (xA (jM c)) (yN c)≤1001000000000:=by
 have:=L.bound (yN c);rw [j3n] at this;have:=L.il;omega
theorem q2q {c:Core}:∀r∈yN c,r∈zN c:=fun r hr=>by
 simp only [zN,yN] at *;exact List.mem_append_left _ (List.mem_append_left _ hr)
theorem LOk.se {c:Core} (L:LOk c):zH (qO (xA (jM c)) (yN c)) sE=none:=by
 cases h:zH (qO (xA (jM c)) (yN c)) sE with
 | none=>rfl
 | some x=>exact absurd (y8n L.gok q2q ((y5x _ _ _).1 (by rw [h];rfl))) L.gok.ne
def oZ (c:Core):List Bs:=kW (zN c) (qO (xA (jM c)) (yN c))
def hH (c:Core) (n:Bs):Except Int Unit:=if yC c=0 then (if n∈zN c then .ok () else .error 110) else .error (yC c)
theorem tQ {c:Core} {n:Bs} (h0:yC c=0) (h:n∈zN c):hH c n=.ok ():=by rw [hH,if_pos h0,if_pos h]
theorem j9f {c:Core} {n:Bs} (h0:yC c=0) (h:¬n∈zN c):hH c n=.error 110:=by rw [hH,if_pos h0,if_neg h]
theorem j2u {c:Core} {n:Bs} (h0:¬yC c=0):hH c n=.error (yC c):=if_neg h0
theorem q1s {c:Core} {n:Bs} {x:Unit} (h:hH c n=.ok x):yC c=0∧n∈zN c:=by
 unfold hH at h;split at h
 split at h
 exact ⟨by assumption,by assumption⟩
 cases h
 cases h
theorem y1b {c:Core} {n:Bs} {e:Int} (h:hH c n=.error e):¬e=0:=by
 unfold hH at h;split at h
 split at h
 cases h
 cases h;decide
 cases h;assumption
theorem q1t {d0:List Value} {c:Core} {n:Bs} (rpc:RCore Φ d0 c) (G:Glob Φ) (hL:yC c=0→LOk c) (hm:Mem Φ K w) :
  Calls prog 38 (List.toArray [.agg d0.toArray,.string n]) w (fun ee w'=>Out (hH c n) (fun _=>∃y:Fz×Addr,ee=.returned (.tuple (List.toArray [.pointer (some y.2),.int .i64 0]))∧(Φ.Le y.1∧RGraph y.1 y.2 (aI c))∧Mem y.1 K w') (fun e=>ee=.returned (.tuple (List.toArray [.pointer none,.int .i64 e]))∧Mem Φ K w')):=by
 have rpc0_:=rpc
 obtain ⟨p3,c4,p9,c10,p15,c16,p21,c22,rfl,h2,h8,h14,h20,hm5,hn6,hm11,hn12,hm17,hn18,hm23,hn24⟩:=RCore.fm rpc
 refine zL func38 ntmps38 fun Q hQ a he =>?_
 refine Bx fun b26 w hm a he =>?_
 refine go fun a he =>?_
 refine st he rfl rfl rfl (pD he rfl call41 (y0w rpc0_ G hL hm) (fun q28 y29 w hq30 hG31 hm a he =>?_) (fun q28 w hq30 hm a he =>?_))
 obtain ⟨Ψg,bg⟩:=y29
 obtain ⟨leg,rg⟩:=hG31
 simp only at leg rg hm he
 have h0:=z0w hq30
 have L_:=hL h0
 replace rpc0_:=RCore.mono _ _ _ _ leg rpc0_
 replace G:=G.mono leg
 replace hm:=hm.nf
 obtain ⟨d32,nd33,fl34,pm35,nb36,nm37,hat38,rc39,rn40,rf41,ma42,mr43⟩:=id rg
 have rc39o:=rc39
 obtain ⟨p46,c47,p52,c53,p58,c59,p64,c65,rfl,h45,h51,h57,h63,hm48,hn49,hm54,hn55,hm60,hn61,hm66,hn67⟩:=RCore.fm rc39
 obtain ⟨p68,c69,rfl,hmx70,hn71⟩:=rn40.fm
 obtain ⟨p72,c73,rfl,hmx74,hn75⟩:=rf41.fm
 refine Qq (fun a he =>?_) (o:=by exact fun he hs=>nL false he rfl rfl rfl)
 refine yK call48 (fun hB79 w hm a he =>?_) (fun hB79 w hm a he =>?_) (c:=q0d rn40 hm)
 refine wP ?_
 replace hm:=hm.dl [0]
 rw [tQ h0 (of_decide_eq_true hB79)];exact ⟨(Ψg,bg),rfl,⟨leg,rg⟩,hm⟩
 refine wP ?_
 replace hm:=hm.dl [0]
 replace hm:=hm.le (leg)
 rw [j9f h0 (of_decide_eq_false hB79)];exact ⟨rfl,hm⟩
 obtain ⟨hz_,rfl⟩:=z0v hq30
 refine wP ?_
 replace hm:=hm.dl [0]
 rw [j2u hz_];exact ⟨rfl,hm⟩
def sA (c:Core):Except Int (List Bs):=if yC c=0 then .ok (oZ c) else .error (yC c)
theorem y6g {d0:List Value} {c:Core} (rpc:RCore Φ d0 c) (G:Glob Φ) (hL:yC c=0→LOk c) (hm:Mem Φ K w) :
  Calls prog 15 (List.toArray [.agg d0.toArray]) w (fun ee w'=>Out (sA c) (fun l=>∃y:Value,ee=.returned (.tuple (List.toArray [y,.int .i64 0]))∧True∧Mem Φ (.gs y 9 1 (strs l)::K) w') (fun e=>ee=.returned (.tuple (List.toArray [.slice none 0 0,.int .i64 e]))∧Mem Φ K w')):=by
 have rpc0_:=rpc
 obtain ⟨p3,c4,p9,c10,p15,c16,p21,c22,rfl,h2,h8,h14,h20,hm5,hn6,hm11,hn12,hm17,hn18,hm23,hn24⟩:=RCore.fm rpc
 refine zL func15 ntmps15 fun Q hQ a he =>?_
 refine Bx fun b26 w hm a he =>?_
 refine go fun a he =>?_
 refine st he rfl rfl rfl (pD he rfl call41 (y0w rpc0_ G hL hm) (fun q28 y29 w hq30 hG31 hm a he =>?_) (fun q28 w hq30 hm a he =>?_))
 obtain ⟨Ψg,bg⟩:=y29
 obtain ⟨leg,rg⟩:=hG31
 simp only at leg rg hm he
 have h0:=z0w hq30
 have L_:=hL h0
 replace rpc0_:=RCore.mono _ _ _ _ leg rpc0_
 replace G:=G.mono leg
 replace hm:=hm.nf
 obtain ⟨d32,nd33,fl34,pm35,nb36,nm37,hat38,rc39,rn40,rf41,ma42,mr43⟩:=id rg
 have rc39o:=rc39
 obtain ⟨p46,c47,p52,c53,p58,c59,p64,c65,rfl,h45,h51,h57,h63,hm48,hn49,hm54,hn55,hm60,hn61,hm66,hn67⟩:=RCore.fm rc39
 obtain ⟨p68,c69,rfl,hmx70,hn71⟩:=rn40.fm
 obtain ⟨p72,c73,rfl,hmx74,hn75⟩:=rf41.fm
 refine Qq (fun a he =>?_) (o:=by exact fun he hs=>nL false he rfl rfl rfl)
 refine Reg [1,1,1,1,2,1,0,0,0,1,1] [0] fun w hm a he =>?_
 refine jF call39 (fun y79 w hG80 hm a he =>?_) (c:=z2y rg L_.tidy.inp L_.il hm)
 refine d_e he rfl rfl rfl (kT he rfl rfl call67 (uP (l:=(yN (aI c).core)) rg (by have:=L_.boundR;exact Nat.le_trans this (by decide)) hm) (fun y81 w hG82 hm=>⟨zY (by kernel_rfl),fun a he =>?_⟩))
 refine jF call42 (fun y83 w hG84 hm a he =>?_) (c:=y5m (o:=(qO (aI c).next (yN (aI c).core))) rg L_.nl hm)
 refine wP ?_
 replace hm:=hm.le (leg)
 replace hm:=hm.dl [2,1]
 rw [sA,if_pos h0];exact ⟨_,rfl,trivial,hm⟩
 obtain ⟨hz_,rfl⟩:=z0v hq30
 refine wP ?_
 replace hm:=hm.dl [0]
 rw [sA,if_neg hz_];exact ⟨rfl,hm⟩
def y8f (c:Core):Except Int (List Bs):=if yC c=0 then .ok (zN c) else .error (yC c)
theorem j2y {d0:List Value} {c:Core} (rpc:RCore Φ d0 c) (G:Glob Φ) (hL:yC c=0→LOk c) (hm:Mem Φ K w) :
  Calls prog 12 (List.toArray [.agg d0.toArray]) w (fun ee w'=>Out (y8f c) (fun l=>∃y:Value,ee=.returned (.tuple (List.toArray [y,.int .i64 0]))∧True∧Mem Φ (.gs y 9 1 (strs l)::K) w') (fun e=>ee=.returned (.tuple (List.toArray [.slice none 0 0,.int .i64 e]))∧Mem Φ K w')):=by
 have rpc0_:=rpc
 obtain ⟨p3,c4,p9,c10,p15,c16,p21,c22,rfl,h2,h8,h14,h20,hm5,hn6,hm11,hn12,hm17,hn18,hm23,hn24⟩:=RCore.fm rpc
 refine zL func12 ntmps12 fun Q hQ a he =>?_
 refine Bx fun b26 w hm a he =>?_
 refine zZ call36 (fun w hm a he =>?_) (c:=z8s rpc0_ G hm)
 by_cases h30:(yC c)=0
 refine jF call37 (fun y32 w hG33 hm a he =>?_) (c:=xM rpc0_ G (hL h30).tidy (hL h30).nl hm)
 refine wP ?_
 replace hm:=hm.dl [1]
 rw [y8f,if_pos h30];exact ⟨_,rfl,trivial,hm⟩
 refine wP ?_
 replace hm:=hm.dl [0]
 rw [y8f,if_neg h30];exact ⟨rfl,hm⟩
end Go.Sw

namespace Go.Sw
open Go.Proofs.Tryz
open Go.Proofs
set_option maxRecDepth 20000
set_option maxHeartbeats 4000000
def oO (c:Core) (l:List Bs):Int:=if yC c=0 then (if nH (zN c) (jM c) (yN c) l then (if (qO (xA (jM c)) (yN c)).length=l.length then 0 else 112) else 111) else yC c
section
variable {c:Core} {l:List Bs}
theorem j8o {o:From} {n x:Bs} (h:zH o n=some x):(zH o n).isSome=true:=by rw [h];rfl
theorem j8n {o:From} {n:Bs} (h:zH o n=none):(zH o n).isSome=false:=by rw [h];rfl
theorem j2d (h0:yC c=0) (h:nH (zN c) (jM c) (yN c) l=false):oO c l=111:=by rw [oO,if_pos h0,h];rfl
theorem j2e (h0:yC c=0) (h:nH (zN c) (jM c) (yN c) l=true) (hl:(yM (qO (xA (jM c)) (yN c))).length=l.length):oO c l=0:=by rw [z6i] at hl;rw [oO,if_pos h0,h,if_pos rfl,if_pos hl]
theorem q5f (h0:yC c=0) (h:nH (zN c) (jM c) (yN c) l=true) (hl:¬(yM (qO (xA (jM c)) (yN c))).length=l.length):oO c l=112:=by rw [z6i] at hl;rw [oO,if_pos h0,h,if_pos rfl,if_neg hl]
end
theorem j2f {Φ:Fz} {K:List Res} {w:World} {d0:List Value} {c:Core} {v:Value} {l:List Bs} (rpc:RCore Φ d0 c) (rl:SliceOf RStr Φ 1 v l) (G:Glob Φ) (hL:yC c=0→LOk c) (hm:Mem Φ K w) :
  Calls prog 17 (List.toArray [.agg d0.toArray,v]) w (fun ee w'=>ee=.returned (.int .i64 (oO c l))∧Mem Φ K w'):=by
 have rpc0_:=rpc
 obtain ⟨p3,c4,p9,c10,p15,c16,p21,c22,rfl,h2,h8,h14,h20,hm5,hn6,hm11,hn12,hm17,hn18,hm23,hn24⟩:=RCore.fm rpc
 obtain ⟨p25,c26,rfl,hmx27,hn28⟩:=rl.fm
 refine zL func17 ntmps17 fun Q hQ a he =>?_
 refine Bx fun b30 w hm a he =>?_
 refine go fun a he =>?_
 refine st he rfl rfl rfl (pD he rfl call41 (y0w rpc0_ G hL hm) (fun q32 y33 w hq34 hG35 hm a he =>?_) (fun q32 w hq34 hm a he =>?_))
 obtain ⟨Ψg,bg⟩:=y33
 obtain ⟨leg,rg⟩:=hG35
 simp only at leg rg hm he
 have h0:=z0w hq34
 have L_:=hL h0
 replace rpc0_:=RCore.mono _ _ _ _ leg rpc0_
 replace G:=G.mono leg
 replace rl:=rl.up leg
 replace hm:=hm.nf
 obtain ⟨d36,nd37,fl38,pm39,nb40,nm41,hat42,rc43,rn44,rf45,ma46,mr47⟩:=id rg
 have rc43o:=rc43
 obtain ⟨p50,c51,p56,c57,p62,c63,p68,c69,rfl,h49,h55,h61,h67,hm52,hn53,hm58,hn59,hm64,hn65,hm70,hn71⟩:=RCore.fm rc43
 obtain ⟨p72,c73,rfl,hmx74,hn75⟩:=rn44.fm
 obtain ⟨p76,c77,rfl,hmx78,hn79⟩:=rf45.fm
 refine Qq (fun a he =>?_) (o:=by exact fun he hs=>nL false he rfl rfl rfl)
 refine yK call43 (fun hB83 w hm a he =>?_) (fun hB83 w hm a he =>?_) (c:=q7d rg rl L_.tidy.inp L_.il L_.nl hm)
 refine go fun a he =>?_
 refine qB [1,1,1,2,1,0,0,0,1,1,1,1] (.q 0 (.q 1 (.q 2 (.q 3 (.q 4 (.q 8 (.q 9 (.e 5 (.e 6 (.e 7 (.q 10 (.q 11 (.done))))))))))))) [0] he hm fun w hm =>?_
 refine jF call39 (fun y85 w hG86 hm a he =>?_) (c:=z2y rg L_.tidy.inp L_.il hm)
 refine d_e he rfl rfl rfl (kT he rfl rfl call67 (uP (l:=(yN (aI c).core)) rg (Nat.le_trans L_.boundR (by decide)) hm) (fun y87 w hG88 hm=>⟨zY (by kernel_rfl),fun a he =>?_⟩))
 refine d_e he rfl rfl rfl (vN (x1s 0 he hm.toSees rfl rfl runUnderlying70) ⟨fun _=>hm.sn (Fz.Le.refl _),fun a he =>?_⟩)
 by_cases h89:(yM (qO (aI c).next (yN (aI c).core))).length=l.length
 refine zI ?_
 replace hm:=hm.le (leg)
 replace hm:=hm.dl [1,0]
 rw [j2e h0 hB83 h89];exact ⟨rfl,hm⟩
 refine zI ?_
 replace hm:=hm.le (leg)
 replace hm:=hm.dl [1,0]
 rw [q5f h0 hB83 h89];exact ⟨rfl,hm⟩
 refine zI ?_
 replace hm:=hm.le (leg)
 replace hm:=hm.dl [0]
 rw [j2d h0 hB83];exact ⟨rfl,hm⟩
 obtain ⟨hz_,rfl⟩:=z0v hq34
 refine zI ?_
 replace hm:=hm.dl [0]
 rw [oO,if_neg hz_];exact ⟨rfl,hm⟩
end Go.Sw

namespace Go.Sw
open Go.Proofs.Tryz
open Go.Proofs
set_option maxRecDepth 20000
set_option maxHeartbeats 4000000
def depP (c:Core) (n:Bs) (p:Param):Bool:=(zH (qO (xA (jM c)) [inN p.name]) n).isSome
def z0c (c:Core) (n:Bs) (l:List Param):List Bs:=(l.filter (depP c n)).map (·.name)
def q0h (c:Core) (n:Bs):List Bs:=z0c c n c.inputs
theorem q0i {c:Core} {n:Bs} {l:List Param} {i:Nat} {x:Param} (h:l[i]? = some x) (hd:depP c n x=true):z0c c n (l.drop i)=x.name::z0c c n (l.drop (i+1)):=by
 rw [zA h,z0c,List.filter_cons,if_pos hd];rfl
theorem deps_no {c:Core} {n:Bs} {l:List Param} {i:Nat} {x:Param} (h:l[i]? = some x) (hd:depP c n x=false):z0c c n (l.drop i)=z0c c n (l.drop (i+1)):=by
 rw [zA h,z0c,List.filter_cons,if_neg (by rw [hd];simp)];rfl
theorem j5g (c:Core) (n:Bs):(q0h c n).length≤c.inputs.length:=by rw [q0h,z0c,List.length_map];exact List.length_filter_le _ _
def z0h (c:Core) (n:Bs):Except Int Unit:=match hH c n with
 | .error e=>.error e
 | .ok _=>if (zH (qO (xA (jM c)) (yN c)) n).isSome then .ok () else .error 3
theorem j9o {nx:Next} {rs:List Bs} {n:Bs} {x:Unit} (h:y1o nx rs n=.ok x):(zH (qO nx rs) n).isSome=true:=by
 unfold y1o at h;split at h
 assumption
 cases h
theorem q6g {nx:Next} {rs:List Bs} {n:Bs} {x:Unit} (h:y1o nx rs n=.error x):(zH (qO nx rs) n).isSome=false:=by
 unfold y1o at h;split at h
 cases h
 exact Bool.eq_false_iff.2 (by assumption)
theorem q3z {c:Core} {n:Bs} {e:Int} (h:hH c n=.error e):z0h c n=.error e:=by rw [z0h,h]
theorem y3z {c:Core} {n:Bs} (h0:yC c=0) (hn:n∈zN c) (h:(zH (qO (xA (jM c)) (yN c)) n).isSome=true):z0h c n=.ok ():=by simp only [z0h,tQ h0 hn,h,if_true]
theorem y3y {c:Core} {n:Bs} (h0:yC c=0) (hn:n∈zN c) (h:(zH (qO (xA (jM c)) (yN c)) n).isSome=false):z0h c n=.error 3:=by simp only [z0h,tQ h0 hn,h];rfl
theorem q0g {Φ:Fz} {K:List Res} {w:World} {d0:List Value} {c:Core} {n:Bs} (rpc:RCore Φ d0 c) (G:Glob Φ) (hL:yC c=0→LOk c) (hm:Mem Φ K w) :
  Calls prog 14 (List.toArray [.agg d0.toArray,.string n]) w (fun ee w'=>Out (hH c n) (fun _=>∃y:Value,ee=.returned (.tuple (List.toArray [y,.int .i64 0]))∧True∧Mem Φ (.gs y 9 1 (strs (q0h c n))::K) w') (fun e=>ee=.returned (.tuple (List.toArray [.slice none 0 0,.int .i64 e]))∧Mem Φ K w')):=by
 have rpc0_:=rpc
 obtain ⟨p3,c4,p9,c10,p15,c16,p21,c22,rfl,h2,h8,h14,h20,hm5,hn6,hm11,hn12,hm17,hn18,hm23,hn24⟩:=RCore.fm rpc
 refine zL func14 ntmps14 fun Q hQ a he =>?_
 refine Bx fun b26 w hm a he =>?_
 refine go fun a he =>?_
 refine st he rfl rfl rfl (pD he rfl call38 (q1t rpc0_ G hL hm) (fun q28 y29 w hq30 hG31 hm a he =>?_) (fun q28 w hq30 hm a he =>?_))
 obtain ⟨Ψg,bg⟩:=y29
 obtain ⟨leg,rg⟩:=hG31
 simp only at leg rg hm he
 obtain ⟨h0,hn_⟩:=q1s hq30
 have L_:=hL h0
 replace rpc0_:=RCore.mono _ _ _ _ leg rpc0_
 replace G:=G.mono leg
 replace hm:=hm.nf
 obtain ⟨d32,nd33,fl34,pm35,nb36,nm37,hat38,rc39,rn40,rf41,ma42,mr43⟩:=id rg
 have rc39o:=rc39
 obtain ⟨p46,c47,p52,c53,p58,c59,p64,c65,rfl,h45,h51,h57,h63,hm48,hn49,hm54,hn55,hm60,hn61,hm66,hn67⟩:=RCore.fm rc39
 obtain ⟨p68,c69,rfl,hmx70,hn71⟩:=rn40.fm
 obtain ⟨p72,c73,rfl,hmx74,hn75⟩:=rf41.fm
 refine Qq (fun a he =>?_) (o:=by exact fun he hs=>nL false he rfl rfl rfl)
 refine go fun a he =>?_
 replace hm:=hm.nilRow 9 1
 replace hm:=hm.nf
 refine go fun a he =>?_
 refine yF (he.ks [1,6,26,27]) hm (fun R mm a w=>∃(i:Nat) (u:Value) (acc:List Bs),mm=c.inputs.length - i∧R Ψg [(8,u),(28,.int .i64 ((i:Nat):Int))] [(0,.gs (u) 9 1 (strs acc))] a w∧(q0h c n=acc++z0c c n (c.inputs.drop i))) (c.inputs.length - 0) ⟨0,.slice none 0 0,[],rfl,⟨he.pk,hm⟩,rfl⟩ ?_
 clear hm he
 rintro mm a w ⟨i,u,acc,hmu,⟨he,hm⟩,hI82⟩ L81 hL81
 replace hm:=hm.nf
 by_cases h84:i < c.inputs.length
 refine go fun a he =>?_
 obtain ⟨q88,rfl,x89,hx90,cs91,hl92,ha93,hr94⟩:=h51.el hn55 h84
 obtain rfl:=id hr94
 refine Alc fun b95 w hm a he =>?_
 refine Sto 0 fun w hm a he =>?_
 refine go fun a he =>?_
 refine qB [1,1,1,2,1,2,1,0,0,0,1,0,1,1,1,1,1] (.q 0 (.q 1 (.q 2 (.q 3 (.q 4 (.q 5 (.q 6 (.q 10 (.e 7 (.e 8 (.e 9 (.e 11 (.q 12 (.q 13 (.q 14 (.q 15 (.q 16 (.done)))))))))))))))))) [0,1,2] he hm fun w hm =>?_
 have hz1_:=L_.tidy.inp _ (List.mem_of_getElem? hx90)
 refine yJ fun a he =>?_
 refine zZ call40 (fun w hm a he =>?_) (c:=z9t (by omega) hm)
 refine qW fun v97 w hm a he =>?_
 refine d_e he rfl rfl rfl (kT he rfl rfl call67 (uP (l:=[(inN x89.name)]) rg (Nat.le_trans (L_.bound _) (by simp)) hm) (fun y98 w hG99 hm=>⟨fun _=>hm.sn (Fz.Le.refl _),fun a he =>?_⟩))
 rcases hf100:yA ((yM (qO (aI c).next [(inN x89.name)]))) n with _ | vf101
 have hf100_:=congrArg (zF true (.string ⟨#[]⟩)) hf100
 refine d_e he rfl rfl rfl (vN (Ok.cast (zQ 0 runUnderlying70 runUnderlying9 zeroValue9 he hm.toSees rfl rfl rfl) (show zF true (.string ⟨#[]⟩) (yA ((yM (qO (aI c).next [(inN x89.name)]))) n)=.tuple (List.toArray [.string ⟨#[]⟩,.bool false]) from hf100_)) ⟨fun _=>hm.sn (Fz.Le.refl _),fun a he =>?_⟩)
 have hd_:depP c n x89=false:=(j8n (kI hf100))
 refine go fun a he =>?_
 replace hm:=hm.dl [1,0]
 refine hL81 _ _ _ (by subst hmu;omega) ⟨(i+1),(u),(acc),rfl,⟨he.pk,hm⟩,?_⟩
 rw [hI82,deps_no (l:=c.inputs) hx90 hd_]
 obtain ⟨y103,hy104,rfl⟩:=kJ hf100
 have hf100_:=congrArg (zF true (.string ⟨#[]⟩)) hf100
 refine d_e he rfl rfl rfl (vN (Ok.cast (zQ 0 runUnderlying70 runUnderlying9 zeroValue9 he hm.toSees rfl rfl rfl) (show zF true (.string ⟨#[]⟩) (yA ((yM (qO (aI c).next [(inN x89.name)]))) n)=.tuple (List.toArray [.string y103,.bool true]) from hf100_)) ⟨fun _=>hm.sn (Fz.Le.refl _),fun a he =>?_⟩)
 have hd_:depP c n x89=true:=(j8o hy104)
 refine qW fun v106 w hm a he =>?_
 refine qL 3 pS (fun v107 w hm a he =>?_) (hb:=by have hq_:=congrArg List.length hI82;rw [q0i (l:=c.inputs) hx90 hd_] at hq_;have hz_:=j5g c n;have hl_:=L_.il;simp only [List.length_append,yH,List.length_cons,List.length_nil] at hq_ ⊢;omega)
 replace hm:Mem Ψg (.gs (v106) 9 1 [.string x89.name]::.mp y98 (yM (qO (aI c).next [(inN x89.name)]))::.blk b95 (ob [.string x89.name,.string x89.type] 36)::.gs (v107) 9 1 (strs (acc++[x89.name]))::.blk b26 (ob [.slice p3 c.datas.length c4,.slice p9 c.inputs.length c10,.slice p15 c.funs.length c16,.slice p21 c.outputs.length c22] 27)::K) w:=by rw [qY] at hm;exact hm
 refine go fun a he =>?_
 replace hm:=hm.dl [2,1,0]
 refine hL81 _ _ _ (by subst hmu;omega) ⟨(i+1),(v107),((acc++[x89.name])),rfl,⟨he.pk,hm⟩,?_⟩
 rw [hI82,q0i (l:=c.inputs) hx90 hd_];simp
 refine wP ?_
 replace hm:=hm.le (leg)
 replace hm:=hm.dl [1]
 have h_:=hI82
 rw [zE h84,z0c,List.filter_nil,List.map_nil,List.append_nil] at h_
 rw [tQ h0 hn_,h_];exact ⟨_,rfl,trivial,hm⟩
 have hz_:=y1b hq30
 refine wP ?_
 replace hm:=hm.dl [0]
 rw [hq30];exact ⟨rfl,hm⟩
theorem y4a {Φ:Fz} {K:List Res} {w:World} {d0:List Value} {c:Core} {n:Bs} (rpc:RCore Φ d0 c) (G:Glob Φ) (hL:yC c=0→LOk c) (hm:Mem Φ K w) :
  Calls prog 26 (List.toArray [.agg d0.toArray,.string n]) w (fun ee w'=>Out (z0h c n) (fun _=>∃y:Value×List Bs,ee=.returned (.tuple (List.toArray [y.1,.int .i64 0]))∧PathOk (xA (jM c)) (yN c) n y.2∧Mem Φ (.gs y.1 9 1 (strs y.2)::K) w') (fun e=>ee=.returned (.tuple (List.toArray [.slice none 0 0,.int .i64 e]))∧Mem Φ K w')):=by
 have rpc0_:=rpc
 obtain ⟨p3,c4,p9,c10,p15,c16,p21,c22,rfl,h2,h8,h14,h20,hm5,hn6,hm11,hn12,hm17,hn18,hm23,hn24⟩:=RCore.fm rpc
 refine zL func26 ntmps26 fun Q hQ a he =>?_
 refine Bx fun b26 w hm a he =>?_
 refine go fun a he =>?_
 refine st he rfl rfl rfl (pD he rfl call38 (q1t rpc0_ G hL hm) (fun q28 y29 w hq30 hG31 hm a he =>?_) (fun q28 w hq30 hm a he =>?_))
 obtain ⟨Ψg,bg⟩:=y29
 obtain ⟨leg,rg⟩:=hG31
 simp only at leg rg hm he
 obtain ⟨h0,hn_⟩:=q1s hq30
 have L_:=hL h0
 replace rpc0_:=RCore.mono _ _ _ _ leg rpc0_
 replace G:=G.mono leg
 replace hm:=hm.nf
 obtain ⟨d32,nd33,fl34,pm35,nb36,nm37,hat38,rc39,rn40,rf41,ma42,mr43⟩:=id rg
 have rc39o:=rc39
 obtain ⟨p46,c47,p52,c53,p58,c59,p64,c65,rfl,h45,h51,h57,h63,hm48,hn49,hm54,hn55,hm60,hn61,hm66,hn67⟩:=RCore.fm rc39
 obtain ⟨p68,c69,rfl,hmx70,hn71⟩:=rn40.fm
 obtain ⟨p72,c73,rfl,hmx74,hn75⟩:=rf41.fm
 refine Qq (fun a he =>?_) (o:=by exact fun he hs=>nL false he rfl rfl rfl)
 refine go fun a he =>?_
 refine st he rfl rfl rfl (pD he rfl call51 (j9p rg (Nat.le_trans L_.boundR (by decide)) L_.se L_.tidy.inp L_.il hm) (fun q79 y80 w hq81 hG82 hm a he =>?_) (fun q79 w hq81 hm a he =>?_))
 obtain ⟨pv,pl⟩:=y80
 have hpo_:=hG82
 simp only at hpo_ hm he
 have hre_:=j9o hq81
 replace hm:=hm.nf
 refine wP ?_
 replace hm:=hm.le (leg)
 replace hm:=hm.dl [1]
 rw [y3z h0 hn_ hre_];exact ⟨(pv,pl),rfl,hpo_,hm⟩
 have hre_:=q6g hq81
 refine wP ?_
 replace hm:=hm.le (leg)
 replace hm:=hm.dl [0]
 rw [y3y h0 hn_ hre_];exact ⟨rfl,hm⟩
 have hz_:=y1b hq30
 refine wP ?_
 replace hm:=hm.dl [0]
 rw [q3z hq30];exact ⟨rfl,hm⟩
end Go.Sw

namespace Go.Sw
open Go.Proofs
set_option maxRecDepth 20000
set_option maxHeartbeats 4000000
section
variable {nx:Next} {rs l m p:List Bs} {n x y:Bs} {i:Nat}
theorem PathOk.way (h:PathOk nx rs n l):Way nx rs (l.length - 1) n:=by
 obtain ⟨p,rfl,h2,h3,_⟩:=h
 have:=x1m h2 h3
 rw [List.length_append];exact this
theorem PathOk.pos (h:PathOk nx rs n l):0 < l.length:=by obtain ⟨p,rfl,_⟩:=h;simp
theorem PathOk.len (h:PathOk nx rs n l) (g:PathOk nx rs n m):l.length=m.length:=by
 have a:=h.way;have b:=g.way;have c:=h.pos;have d:=g.pos
 obtain ⟨p,e1,_,_,h4⟩:=h
 obtain ⟨q,e2,_,_,g4⟩:=g
 have h5:=h4 _ b;have g5:=g4 _ a
 have l1:=congrArg List.length e1;have l2:=congrArg List.length e2
 rw [List.length_append] at l1 l2;simp only [List.length_cons,List.length_nil] at l1 l2;omega
end
end Go.Sw

namespace Go.Sw
end Go.Sw

namespace Go.Sw
open Go.Proofs
def seqR:Code→Code
 | .seq _ y=>y
 | c=>c
section
variable {ws:List Bs} {f j n:Nat} {c:Core}
theorem j0o (h:¬j < ws.length) (hf:0 < f):jA ws f c j=.ok c:=by
 obtain ⟨f,rfl⟩:∃k,f=k+1:=⟨f - 1,by omega⟩
 rw [jA,if_neg h]
theorem q4f {x:Data×Nat} (h:j < ws.length) (hf:0 < f) (hk:zC ws j=⟨#[100,97,116,97]⟩) (hx:aB ws (j+1)=.ok x):jA ws f c j=jA ws (f - 1) { c with datas:=c.datas++[x.1] } x.2:=by
 obtain ⟨f,rfl⟩:∃k,f=k+1:=⟨f - 1,by omega⟩
 rw [jA,if_pos h,if_pos (show zC ws j=z0d from hk),hx];rfl
theorem q0e (h:j < ws.length) (hf:0 < f) (hk:zC ws j=⟨#[100,97,116,97]⟩) (hx:aB ws (j+1)=.error n):jA ws f c j=.error n:=by
 obtain ⟨f,rfl⟩:∃k,f=k+1:=⟨f - 1,by omega⟩
 rw [jA,if_pos h,if_pos (show zC ws j=z0d from hk),hx]
theorem q0f {x:Param×Nat} (h:j < ws.length) (hf:0 < f) (h1:¬zC ws j=⟨#[100,97,116,97]⟩) (hk:zC ws j=⟨#[105,110,112,117,116]⟩) (hx:kX ws (j+1)=.ok x):jA ws f c j=jA ws (f - 1) { c with inputs:=c.inputs++[x.1] } x.2:=by
 obtain ⟨f,rfl⟩:∃k,f=k+1:=⟨f - 1,by omega⟩
 rw [jA,if_pos h,if_neg (show ¬zC ws j=z0d from h1),if_pos (show zC ws j=tI from hk),hx];rfl
theorem y7e (h:j < ws.length) (hf:0 < f) (h1:¬zC ws j=⟨#[100,97,116,97]⟩) (hk:zC ws j=⟨#[105,110,112,117,116]⟩) (hx:kX ws (j+1)=.error n):jA ws f c j=.error n:=by
 obtain ⟨f,rfl⟩:∃k,f=k+1:=⟨f - 1,by omega⟩
 rw [jA,if_pos h,if_neg (show ¬zC ws j=z0d from h1),if_pos (show zC ws j=tI from hk),hx]
theorem j0p {x:Fun×Nat} (h:j < ws.length) (hf:0 < f) (h1:¬zC ws j=⟨#[100,97,116,97]⟩) (h2:¬zC ws j=⟨#[105,110,112,117,116]⟩) (hk:zC ws j=⟨#[102,117,110]⟩) (hx:cR ws (j+1)=.ok x):jA ws f c j=jA ws (f - 1) { c with funs:=c.funs++[x.1] } x.2:=by
 obtain ⟨f,rfl⟩:∃k,f=k+1:=⟨f - 1,by omega⟩
 rw [jA,if_pos h,if_neg (show ¬zC ws j=z0d from h1),if_neg (show ¬zC ws j=tI from h2),if_pos (show zC ws j=kFun from hk),hx];rfl
theorem q4g (h:j < ws.length) (hf:0 < f) (h1:¬zC ws j=⟨#[100,97,116,97]⟩) (h2:¬zC ws j=⟨#[105,110,112,117,116]⟩) (hk:zC ws j=⟨#[102,117,110]⟩) (hx:cR ws (j+1)=.error n):jA ws f c j=.error n:=by
 obtain ⟨f,rfl⟩:∃k,f=k+1:=⟨f - 1,by omega⟩
 rw [jA,if_pos h,if_neg (show ¬zC ws j=z0d from h1),if_neg (show ¬zC ws j=tI from h2),if_pos (show zC ws j=kFun from hk),hx]
theorem j0q {x:Bs×Nat} (h:j < ws.length) (hf:0 < f) (h1:¬zC ws j=⟨#[100,97,116,97]⟩) (h2:¬zC ws j=⟨#[105,110,112,117,116]⟩) (h3:¬zC ws j=⟨#[102,117,110]⟩) (hk:zC ws j=⟨#[111,117,116,112,117,116]⟩) (hx:nD ws (j+1)=.ok x):jA ws f c j=jA ws (f - 1) { c with outputs:=c.outputs++[x.1] } x.2:=by
 obtain ⟨f,rfl⟩:∃k,f=k+1:=⟨f - 1,by omega⟩
 rw [jA,if_pos h,if_neg (show ¬zC ws j=z0d from h1),if_neg (show ¬zC ws j=tI from h2),if_neg (show ¬zC ws j=kFun from h3),if_pos (show zC ws j=z7x from hk),hx];rfl
theorem q4h (h:j < ws.length) (hf:0 < f) (h1:¬zC ws j=⟨#[100,97,116,97]⟩) (h2:¬zC ws j=⟨#[105,110,112,117,116]⟩) (h3:¬zC ws j=⟨#[102,117,110]⟩) (hk:zC ws j=⟨#[111,117,116,112,117,116]⟩) (hx:nD ws (j+1)=.error n):jA ws f c j=.error n:=by
 obtain ⟨f,rfl⟩:∃k,f=k+1:=⟨f - 1,by omega⟩
 rw [jA,if_pos h,if_neg (show ¬zC ws j=z0d from h1),if_neg (show ¬zC ws j=tI from h2),if_neg (show ¬zC ws j=kFun from h3),if_pos (show zC ws j=z7x from hk),hx]
theorem j0n (h:j < ws.length) (hf:0 < f) (h1:¬zC ws j=⟨#[100,97,116,97]⟩) (h2:¬zC ws j=⟨#[105,110,112,117,116]⟩) (h3:¬zC ws j=⟨#[102,117,110]⟩) (h4:¬zC ws j=⟨#[111,117,116,112,117,116]⟩):jA ws f c j=.error (j+1):=by
 obtain ⟨f,rfl⟩:∃k,f=k+1:=⟨f - 1,by omega⟩
 rw [jA,if_pos h,if_neg (show ¬zC ws j=z0d from h1),if_neg (show ¬zC ws j=tI from h2),if_neg (show ¬zC ws j=kFun from h3),if_neg (show ¬zC ws j=z7x from h4)]
end
end Go.Sw

namespace Go.Sw
open Go.Proofs.Tryz
open Go.Proofs
set_option maxRecDepth 20000
set_option maxHeartbeats 4000000
theorem j3i {Φ:Fz} {K:List Res} {w:World} {a:Act} {D:List Deferred} {Q:Exit→Act→World→Prop} {rs:Value} {ws:List Bs} {c0 wd rp r:Nat} (G:Glob Φ) (hE:oE ws 250) (rl:SliceOf RStr Φ 1 rs ws) (hws:ws.length≤1000000)
  (hR:∀{Ψ:Fz} {a:Act} {w:World} {C:Core} {u0 u1 u2 u3:Value},jA ws (ws.length+1) ⟨[],[],[],[]⟩ 0=.ok C→Φ.Le Ψ→SliceOf RData Ψ 2 u0 C.datas→SliceOf RParam Ψ 2 u1 C.inputs→SliceOf RFun Ψ 8 u2 C.funs→EnvR 96 [(3,.pointer (some ⟨wd,0,none⟩)),(2,.pointer (some ⟨c0,0,none⟩))] D a→Mem Ψ (.blk c0 (ob [u0,u1,u2,u3] 27)::.blk wd (ob [.int .i64 ((0:Nat):Int)] 3)::.gs u3 9 1 (strs C.outputs)::K) w→Q .ret a w)
  (hP:∀{Ψ:Fz} {a:Act} {w:World} {n:Nat} {u0 u1 u2 u3 x:Value},jA ws (ws.length+1) ⟨[],[],[],[]⟩ 0=.error n→Φ.Le Ψ→EnvR 96 [(3,.pointer (some ⟨wd,0,none⟩)),(2,.pointer (some ⟨c0,0,none⟩))] D a→Mem Ψ (.blk c0 (ob [u0,u1,u2,u3] 27)::.blk wd (ob [x] 3)::K) w→Q (.panic (mI n)) a w)
  (he:EnvR 96 [(2,.pointer (some ⟨c0,0,none⟩)),(3,.pointer (some ⟨wd,0,none⟩)),(4,.pointer (some ⟨rp,0,none⟩))] D a) (hm:Mem Φ (.blk r (ob [rs,.int .i64 ((0:Nat):Int)] 210)::.blk rp (ob [.pointer (some ⟨r,0,none⟩)] 208)::.blk c0 (ob [.slice none 0 0,.slice none 0 0,.slice none 0 0,.slice none 0 0] 27)::.blk wd (ob [.int .i64 ((0:Nat):Int)] 3)::K) w) :
  (seqR (seqR (seqR (seqR (Tryz.f98.body.getD .skip))))).wp prog Q a w:=by
 obtain ⟨pw,cw,rfl,hmw,hnw⟩:=rl.fm
 change (Code.seq _ _).wp _ _ _ _
 refine go fun a he =>?_
 replace hm:=hm.nilRow 126 2
 replace hm:=hm.nf
 replace hm:=hm.nilRow 36 2
 replace hm:=hm.nf
 replace hm:=hm.nilRow 112 8
 replace hm:=hm.nf
 replace hm:=hm.nilRow 9 1
 replace hm:=hm.nf
 refine yF (he.ks [2,3,4]) hm (fun R mm a w=>∃(Ψ2:Fz) (j:Nat) (f:Nat) (u0:Value) (u1:Value) (u2:Value) (u3:Value) (d0:List Value) (d1:List Value) (d2:List Value) (C:Core),mm=ws.length - j∧R Ψ2 [] [(0,.gs (u3) 9 1 (strs C.outputs)),(1,.gs (u2) 112 8 d2),(2,.gs (u1) 36 2 d1),(3,.gs (u0) 126 2 d0),(4,.blk r (ob [.slice pw ws.length cw,.int .i64 ((j:Nat):Int)] 210)),(6,.blk c0 (ob [u0,u1,u2,u3] 27))] a w∧(Φ.Le Ψ2∧(Chunks (RData Ψ2) 2 d0 C.datas∧Chunks (RParam Ψ2) 2 d1 C.inputs∧Chunks (RFun Ψ2) 8 d2 C.funs∧(C.datas.length≤j∧C.inputs.length≤j∧C.funs.length≤j∧C.outputs.length≤j)∧j≤ws.length∧ws.length+1≤j+f∧jA ws (ws.length+1) ⟨[],[],[],[]⟩ 0=jA ws f C j))) (ws.length - 0) ⟨Φ,0,ws.length+1,.slice none 0 0,.slice none 0 0,.slice none 0 0,.slice none 0 0,[],[],[],⟨[],[],[],[]⟩,rfl,⟨he.pk,hm⟩,⟨Fz.Le.refl _,⟨rfl,rfl,rfl,⟨Nat.le_refl _,Nat.le_refl _,Nat.le_refl _,Nat.le_refl _⟩,Nat.zero_le _,by omega,rfl⟩⟩⟩ ?_
 clear hm he
 rintro mm a w ⟨Ψ2,j,f,u0,u1,u2,u3,d0,d1,d2,C,hmu,⟨he,hm⟩,hI5⟩ L4 hL4
 replace hm:=hm.nf
 obtain ⟨le3,hI5⟩:=hI5
 replace rl:=rl.up le3
 replace G:=G.mono le3
 obtain ⟨hch0,hch1,hch2,hln_,hj,hf_,hI_⟩:=hI5
 refine Reg [2,1,1,2,2,1,1,2,1,1] [0,1,2,3,4,5,6,7] fun w hm a he =>?_
 by_cases h8:j < ws.length
 refine Sto 4 fun w hm a he =>?_
 refine Reg [2,1,1,2,2,1,1,2,1,1,2] [0,1,2,3,4,5,6,7] fun w hm a he =>?_
 refine Qq (fun a he =>?_) (o:=by exact fun he hs=>pY ((j:Nat):Int) he rfl rfl (by rw [yX (by omega)];omega))
 obtain ⟨q11,rfl,x12,hx13,cs14,hl15,ha16,hr17⟩:=rl.el hnw h8
 obtain rfl:cs14=[.string x12]:=hr17
 by_cases h19:x12=(⟨#[100,97,116,97]⟩:ByteArray)
 refine go fun a he =>?_
 refine aW (E0:=[(3,.pointer (some ⟨wd,0,none⟩)),(2,.pointer (some ⟨c0,0,none⟩))]) [1,2,2,0,0,0,1,0] (.q 0 (.q 1 (.q 2 (.e 3 (.e 4 (.e 5 (.q 6 (.e 7 (.done))))))))) [.gs (u3) 9 1 (strs C.outputs),.gs (u2) 112 8 d2,.gs (u1) 36 2 d1,.blk rp (ob [.pointer (some ⟨r,0,none⟩)] 208),.blk c0 (ob [u0,u1,u2,u3] 27),.blk wd (ob [.int .i64 ((0:Nat):Int)] 3)] (he.pk) hm mixed (by kernel_rfl) (by simp) (by kernel_rfl) fun w hm =>?_
 refine go fun a he =>?_
 replace hm:=hm.pl 4
 refine d_e he rfl rfl rfl (z3y he rfl call139 (j9t G (i:=(j+1)) rl hws (by omega) hm) (fun q20 y21 w hq22 hG23 hm=>⟨fun _=>hm.sn ((Fz.Le.refl _).trans (hG23.1)),fun a he =>?_⟩) (fun q20 w hq22 hm=>fun a he =>?_))
 obtain ⟨Ψ24,d25⟩:=y21
 obtain ⟨le26,hr27⟩:=hG23
 simp only at le26 hr27 hm he
 have hgo28:=data_le hq22
 replace rl:=rl.up le26
 replace G:=G.mono le26
 replace hch0:=hch0.mono fun _ _ h=>RData.mono _ _ _ _ le26 h
 replace hch1:=hch1.mono fun _ _ h=>RParam.mono _ _ _ _ le26 h
 replace hch2:=hch2.mono fun _ _ h=>RFun.mono _ _ _ _ le26 h
 replace ha16:=ha16.mono le26
 replace hm:=hm.nf
 obtain ⟨s29,rfl,h30⟩:=id hr27
 obtain ⟨p31,c32,rfl,hm33,hn34⟩:=h30.fm
 refine qW fun v35 w hm a he =>?_
 refine qL 5 rt_22 (fun v36 w hm a he =>?_) (hb:=by have h_:=hch0.length;rw [h_];simp only [List.length_cons,List.length_nil];omega)
 refine Sto 7 fun w hm a he =>?_
 refine go fun a he =>?_
 replace hm:=hm.ar [0] [7,7,7,3,7,7,7,7]
 refine hL4 _ _ _ (by subst hmu;omega) ⟨(Ψ24),(q20.2),(f - 1),(v36),(u1),(u2),(u3),((d0++[.string q20.1.name,.slice p31 q20.1.cons.length c32])),(d1),(d2),({ C with datas:=C.datas++[q20.1] }),rfl,⟨he.pk,by exact hm⟩,?_⟩
 refine ⟨(le3).trans le26,?_⟩
 exact ⟨(hch0.snoc (k:=2) (x:=q20.1) rfl hr27),hch1,hch2,⟨by show (C.datas++[q20.1]).length≤_;simp only [List.length_append,List.length_cons,List.length_nil];omega,by show C.inputs.length≤_;omega,by show C.funs.length≤_;omega,by show C.outputs.length≤_;omega⟩,by omega,by omega,hI_.trans (q4f h8 (by omega) ((jL hx13).trans h19) hq22)⟩
 replace hm:=hm.dl [4,3,2,1,0]
 exact hP (hI_.trans (q0e h8 (by omega) ((jL hx13).trans h19) hq22)) (le3) (he.pk) hm
 by_cases h38:x12=(⟨#[105,110,112,117,116]⟩:ByteArray)
 refine go fun a he =>?_
 refine aW (E0:=[(3,.pointer (some ⟨wd,0,none⟩)),(2,.pointer (some ⟨c0,0,none⟩))]) [1,2,2,0,0,0,1,0] (.q 0 (.q 1 (.q 2 (.e 3 (.e 4 (.e 5 (.q 6 (.e 7 (.done))))))))) [.gs (u3) 9 1 (strs C.outputs),.gs (u2) 112 8 d2,.gs (u0) 126 2 d0,.blk rp (ob [.pointer (some ⟨r,0,none⟩)] 208),.blk c0 (ob [u0,u1,u2,u3] 27),.blk wd (ob [.int .i64 ((0:Nat):Int)] 3)] (he.pk) hm mixed (by kernel_rfl) (by simp) (by kernel_rfl) fun w hm =>?_
 refine go fun a he =>?_
 replace hm:=hm.pl 4
 refine d_e he rfl rfl rfl (z3x he rfl call140 (y6a G (i:=(j+1)) rl hws (by omega) hm) (fun q39 w hq40 hm=>⟨fun _=>hm.sn (Fz.Le.refl _),fun a he =>?_⟩) (fun q39 w hq40 hm=>fun a he =>?_))
 have hleq39:=q2c hq40
 refine qW fun v41 w hm a he =>?_
 refine qL 4 rt_23 (fun v42 w hm a he =>?_) (hb:=by have h_:=hch1.length;rw [h_];simp only [List.length_cons,List.length_nil];omega)
 refine Sto 7 fun w hm a he =>?_
 refine go fun a he =>?_
 replace hm:=hm.ar [0] [7,7,7,3,7,7,7,7]
 refine hL4 _ _ _ (by subst hmu;omega) ⟨(Ψ2),(q39.2),(f - 1),(u0),(v42),(u2),(u3),(d0),((d1++[.string q39.1.name,.string q39.1.type])),(d2),({ C with inputs:=C.inputs++[q39.1] }),rfl,⟨he.pk,by exact hm⟩,?_⟩
 refine ⟨le3,?_⟩
 exact ⟨hch0,(hch1.snoc (k:=2) (x:=q39.1) rfl rfl),hch2,⟨by show C.datas.length≤_;omega,by show (C.inputs++[q39.1]).length≤_;simp only [List.length_append,List.length_cons,List.length_nil];omega,by show C.funs.length≤_;omega,by show C.outputs.length≤_;omega⟩,by omega,by omega,hI_.trans (q0f h8 (by omega) (fun h_=>h19 ((jL hx13).symm.trans h_)) ((jL hx13).trans h38) hq40)⟩
 replace hm:=hm.dl [4,3,2,1,0]
 exact hP (hI_.trans (y7e h8 (by omega) (fun h_=>h19 ((jL hx13).symm.trans h_)) ((jL hx13).trans h38) hq40)) (le3) (he.pk) hm
 by_cases h44:x12=(⟨#[102,117,110]⟩:ByteArray)
 refine go fun a he =>?_
 refine aW (E0:=[(3,.pointer (some ⟨wd,0,none⟩)),(2,.pointer (some ⟨c0,0,none⟩))]) [1,2,2,0,0,0,1,0] (.q 0 (.q 1 (.q 2 (.e 3 (.e 4 (.e 5 (.q 6 (.e 7 (.done))))))))) [.gs (u3) 9 1 (strs C.outputs),.gs (u1) 36 2 d1,.gs (u0) 126 2 d0,.blk rp (ob [.pointer (some ⟨r,0,none⟩)] 208),.blk c0 (ob [u0,u1,u2,u3] 27),.blk wd (ob [.int .i64 ((0:Nat):Int)] 3)] (he.pk) hm mixed (by kernel_rfl) (by simp) (by kernel_rfl) fun w hm =>?_
 refine go fun a he =>?_
 replace hm:=hm.pl 4
 refine d_e he rfl rfl rfl (z3y he rfl call141 (rfun_ok hE G (i:=(j+1)) rl hws (by omega) hm) (fun q45 y46 w hq47 hG48 hm=>⟨fun _=>hm.sn ((Fz.Le.refl _).trans (hG48.1)),fun a he =>?_⟩) (fun q45 w hq47 hm=>fun a he =>?_))
 obtain ⟨Ψ49,d50⟩:=y46
 obtain ⟨le51,hr52⟩:=hG48
 simp only at le51 hr52 hm he
 have hgo53:=fun_le hq47
 replace rl:=rl.up le51
 replace G:=G.mono le51
 replace hch0:=hch0.mono fun _ _ h=>RData.mono _ _ _ _ le51 h
 replace hch1:=hch1.mono fun _ _ h=>RParam.mono _ _ _ _ le51 h
 replace hch2:=hch2.mono fun _ _ h=>RFun.mono _ _ _ _ le51 h
 replace ha16:=ha16.mono le51
 replace hm:=hm.nf
 obtain ⟨s54,b60,rfl,h55,h61⟩:=id hr52
 obtain ⟨p56,c57,rfl,hm58,hn59⟩:=h55.fm
 obtain ⟨p64,c65,p70,c71,rfl,hi74,h63,h69,hm66,hn67,hm72,hn73⟩:=REx.fm h61
 refine qW fun v75 w hm a he =>?_
 refine qL 3 rt_24 (fun v76 w hm a he =>?_) (hb:=by have h_:=hch2.length;rw [h_];simp only [List.length_cons,List.length_nil];omega)
 refine Sto 7 fun w hm a he =>?_
 refine go fun a he =>?_
 replace hm:=hm.ar [0] [7,7,7,3,7,7,7,7]
 refine hL4 _ _ _ (by subst hmu;omega) ⟨(Ψ49),(q45.2),(f - 1),(u0),(u1),(v76),(u3),(d0),(d1),((d2++[.string q45.1.name,.slice p56 q45.1.params.length c57,.string q45.1.result,.int .i64 (q45.1.body.kind),.int .i64 (q45.1.body.num),.string q45.1.body.name,.slice p64 q45.1.body.args.length c65,.slice p70 q45.1.body.arms.length c71])),({ C with funs:=C.funs++[q45.1] }),rfl,⟨he.pk,by exact hm⟩,?_⟩
 refine ⟨(le3).trans le51,?_⟩
 exact ⟨hch0,hch1,(hch2.snoc (k:=8) (x:=q45.1) rfl hr52),⟨by show C.datas.length≤_;omega,by show C.inputs.length≤_;omega,by show (C.funs++[q45.1]).length≤_;simp only [List.length_append,List.length_cons,List.length_nil];omega,by show C.outputs.length≤_;omega⟩,by omega,by omega,hI_.trans (j0p h8 (by omega) (fun h_=>h19 ((jL hx13).symm.trans h_)) (fun h_=>h38 ((jL hx13).symm.trans h_)) ((jL hx13).trans h44) hq47)⟩
 replace hm:=hm.dl [4,3,2,1,0]
 exact hP (hI_.trans (q4g h8 (by omega) (fun h_=>h19 ((jL hx13).symm.trans h_)) (fun h_=>h38 ((jL hx13).symm.trans h_)) ((jL hx13).trans h44) hq47)) (le3) (he.pk) hm
 refine go fun a he =>?_
 by_cases h78:x12=(⟨#[111,117,116,112,117,116]⟩:ByteArray)
 refine go fun a he =>?_
 refine aW (E0:=[(3,.pointer (some ⟨wd,0,none⟩)),(2,.pointer (some ⟨c0,0,none⟩))]) [1,2,2,0,0,0,1,0] (.q 0 (.q 1 (.q 2 (.e 3 (.e 4 (.e 5 (.q 6 (.e 7 (.done))))))))) [.gs (u2) 112 8 d2,.gs (u1) 36 2 d1,.gs (u0) 126 2 d0,.blk rp (ob [.pointer (some ⟨r,0,none⟩)] 208),.blk c0 (ob [u0,u1,u2,u3] 27),.blk wd (ob [.int .i64 ((0:Nat):Int)] 3)] (he.pk) hm mixed (by kernel_rfl) (by simp) (by kernel_rfl) fun w hm =>?_
 refine go fun a he =>?_
 replace hm:=hm.pl 4
 refine d_e he rfl rfl rfl (z3x he rfl call142 (nE G (i:=(j+1)) rl hws (by omega) hm) (fun q79 w hq80 hm=>⟨fun _=>hm.sn (Fz.Le.refl _),fun a he =>?_⟩) (fun q79 w hq80 hm=>fun a he =>?_))
 have hleq79:=jS hq80
 refine qW fun v81 w hm a he =>?_
 refine qL 2 pS (fun v82 w hm a he =>?_) (hb:=by simp [yH];omega)
 refine Sto 7 fun w hm a he =>?_
 refine go fun a he =>?_
 first | rw [qY] at hm | rw [← qU] at hm
 replace hm:=hm.ar [0] [7,7,7,3,7,7,7,7]
 refine hL4 _ _ _ (by subst hmu;omega) ⟨(Ψ2),(q79.2),(f - 1),(u0),(u1),(u2),(v82),(d0),(d1),(d2),({ C with outputs:=C.outputs++[q79.1] }),rfl,⟨he.pk,by exact hm⟩,?_⟩
 refine ⟨le3,?_⟩
 exact ⟨hch0,hch1,hch2,⟨by show C.datas.length≤_;omega,by show C.inputs.length≤_;omega,by show C.funs.length≤_;omega,by show (C.outputs++[q79.1]).length≤_;simp only [List.length_append,List.length_cons,List.length_nil];omega⟩,by omega,by omega,hI_.trans (j0q h8 (by omega) (fun h_=>h19 ((jL hx13).symm.trans h_)) (fun h_=>h38 ((jL hx13).symm.trans h_)) (fun h_=>h44 ((jL hx13).symm.trans h_)) ((jL hx13).trans h78) hq80)⟩
 replace hm:=hm.dl [4,3,2,1,0]
 exact hP (hI_.trans (q4h h8 (by omega) (fun h_=>h19 ((jL hx13).symm.trans h_)) (fun h_=>h38 ((jL hx13).symm.trans h_)) (fun h_=>h44 ((jL hx13).symm.trans h_)) ((jL hx13).trans h78) hq80)) (le3) (he.pk) hm
 refine Qq (fun a he =>?_) (o:=by exact fun he hs=>pY ((j:Nat):Int) he rfl rfl (by rw [yX (by omega)];omega))
 refine Sto 4 fun w hm a he =>?_
 refine go fun a he =>?_
 replace hm:=hm.pl 4
 refine stP he rfl rfl rfl (cA he rfl call143 (hO (i:=j) rl hws (by omega) hm) (fun w hm=>fun a he =>?_))
 replace hm:=hm.dl [4,3,2,1,0]
 exact hP (hI_.trans (j0n h8 (by omega) (fun h_=>h19 ((jL hx13).symm.trans h_)) (fun h_=>h38 ((jL hx13).symm.trans h_)) (fun h_=>h44 ((jL hx13).symm.trans h_)) (fun h_=>h78 ((jL hx13).symm.trans h_)))) (le3) (he.pk) hm
 refine go fun a he =>?_
 have hm0_:=hm
 clear hm
 obtain ⟨Ψ85,le86,hm,hrow87⟩:=hm0_.freezeRow (i:=3) rfl
 clear hm0_
 replace G:=G.mono le86
 replace hch0:=hch0.mono fun _ _ h=>RData.mono _ _ _ _ le86 h
 replace hch1:=hch1.mono fun _ _ h=>RParam.mono _ _ _ _ le86 h
 replace hch2:=hch2.mono fun _ _ h=>RFun.mono _ _ _ _ le86 h
 replace hm:=hm.nf
 have hsl88:SliceOf RData Ψ85 2 _ (C.datas):=⟨_,hrow87,hch0⟩
 obtain ⟨p89,c90,hv_,hm91,hn92⟩:=hsl88.form (by decide)
 have hmk_:=hm
 clear hm
 subst hv_
 have hm:=hmk_
 clear hmk_
 have hm0_:=hm
 clear hm
 obtain ⟨Ψ93,le94,hm,hrow95⟩:=hm0_.freezeRow (i:=2) rfl
 clear hm0_
 replace G:=G.mono le94
 replace hch1:=hch1.mono fun _ _ h=>RParam.mono _ _ _ _ le94 h
 replace hch2:=hch2.mono fun _ _ h=>RFun.mono _ _ _ _ le94 h
 replace hsl88:=hsl88.up le94
 replace hm:=hm.nf
 have hsl96:SliceOf RParam Ψ93 2 _ (C.inputs):=⟨_,hrow95,hch1⟩
 obtain ⟨p97,c98,hv_,hm99,hn100⟩:=hsl96.form (by decide)
 have hmk_:=hm
 clear hm
 subst hv_
 have hm:=hmk_
 clear hmk_
 have hm0_:=hm
 clear hm
 obtain ⟨Ψ101,le102,hm,hrow103⟩:=hm0_.freezeRow (i:=1) rfl
 clear hm0_
 replace G:=G.mono le102
 replace hch2:=hch2.mono fun _ _ h=>RFun.mono _ _ _ _ le102 h
 replace hsl88:=hsl88.up le102
 replace hsl96:=hsl96.up le102
 replace hm:=hm.nf
 have hsl104:SliceOf RFun Ψ101 8 _ (C.funs):=⟨_,hrow103,hch2⟩
 obtain ⟨p105,c106,hv_,hm107,hn108⟩:=hsl104.form (by decide)
 have hmk_:=hm
 clear hm
 subst hv_
 have hm:=hmk_
 clear hmk_
 obtain ⟨p3,m3,q3,hu3_,_,_⟩:=hm.toSees.gsForm (i:=0) rfl
 have hmk_:=hm
 clear hm
 subst hu3_
 have hm:=hmk_
 clear hmk_
 refine Sto 3 fun w hm a he =>?_
 refine Sto 4 fun w hm a he =>?_
 refine go fun a he =>?_
 replace hm:=hm.ar [2,1] [2,2]
 exact hR (hI_.trans (j0o h8 (by omega))) ((((le3).trans le86).trans le94).trans le102) hsl88 hsl96 hsl104 (he.pk) hm
end Go.Sw

namespace Go.Sw
open Go.Proofs.Tryz
open Go.Proofs
abbrev readKY (K:List Res) (l Dk rr rp:Nat) (r:Loop) (pre:List Bs) (z:Value):List Res :=
 .blk l (.loop r)::.blk Dk (.deferred (some []))::.blk rr (ob [z,.int .i64 ((0:Nat):Int)] 210)::.gs z 9 1 (strs pre)::.blk rp (ob [.pointer (some ⟨rr,0,none⟩)] 208)::K
set_option maxRecDepth 20000 in
set_option maxHeartbeats 4000000 in
theorem q6h {Ψ:Fz} {K K0:List Res} {w:World} {l Dk rr rp n:Nat} {r:Loop} {pre:List Bs} {z:Value} {k:Bs} (hlen:pre.length < n) (hn:n≤800000)
  (hps:r.params=#[11]) (hst:r.state=.ready) (hpd:r.pending=none)
  (ha:∀(a:Act) (w:World),EnvR 96 [(11,.string k),(4,.pointer (some ⟨rp,0,none⟩))] [] a →
   r.assign.wpIn (FO (some l)) 2 prog (Exit.then (fun a1 w1=>EnvR 96 [(5,.string k),(4,.pointer (some ⟨rp,0,none⟩))] [] a1∧w1=w) (fun _ _ _=>False)) a w)
  (hb:∀(a:Act) (w:World) (K:List Res) (o:Obj),EnvR 96 [(5,.string k),(4,.pointer (some ⟨rp,0,none⟩))] [] a→Mem Ψ (.blk l o::.blk rr (ob [z,.int .i64 ((0:Nat):Int)] 210)::.gs z 9 1 (strs pre)::.blk rp (ob [.pointer (some ⟨rr,0,none⟩)] 208)::K) w →
   r.body.wpIn (FO (some l)) 2 prog (fun e _ w=>e=.normal∧∃v,Mem Ψ (.blk l o::.blk rr (ob [v,.int .i64 ((0:Nat):Int)] 210)::.gs v 9 1 (strs (pre++[k]))::.blk rp (ob [.pointer (some ⟨rr,0,none⟩)] 208)::K) w) a w)
  (he:EnvR 96 [(4,.pointer (some ⟨rp,0,none⟩))] [] ⟨r.tmps,[]⟩) (hm:Mem Ψ (K0++readKY K l Dk rr rp r pre z) w) :
  YieldAt Fence.wide 2 prog l #[.string k] w (fun e w'=>e=.returned (.bool true)∧∃z',Mem Ψ (K0++readKY K l Dk rr rp r (pre++[k]) z') w'):=by
 have hm1:Mem Ψ (readKY K l Dk rr rp r pre z++K0) w:=hm.perm List.perm_append_comm
 replace hm1:Mem Ψ (.blk l (.loop r)::.blk rr (ob [z,.int .i64 ((0:Nat):Int)] 210)::.gs z 9 1 (strs pre)::.blk rp (ob [.pointer (some ⟨rr,0,none⟩)] 208)::.blk Dk (.deferred (some []))::(K++K0)) w :=
  ((((hm1.pull (i:=4) rfl).pull (i:=4) rfl).pull (i:=4) rfl).pull (i:=3) rfl)
 have hl:w.heap[l]? = some (.loop r):=hm1.own _ List.mem_cons_self
 refine ⟨r.fn,r.tmps.setIfInBounds 11 (.string k),r.assign,r.body,?_,?_⟩
 ·rw [run_yield hl (by rw [hps];rfl),hps,zip1];simp
 ·have he2:EnvR 96 [(11,.string k),(4,.pointer (some ⟨rp,0,none⟩))] [] ⟨r.tmps.setIfInBounds 11 (.string k),[]⟩:=he.put (d:=11) rfl
  have h:=q2s (P:=prog) (E1:=fun (_:Unit)=>[(5,.string k),(4,.pointer (some ⟨rp,0,none⟩))]) (K1:=fun _=>.blk rr (ob [z,.int .i64 ((0:Nat):Int)] 210)::.gs z 9 1 (strs pre)::.blk rp (ob [.pointer (some ⟨rr,0,none⟩)] 208)::.blk Dk (.deferred (some []))::(K++K0))
   (KO:=fun v=>.blk rr (ob [v,.int .i64 ((0:Nat):Int)] 210)::.gs v 9 1 (strs (pre++[k]))::.blk rp (ob [.pointer (some ⟨rr,0,none⟩)] 208)::.blk Dk (.deferred (some []))::(K++K0)) hm1 hst hpd he2
   (fun a he=>Code.wpIn_mono (fun e a1 w1 h=>by
    cases e with
    | normal=>exact ⟨(),h.1,h.2▸hm1⟩
    | _=>exact h) (ha a w he)) (fun _ a w he hm=>hb a w _ _ he hm)
  refine h.mono fun e w' hh =>?_
  obtain ⟨h1,v,h2⟩:=hh
  refine ⟨h1,v,?_⟩
  have h3:Mem Ψ (readKY K l Dk rr rp r (pre++[k]) v++K0) w':=(((((h2.pull (i:=3) rfl).pull (i:=3) rfl).pull (i:=3) rfl).pull (i:=4) rfl).pull (i:=4) rfl)
  exact h3.perm List.perm_append_comm
theorem q2k {P:Program} {fn:Func} {n:Nat} {E:List (Nat×Value)} {D:List Deferred} {a:Act} {Φ:Fz} {K:List Res} {w:World} {t u T U k i j b c:Nat} {v:Value} {cs:List Value} {T0 T1:TypeId} (he:EnvR n E D a) (hm:Sees Φ K w) (hr:fn.results=#[.cell u U,.cell t T]) (hv:get E t=some (.pointer (some ⟨b,0,none⟩)))
  (hk:qJ K i=some (.blk b (ob [v] T0))) (hT:Scalar P T) (hu:get E u=some (.pointer (some ⟨c,0,none⟩))) (hk2:qJ K j=some (.blk c (ob cs T1))) (hT2:AggT P U) (hS:SizeT P U k) (hl:cs.length=k) :
  (results fn a.tmps).run P w=.ok (.tuple (List.toArray [.agg cs.toArray,v])) w:=by
 have h1:w.cell? ⟨b,0,none⟩=some v:=hm.cell hk 0
 have h2:=q8m (P:=P) he hm hu hk2 hT2 hS hl
 have h3:(loadVar T ⟨b,0,none⟩).run P w=.ok v w:=by simp [loadVar,Sem.run_bind,hT w,Result.andThen,load,Sem.run,h1]
 simp [results,hr,Array.getD_eq_getD_getElem?,he.env t _ hv,he.env u _ hu,asAddr,h2,h3,Sem.run_bind,Result.andThen]
set_option maxRecDepth 20000 in
set_option maxHeartbeats 4000000 in
theorem read_ok {Φ:Fz} {K:List Res} {w:World} {t:Bs} (G:Glob Φ) (h2:t.size≤800000) (hm:Mem Φ K w) :
  Calls prog 98 (List.toArray [.string t]) w (fun ee w'=>Out (sS t)
   (fun C=>∃y:Fz×Value×Value×Value×Value,ee=.returned (.tuple (List.toArray [.agg (List.toArray [y.2.1,y.2.2.1,y.2.2.2.1,y.2.2.2.2]),.int .i64 ((0:Nat):Int)]))∧(Φ.Le y.1∧SliceOf RData y.1 2 y.2.1 C.datas∧SliceOf RParam y.1 2 y.2.2.1 C.inputs∧SliceOf RFun y.1 8 y.2.2.2.1 C.funs)∧Mem y.1 (.gs y.2.2.2.2 9 1 (strs C.outputs)::K) w')
   (fun n=>ee=.returned (.tuple (List.toArray [.agg (List.toArray [.slice none 0 0,.slice none 0 0,.slice none 0 0,.slice none 0 0]),.int .i64 ((n:Nat):Int)]))∧Mem Φ K w')):=by
 refine z4b func98 rfl ntmps98 rfl (fun Q hQ a he =>?_)
 refine sq fun L1 hL1 =>?_
 refine wp_region_lit ?_
 refine st he rfl rfl rfl (yG (cs:=[.slice none 0 0,.slice none 0 0,.slice none 0 0,.slice none 0 0]) hm zeroValue27 rfl fun c0 w hm a he =>?_)
 refine st he rfl rfl rfl (yG (cs:=[.int .i64 ((0:Nat):Int)]) hm zeroValue3 rfl fun wd w hm a he =>?_)
 refine wpList_nil ?_
 refine hL1 _ _ ?_
 refine sq fun L2 hL2 =>?_
 refine wp_region_lit ?_
 refine jG he (sP (vfs:=[]) (vcs:=[.pointer (some ⟨c0,0,none⟩),.pointer (some ⟨wd,0,none⟩)]) he rfl rfl) rfl fun a he =>?_
 refine tV (fs:=[]) (cs:=[.pointer (some ⟨c0,0,none⟩),.pointer (some ⟨wd,0,none⟩)]) (vs:=[]) he rfl rfl fun a he =>?_
 refine wpList_nil ?_
 refine hL2 _ _ ?_
 refine sq fun L3 hL3 =>?_
 refine wp_region_lit ?_
 refine jG he (aY (vs:=[]) (cs:=[.slice none 0 0,.int .i64 ((0:Nat):Int)]) he rfl (by kernel_rfl)) rfl fun a he =>?_
 refine st he rfl rfl rfl (qK (cs:=[.slice none 0 0,.int .i64 ((0:Nat):Int)]) he hm rfl rfl fun rr w hm a he =>?_)
 refine st he rfl rfl rfl (yG (cs:=[.pointer none]) hm zeroValue208 rfl fun rp w hm a he =>?_)
 refine st0 he rfl rfl (zP 0 (cs:=[.pointer none]) (vs:=[.pointer (some ⟨rr,0,none⟩)]) he hm rfl rfl rfl rfl sizeOf208 rfl rfl rfl fun w hm a he =>?_)
 refine wpList_nil ?_
 refine hL3 _ _ ?_
 replace hm:Mem Φ (.blk rp (ob [.pointer (some ⟨rr,0,none⟩)] 208)::.blk rr (ob [.slice none 0 0,.int .i64 ((0:Nat):Int)] 210)::.blk wd (ob [.int .i64 ((0:Nat):Int)] 3)::.blk c0 (ob [.slice none 0 0,.slice none 0 0,.slice none 0 0,.slice none 0 0] 27)::K) w:=hm
 refine sq fun L4 hL4 =>?_
 refine sq fun L5 hL5 =>?_
 refine wp_region_lit ?_
 refine jG he (qQ he rfl) rfl fun a he =>?_
 refine st he rfl rfl rfl (qS he rfl call138 (x1p hm) (fun bx w _ hm a he =>?_))
 refine wpList_nil ?_
 refine hL5 _ _ ?_
 refine wp_block ?_
 refine z3m (P:=prog) (β:=Value) (δ:=Unit) (gf:=175) (fs:=[]) (cs:=[.pointer (some ⟨bx,0,none⟩)]) (F1:=fun _=>Φ)
  (KO:=fun z=>.blk rr (ob [z,.int .i64 ((0:Nat):Int)] 210)::.gs z 9 1 (strs (gJ t))::.blk rp (ob [.pointer (some ⟨rr,0,none⟩)] 208)::.blk wd (ob [.int .i64 ((0:Nat):Int)] 3)::.blk c0 (ob [.slice none 0 0,.slice none 0 0,.slice none 0 0,.slice none 0 0] 27)::K)
  (KE:=fun _=>K)
  (G:=fun _=>True) (B:=fun _ _=>False) he hm rfl call175 ?_ ?_ ?_
 ·intro Dk l r w hps has hbo hst hpd her hm
  have hm1:=hm.nilRow 9 1
  replace hm1:Mem Φ (.blk bx (ob [.string t] 9)::readKY (.blk wd (ob [.int .i64 ((0:Nat):Int)] 3)::.blk c0 (ob [.slice none 0 0,.slice none 0 0,.slice none 0 0,.slice none 0 0] 27)::K) l Dk rr rp r [] (.slice none 0 0)) w :=
   ((((((hm1.pull (i:=4) rfl).pull (i:=1) rfl).pull (i:=5) rfl).pull (i:=4) rfl).pull (i:=4) rfl).pull (i:=5) rfl)
  have h:=j4c (l:=l) (KY:=readKY (.blk wd (ob [.int .i64 ((0:Nat):Int)] 3)::.blk c0 (ob [.slice none 0 0,.slice none 0 0,.slice none 0 0,.slice none 0 0] 27)::K) l Dk rr rp r) (by omega) (fun pre z K0 k w hlen hm =>?_) hm1
  ·refine h.mono fun e w' hh =>?_
   obtain ⟨z,rfl,hm2⟩:=hh
   exact .inl ⟨_,z,rfl,trivial,hm2⟩
  ·refine q6h (n:=t.size) hlen h2 hps hst hpd (fun a w he =>?_) (fun a w K o he hm =>?_) (her.of_sub ⟨rfl,trivial⟩) hm
   ·rw [has]
    refine wpIn_region_lit ?_
    refine yO he (by intro c h;cases h) (vJ he rfl) rfl fun a he =>?_
    refine wpListIn_nil ?_
    exact ⟨he.of_sub ⟨rfl,rfl,trivial⟩,rfl⟩
   ·rw [hbo]
    refine wpIn_block ?_
    refine nX [2,2,1,1,2,1,0,0,1,1,0] (.q 0 (.q 1 (.q 2 (.q 3 (.q 4 (.q 5 (.e 6 (.e 7 (.q 8 (.q 9 (.e 10 (.done)))))))))))) [.blk rr (ob [z,.int .i64 ((0:Nat):Int)] 210),.blk rp (ob [.pointer (some ⟨rr,0,none⟩)] 208)] he hm mixed (by kernel_rfl) (by simp) (by kernel_rfl) fun w hm =>?_
    refine d_q he rfl rfl (fun w hs=>yS 1 he hs rfl rfl rfl isAgg208) rfl fun a he =>?_
    refine d_q he rfl rfl (fun w hs=>yS 1 he hs rfl rfl rfl isAgg208) rfl fun a he =>?_
    refine z8v he rfl rfl (fun w=>z1k he rfl) rfl fun a he =>?_
    refine z8v he rfl rfl (fun w=>qP he rfl z9n rfl) rfl fun a he =>?_
    refine d_q he rfl rfl (fun w hs=>yS 0 he hs rfl rfl rfl isAgg25) rfl fun a he =>?_
    refine z8v he rfl rfl (fun w=>qQ he rfl) rfl fun a he =>?_
    refine d_e he rfl rfl rfl (mV (sz:=1) (cs:=[.string k]) he hm rfl (sX runUnderlying25 sizeOf9 zeroValue9 rfl (by decide) rfl) rfl (by decide) fun v w hm _=>⟨fun _=>hm.seesIn (Fz.Le.refl _) (by simp),fun a he =>?_⟩)
    refine d_e he rfl rfl rfl (cO 3 (xs:=strs pre) (news:=[.string k]) pS he hm rfl rfl rfl (hm.toSees.rowIn (i:=0) rfl) rfl (by simp [yH];omega) fun v2 w hm=>⟨fun _=>hm.seesIn (Fz.Le.refl _) (by simp [wK]),fun a he =>?_⟩)
    replace hm:Mem Φ (.gs v 9 1 [.string k]::.blk l o::.blk rr (ob [z,.int .i64 ((0:Nat):Int)] 210)::.gs v2 9 1 (strs (pre++[k]))::.blk rp (ob [.pointer (some ⟨rr,0,none⟩)] 208)::K) w:=by rw [qU];exact hm
    refine z8v he rfl rfl (fun w=>z1k he rfl) rfl fun a he =>?_
    refine z8v he rfl rfl (fun w=>qP he rfl z9n rfl) rfl fun a he =>?_
    refine vM he rfl rfl (zP 2 (cs:=[z,.int .i64 ((0:Nat):Int)]) (vs:=[v2]) he hm rfl rfl rfl (hm.toSees.gsCells (i:=3) rfl) sizeOf25 rfl (hm.toSees.gsOne (i:=3) rfl) rfl fun w hm=>⟨zY (by kernel_rfl),fun a he =>?_⟩)
    refine y7d ?_
    exact ⟨rfl,v2,hm.del 0⟩
 ·intro Dk z a w _ he hm
  refine hL4 _ _ ?_
  obtain ⟨Ψ,le,hm,hrow⟩:=hm.freezeRow (i:=2) rfl
  have rl:SliceOf RStr Ψ 1 z (gJ t):=SliceOf.strs.2 hrow
  have hws:(gJ t).length≤1000000:=Nat.le_trans (gB t.size 0) (by omega)
  have hsz:∀j,(zC (gJ t) j).size≤1000000:=fun j=>j3h (fun s hs=>Nat.le_trans (gC t.size 0 s hs) (by omega)) j
  replace hm:Mem Ψ (.blk rr (ob [z,.int .i64 ((0:Nat):Int)] 210)::.blk rp (ob [.pointer (some ⟨rr,0,none⟩)] 208)::.blk c0 (ob [.slice none 0 0,.slice none 0 0,.slice none 0 0,.slice none 0 0] 27)::.blk wd (ob [.int .i64 ((0:Nat):Int)] 3)::.blk Dk (.deferred (some []))::K) w:=((((hm.pull (i:=3) rfl).pull (i:=4) rfl).pull (i:=4) rfl).pull (i:=4) rfl)
  refine j3i (ws:=gJ t) (c0:=c0) (wd:=wd) (rp:=rp) (r:=rr) (G.mono le) (q2n hws hsz 250 (by decide)) rl hws ?_ ?_ (he.of_sub ⟨rfl,rfl,rfl,trivial⟩) hm
  ·intro Ψ2 a w C u0 u1 u2 u3 hC le2 r0 r1 r2 he hm
   refine hQ _ _ _ ?_
   show pZ _ _ _ _ a.defers _ _
   rw [he.defs]
   replace hm:=hm.pull (i:=3) rfl
   have hD:w.heap[Dk]? = some (.deferred (some [])):=hm.own _ List.mem_cons_self
   have hm2:=hm.putObj (i:=0) (o':=.deferred none) rfl
   refine mY (by simp) hD (cZ ?_)
   refine leaves_cons (f:=137) (args:=#[.pointer (some ⟨c0,0,none⟩),.pointer (some ⟨wd,0,none⟩)]) (by simp) (call137 _ _) ?_
   refine catchR_none.mono ?_
   rintro e u' w'' ⟨rfl,rfl,rfl⟩
   refine ⟨_,q2k (i:=2) (j:=1) he hm2.toSees results98 rfl rfl isAgg3 rfl rfl isAgg27 sizeOf27 rfl,?_⟩
   show Out (sS t) _ _
   rw [show sS t=.ok C from hC]
   exact ⟨(Ψ2,u0,u1,u2,u3),rfl,⟨le.trans le2,r0,r1,r2⟩,((hm2.del 0).del 0).del 0⟩
  ·intro Ψ2 a w n u0 u1 u2 u3 x hC le2 he hm
   refine hQ _ _ _ ?_
   show pZ _ _ _ _ a.defers _ _
   rw [he.defs]
   replace hm:=hm.pull (i:=2) rfl
   have hD:w.heap[Dk]? = some (.deferred (some [])):=hm.own _ List.mem_cons_self
   have hm2:=(hm.putObj (i:=0) (o':=.deferred none) rfl)
   replace hm2:Mem Ψ2 (.blk c0 (ob [u0,u1,u2,u3] 27)::.blk wd (ob [x] 3)::.blk Dk (.deferred none)::K) (w.putObj Dk (.deferred none)):=(hm2.pull (i:=2) rfl).pull (i:=2) rfl
   refine mY (by simp) hD (cZ ?_)
   refine leaves_cons (f:=137) (args:=#[.pointer (some ⟨c0,0,none⟩),.pointer (some ⟨wd,0,none⟩)]) (by simp) (call137 _ _) ?_
   refine (y7c hm2).mono ?_
   rintro e' u' w'' ⟨rfl,rfl,hm3⟩
   refine ⟨_,q2k (i:=1) (j:=0) he hm3.toSees results98 rfl rfl isAgg3 rfl rfl isAgg27 sizeOf27 rfl,?_⟩
   show Out (sS t) _ _
   rw [show sS t=.error n from hC]
   exact ⟨rfl,(((hm3.del 0).del 0).del 0).le (le.trans le2)⟩
 ·intro Dk y c a w hB he hm
  exact hB.elim
end Go.Sw

namespace Go.Sw
open Go.Proofs
def Pos {α:Type} (f:Nat→Rd α):Prop:=∀i n,f i=.error n→0 < n
section
variable {ws:List Bs}
theorem Pos.bind {α β:Type} {f:Nat→Rd α} {g:α→Nat→Rd β} (hf:Pos f) (hg:∀x,Pos (g x)):Pos (fun i=>yL (f i) g):=fun i n h=>by
 cases hr:f i with
 | error m =>
  simp only [yL,hr] at h
  cases h;exact hf i _ hr
 | ok y =>
  simp only [yL,hr] at h
  exact hg _ _ n h
theorem Pos.ok {α:Type} (f:Nat→α×Nat):Pos (fun i=>(.ok (f i):Rd α)):=fun i n h=>by cases h
theorem Pos.ite {α:Type} {p:Nat→Prop} [∀i,Decidable (p i)] {f g:Nat→Rd α} (hf:Pos f) (hg:Pos g):Pos (fun i=>if p i then f i else g i):=fun i n h=>by
 simp only at h
 split at h
 ·exact hf i n h
 ·exact hg i n h
theorem Pos.next {α:Type} {f:Nat→Rd α} (hf:Pos f):Pos (fun i=>f (i+1)):=fun i n h=>hf (i+1) n h
theorem Pos.err {α:Type}:Pos (fun i=>(.error (i+1):Rd α)):=fun i n h=>by cases h;exact Nat.succ_pos _
theorem vT (p:Bs→Bool):Pos (pT ws p):=fun i n h=>by
 unfold pT at h
 split at h
 ·cases h;exact Nat.succ_pos _
 ·cases h
theorem nA (w:Bs):Pos (kP ws w):=(vT _).bind fun _=>Pos.ok fun i=>((),i)
theorem y0t {ex:Nat→Rd Ex} (he:Pos ex):∀f least,Pos (kG ws ex f least)
 | 0,_=>Pos.err
 | f+1,least=>Pos.ite (p:=fun i=>0 < least∨zC ws i≠sCls) (he.bind fun e=>(y0t he f _).bind fun l=>Pos.ok fun i=>(e::l,i)) (Pos.ok fun i=>([],i))
theorem q9t {ex:Nat→Rd Ex} (he:Pos ex):Pos (z3k ex):=he.bind fun a=>he.bind fun b=>Pos.ok fun i=>([a,b],i)
theorem q3k:∀f,Pos (aN ws f)
 | 0=>Pos.err
 | f+1=>Pos.ite (p:=fun i=>zC ws i≠y1z) ((vT _).bind fun s=>(q3k f).bind fun l=>Pos.ok fun i=>(s::l,i)) (Pos.ok fun i=>([],i))
theorem arm_pos {ex:Nat→Rd Ex} (he:Pos ex):Pos (armP ws ex) :=
 (nA _).bind fun _=>(vT _).bind fun c=>(q3k _).bind fun vs=>(nA _).bind fun _=>he.bind fun b=>(nA _).bind fun _=>Pos.ok fun i=>(Arm.mk c vs b,i)
theorem y9r {ex:Nat→Rd Ex} (he:Pos ex):∀f b,Pos (cK ws ex f b)
 | 0,_=>Pos.err
 | f+1,b=>Pos.ite (p:=fun i=>b=true∨zC ws i=aX) ((arm_pos he).bind fun a=>(y9r he f false).bind fun l=>Pos.ok fun i=>(a::l,i)) (Pos.ok fun i=>([],i))
theorem j7h {ex:Nat→Rd Ex} (he:Pos ex):Pos (yT ws ex):=fun i n h=>by
 unfold yT at h
 split at h
 ·exact (q9t he).bind (fun l=>Pos.ok fun j=>(Ex.mk 8 0 (zC ws i) l [],j)) (i+1) n h
 ·split at h
  ·exact (vT _).bind (fun x=>(q9t he).bind fun l=>Pos.ok fun j=>(Ex.mk 6 0 x l [],j)) (i+1) n h
  ·split at h
   ·exact he.bind (fun a=>(y9r he _ true).bind fun l=>Pos.ok fun j=>(Ex.mk 7 0 sNo [a] l,j)) (i+1) n h
   ·split at h
    ·exact (y0t he _ 1).bind (fun l=>Pos.ok fun j=>(Ex.mk 4 0 (zC ws i) l [],j)) (i+1) n h
    ·exact (vT _).bind (fun x=>(y0t he _ 0).bind fun l=>Pos.ok fun j=>(Ex.mk 5 0 x l [],j)) i n h
theorem q0q:∀d,Pos (zO ws d)
 | 0=>Pos.err
 | d+1=>fun i n h=>by
  simp only [zO] at h
  split at h
  ·cases h;exact Nat.succ_pos _
  ·split at h
   ·cases h
   ·split at h
    ·exact (j7h (q0q d)).bind (fun e=>(nA _).bind fun _=>Pos.ok fun j=>(e,j)) (i+1) n h
    ·split at h
     ·cases h
     ·split at h
      ·cases h
      ·exact (vT _).bind (fun x=>Pos.ok fun j=>(Ex.mk 2 0 x [] [],j)) i n h
theorem z9i:∀f,Pos (vR ws f)
 | 0=>Pos.err
 | f+1=>Pos.ite (p:=fun i=>qG (zC ws i)=true) ((vT _).bind fun s=>(z9i f).bind fun l=>Pos.ok fun i=>(s::l,i)) (Pos.ok fun i=>([],i))
theorem q0c:∀f,Pos (cL ws f)
 | 0=>Pos.err
 | f+1=>(vT _).bind fun n=>(z9i _).bind fun l=>Pos.ite (p:=fun i=>zC ws i≠sBar) (Pos.ok fun i=>([(⟨n,l⟩:Con)],i)) ((q0c f).bind (fun cs=>Pos.ok fun i=>((⟨n,l⟩:Con)::cs,i))).next
theorem j5b:Pos (aB ws):=(vT _).bind fun n=>(nA _).bind fun _=>(q0c _).bind fun l=>Pos.ok fun i=>((⟨n,l⟩:Data),i)
theorem y5u:Pos (kX ws):=(vT _).bind fun n=>(nA _).bind fun _=>(vT _).bind fun t=>Pos.ok fun i=>((⟨n,t⟩:Param),i)
theorem y1i:∀f,Pos (kB ws f)
 | 0=>Pos.err
 | f+1=>Pos.ite (p:=fun i=>zC ws i=aX) ((y5u).bind (fun p=>(nA _).bind fun _=>(y1i f).bind fun l=>Pos.ok fun i=>(p::l,i))).next (Pos.ok fun i=>([],i))
theorem fun_pos:Pos (cR ws):=(vT _).bind fun n=>(y1i _).bind fun ps=>(nA _).bind fun _=>(vT _).bind fun r=>(nA _).bind fun _=>(q0q _).bind fun b=>Pos.ok fun i=>((⟨n,ps,r,b⟩:Fun),i)
theorem gM:∀f c i n,jA ws f c i=.error n→0 < n
 | 0,_,_,_,h=>by cases h;exact Nat.succ_pos _
 | f+1,c,i,n,h=>by
  simp only [jA] at h
  split at h
  ·split at h
   ·split at h
    ·exact gM f _ _ n h
    ·rename_i hd;cases h;exact j5b _ _ hd
   ·split at h
    ·split at h
     ·exact gM f _ _ n h
     ·rename_i hd;cases h;exact y5u _ _ hd
    ·split at h
     ·split at h
      ·exact gM f _ _ n h
      ·rename_i hd;cases h;exact fun_pos _ _ hd
     ·split at h
      ·split at h
       ·exact gM f _ _ n h
       ·rename_i hd;cases h;exact vT _ _ _ hd
      ·cases h;exact Nat.succ_pos _
  ·cases h
end
theorem j9u {t:Bs} {n:Nat} (h:sS t=.error n):0 < n:=gM _ _ _ _ h
def nR (t:Bs):Except (Nat×Int) Core:=if 60000 < t.size then .error (0,2) else match sS t with
 | .error n=>.error (n,5)
 | .ok c=>if yC c=0 then .ok c else .error (0,yC c)
theorem q6c {t:Bs} (h:60000 < t.size):nR t=.error (0,2):=if_pos h
theorem q6e {t:Bs} {n:Nat} (h:¬60000 < t.size) (h2:sS t=.error n):nR t=.error (n,5):=by unfold nR;rw [if_neg h,h2]
theorem q2f {t:Bs} {c:Core} (h:¬60000 < t.size) (h2:sS t=.ok c) (h3:¬yC c=0):nR t=.error (0,yC c):=by unfold nR;rw [if_neg h,h2];exact if_neg h3
theorem y1k {t:Bs} {c:Core} (h:¬60000 < t.size) (h2:sS t=.ok c) (h3:yC c=0):nR t=.ok c:=by unfold nR;rw [if_neg h,h2];exact if_pos h3
end Go.Sw

namespace Go.Sw
open Go.Proofs
mutual
def tT:Val→Val→Bool
 | .mk c n l,v=>decide (c=v.con)&&decide (n=v.num)&&decide (l.length=v.args.length)&&sameVs l v.args
def sameVs:List Val→List Val→Bool
 | [],_=>true
 | _::_,[]=>true
 | x::xs,y::ys=>tT x y&&sameVs xs ys
end
theorem x0j (v u:Val):tT v u=(decide (v.con=u.con)&&decide (v.num=u.num)&&decide (v.args.length=u.args.length)&&sameVs v.args u.args):=by
 cases v;cases u;simp only [tT,Val.con,Val.num,Val.args];rfl
theorem z6h (x y:Val) (xs ys:List Val):sameVs (x::xs) (y::ys)=(tT x y&&sameVs xs ys):=by simp only [sameVs]
theorem q6v (ys:List Val):sameVs [] ys=true:=by simp only [sameVs]
end Go.Sw

namespace Go.Sw
open Go.Proofs.Tryz
open Go.Proofs
set_option maxRecDepth 20000
set_option maxHeartbeats 4000000
theorem j9n {Φ:Fz} {K:List Res} {w:World} {t:Bs} (G:Glob Φ) (hm:Mem Φ K w) :
  Calls prog 62 (List.toArray [.string t]) w (fun ee w'=>Out (nR t)
   (fun C=>∃y:Fz×Value×Value×Value×Value,ee=.returned (.tuple (List.toArray [.agg (List.toArray [y.2.1,y.2.2.1,y.2.2.2.1,y.2.2.2.2]),.int .i64 ((0:Nat):Int),.int .i64 ((0:Nat):Int)]))∧(Φ.Le y.1∧SliceOf RData y.1 2 y.2.1 C.datas∧SliceOf RParam y.1 2 y.2.2.1 C.inputs∧SliceOf RFun y.1 8 y.2.2.2.1 C.funs)∧Mem y.1 (.gs y.2.2.2.2 9 1 (strs C.outputs)::K) w')
   (fun c=>ee=.returned (.tuple (List.toArray [.agg (List.toArray [.slice none 0 0,.slice none 0 0,.slice none 0 0,.slice none 0 0]),.int .i64 ((c.1:Nat):Int),.int .i64 c.2]))∧Mem Φ K w')):=by
 refine zL func62 ntmps62 fun Q hQ a he =>?_
 refine Alc fun b2 w hm a he =>?_
 by_cases h5:60000 < t.size
 refine yJ fun a he =>?_
 refine Sto 0 fun w hm a he =>?_
 refine go fun a he =>?_
 have hmr:=hm
 replace hm:=hm.dl [0]
 refine hQ _ _ _ (y8q (i:=0) (cs:=[.slice none 0 0,.slice none 0 0,.slice none 0 0,.slice none 0 0]) he hmr.toSees results62 rfl rfl isAgg27 sizeOf27 rfl rfl rfl ?_)
 show Out (nR t) _ _
 rw [q6c h5]
 exact ⟨rfl,hm⟩
 refine go fun a he =>?_
 refine st he rfl rfl rfl (pD he rfl call98 (read_ok G (by omega) hm) (fun q8 y9 w hq10 hG11 hm a he =>?_) (fun q8 w hq10 hm a he =>?_))
 obtain ⟨Ψ1,u0,u1,u2,u3⟩:=y9
 obtain ⟨le1,r0,r1,r2⟩:=hG11
 simp only at le1 r0 r1 r2 hm he
 replace G:=G.mono le1
 replace hm:=hm.nf
 obtain ⟨p0,q0,rfl,_,_⟩:=r0.fm
 obtain ⟨p1,q1,rfl,_,_⟩:=r1.fm
 obtain ⟨p2,q2,rfl,_,_⟩:=r2.fm
 obtain ⟨p3,m3,q3,hu3_,_,_⟩:=hm.toSees.gsForm (i:=0) rfl
 subst hu3_
 replace hm:=hm.nf
 refine Alc fun b12 w hm a he =>?_
 refine Sto 0 fun w hm a he =>?_
 refine Qq (fun a he =>?_) (o:=by exact fun he hs=>y6t false he rfl rfl rfl)
 refine go fun a he =>?_
 have hm0_:=hm
 clear hm
 obtain ⟨Ψ2,le2,hm,hrow2,back2⟩:=hm0_.freezeRowT (i:=1) rfl
 clear hm0_
 replace G:=G.mono le2
 replace hm:=hm.nf
 have rpc_:RCore Ψ2 [.slice p0 (q8.datas).length q0,.slice p1 (q8.inputs).length q1,.slice p2 (q8.funs).length q2,.slice p3 m3 q3] q8:=⟨_,_,_,_,rfl,r0.mono RData.mono le2,r1.mono RParam.mono le2,r2.mono RFun.mono le2,SliceOf.strs.2 hrow2⟩
 refine zZ call36 (fun w hm a he =>?_) (c:=z8s rpc_ G hm)
 refine go fun a he =>?_
 replace hm:=back2 _ _ hm
 replace hm:=hm.nf
 by_cases h18:yC q8=0
 refine Sto 2 fun w hm a he =>?_
 refine go fun a he =>?_
 have hmr:=hm
 replace hm:=hm.dl [2,1]
 refine hQ _ _ _ (y8q (i:=2) (cs:=[.slice p0 (q8.datas).length q0,.slice p1 (q8.inputs).length q1,.slice p2 (q8.funs).length q2,.slice p3 m3 q3]) he hmr.toSees results62 rfl rfl isAgg27 sizeOf27 rfl rfl rfl ?_)
 show Out (nR t) _ _
 rw [y1k h5 hq10 h18]
 exact ⟨(Ψ1,_,_,_,_),rfl,⟨le1,r0,r1,r2⟩,hm⟩
 refine yJ fun a he =>?_
 refine Sto 2 fun w hm a he =>?_
 refine go fun a he =>?_
 have hmr:=hm
 replace hm:=hm.dl [2,1,0]
 refine hQ _ _ _ (y8q (i:=2) (cs:=[.slice none 0 0,.slice none 0 0,.slice none 0 0,.slice none 0 0]) he hmr.toSees results62 rfl rfl isAgg27 sizeOf27 rfl rfl rfl ?_)
 show Out (nR t) _ _
 rw [q2f h5 hq10 h18]
 exact ⟨rfl,hm.le (le1)⟩
 replace hm:=hm.nf
 have hpos_:=j9u hq10
 refine Alc fun b21 w hm a he =>?_
 refine Sto 0 fun w hm a he =>?_
 refine yJ fun a he =>?_
 refine Sto 1 fun w hm a he =>?_
 refine go fun a he =>?_
 have hmr:=hm
 replace hm:=hm.dl [1,0]
 refine hQ _ _ _ (y8q (i:=1) (cs:=[.slice none 0 0,.slice none 0 0,.slice none 0 0,.slice none 0 0]) he hmr.toSees results62 rfl rfl isAgg27 sizeOf27 rfl rfl rfl ?_)
 show Out (nR t) _ _
 rw [q6e h5 hq10]
 exact ⟨rfl,hm⟩
end Go.Sw

namespace Go.Sw
open Go.Proofs
set_option maxRecDepth 40000
set_option maxHeartbeats 4000000
def y6i:Bs:=⟨#[100,97,116,97,32,76,105,115,116,32,61,32,78,105,108,32,124,32,67,111,110,115,32,73,110,116,32,76,105,115,116,10,105,110,112,117,116,32,120,115,32,58,32,76,105,115,116,10,102,117,110,32,115,117,109,32,40,108,32,58,32,76,105,115,116,41,32,58,32,73,110,116,32,61,32,40,99,97,115,101,32,108,32,40,78,105,108,32,45,62,32,48,41,32,40,67,111,110,115,32,104,32,116,32,45,62,32,40,43,32,104,32,40,115,117,109,32,116,41,41,41,41,10,102,117,110,32,116,111,116,97,108,32,58,32,73,110,116,32,61,32,40,115,117,109,32,33,120,115,41,10,102,117,110,32,108,101,115,115,32,40,97,32,58,32,73,110,116,41,32,40,98,32,58,32,73,110,116,41,32,58,32,73,110,116,32,61,32,40,99,97,115,101,32,40,60,32,97,32,98,41,32,40,70,97,108,115,101,32,45,62,32,48,41,32,40,84,114,117,101,32,45,62,32,49,41,41,10,111,117,116,112,117,116,32,116,111,116,97,108,10]⟩
def z_l:Bs:=⟨#[108]⟩
def q9z:Bs:=⟨#[78,105,108]⟩
def z_h:Bs:=⟨#[104]⟩
def z_t:Bs:=⟨#[116]⟩
def y3b:Bs:=⟨#[115,117,109]⟩
def zPlus:Bs:=⟨#[43]⟩
def y9f:Bs:=⟨#[67,111,110,115]⟩
def z_xs:Bs:=⟨#[120,115]⟩
def z_a:Bs:=⟨#[97]⟩
def z_b:Bs:=⟨#[98]⟩
def zLess:Bs:=⟨#[60]⟩
def q9y:Bs:=⟨#[70,97,108,115,101]⟩
def z_True:Bs:=⟨#[84,114,117,101]⟩
def z_data:Bs:=⟨#[100,97,116,97]⟩
def uD:Bs:=⟨#[76,105,115,116]⟩
def zEq:Bs:=⟨#[61]⟩
def zBar:Bs:=⟨#[124]⟩
def sU:Bs:=⟨#[73,110,116]⟩
def z_input:Bs:=⟨#[105,110,112,117,116]⟩
def z1l:Bs:=⟨#[58]⟩
def z_fun:Bs:=⟨#[102,117,110]⟩
def z5l:Bs:=⟨#[40]⟩
def z5k:Bs:=⟨#[41]⟩
def z_case:Bs:=⟨#[99,97,115,101]⟩
def y9e:Bs:=⟨#[45,62]⟩
def z_0:Bs:=⟨#[48]⟩
def wB:Bs:=⟨#[116,111,116,97,108]⟩
def x1u:Bs:=⟨#[33,120,115]⟩
def z1m:Bs:=⟨#[108,101,115,115]⟩
def z_1:Bs:=⟨#[49]⟩
def x1x:Bs:=⟨#[111,117,116,112,117,116]⟩
def saneWs:List Bs:=[z_data,uD,zEq,q9z,zBar,y9f,sU,uD,z_input,z_xs,z1l,uD,z_fun,y3b,z5l,z_l,z1l,uD,z5k,z1l,sU,zEq,z5l,z_case,z_l,z5l,q9z,y9e,z_0,z5k,z5l,y9f,z_h,z_t,y9e,z5l,zPlus,z_h,z5l,y3b,z_t,z5k,z5k,z5k,z5k,z_fun,wB,z1l,sU,zEq,z5l,y3b,x1u,z5k,z_fun,z1m,z5l,z_a,z1l,sU,z5k,z5l,z_b,z1l,sU,z5k,z1l,sU,zEq,z5l,z_case,z5l,zLess,z_a,z_b,z5k,z5l,q9y,y9e,z_0,z5k,z5l,z_True,y9e,z_1,z5k,z5k,x1x,wB]
def saneC:Core:=⟨[⟨uD,[⟨q9z,[]⟩,⟨y9f,[sU,uD]⟩]⟩],
 [⟨z_xs,uD⟩],
 [⟨y3b,[⟨z_l,uD⟩],sU,(.mk 7 0 sNo [(.mk 2 0 z_l [] [])] [(.mk q9z [] (.mk 1 0 sNo [] [])),(.mk y9f [z_h,z_t] (.mk 8 0 zPlus [(.mk 2 0 z_h [] []),(.mk 5 0 y3b [(.mk 2 0 z_t [] [])] [])] []))])⟩,
  ⟨wB,[],sU,(.mk 5 0 y3b [(.mk 3 0 z_xs [] [])] [])⟩,
  ⟨z1m,[⟨z_a,sU⟩,⟨z_b,sU⟩],sU,(.mk 7 0 sNo [(.mk 8 0 zLess [(.mk 2 0 z_a [] []),(.mk 2 0 z_b [] [])] [])] [(.mk q9y [] (.mk 1 0 sNo [] [])),(.mk z_True [] (.mk 1 1 sNo [] []))])⟩],
 [wB]⟩
theorem q7r:gJ y6i=saneWs:=by kernel_rfl
theorem j3j:sS y6i=.ok saneC:=by
 unfold sS;rw [q7r];kernel_rfl
theorem cB:yC saneC=0:=by kernel_rfl
theorem q6d:nR y6i=.ok saneC:=y1k (by decide) j3j cB
section
variable {Φ:Fz} {K:List Res} {w:World}
theorem j3f (G:Glob Φ) (hm:Mem Φ K w) :
  Calls Tryz.prog 62 (List.toArray [.string y6i]) w (fun ee w'=>∃y:Fz×List Value×Value,ee=.returned (.tuple (List.toArray [.agg y.2.1.toArray,.int .i64 ((0:Nat):Int),.int .i64 ((0:Nat):Int)]))∧(Φ.Le y.1∧RCoreX y.1 y.2.1 saneC y.2.2)∧Mem y.1 (.gs y.2.2 9 1 (strs saneC.outputs)::K) w'):=by
 have h1:=j9n (t:=y6i) G hm
 rw [q6d] at h1
 refine h1.mono fun ee w' h =>?_
 obtain ⟨⟨Ψ,v0,v1,v2,v3⟩,h1,⟨h2,h3,h4,h5⟩,h6⟩:=h
 obtain ⟨p,m,c,rfl,hl,_⟩:=h6.toSees.gsForm (i:=0) rfl
 have hm':m=saneC.outputs.length:=by simpa [strs] using hl.symm
 subst hm'
 exact ⟨(Ψ,[v0,v1,v2,.slice p saneC.outputs.length c],.slice p saneC.outputs.length c),h1,⟨h2,⟨v0,v1,v2,p,c,rfl,rfl,h3,h4,h5⟩⟩,h6⟩
theorem q6b (G:Glob Φ) (hm:Mem Φ K w) :
  Calls Tryz.prog 62 (List.toArray [.string y6i]) w (fun ee w'=>∃y:Fz×List Value,ee=.returned (.tuple (List.toArray [.agg y.2.toArray,.int .i64 ((0:Nat):Int),.int .i64 ((0:Nat):Int)]))∧(Φ.Le y.1∧RCore y.1 y.2 saneC)∧Mem y.1 K w'):=by
 refine (j3f G hm).mono fun ee w' h =>?_
 obtain ⟨⟨Ψ,d,v⟩,h1,⟨h2,h3⟩,h4⟩:=h
 obtain ⟨Ψ1,l1,m1,r1⟩:=Mem.freezeRow (i:=0) h4 rfl
 exact ⟨(Ψ1,d),h1,⟨h2.trans l1,(h3.mono l1).full (SliceOf.strs.2 r1)⟩,m1⟩
end
end Go.Sw

namespace Go.Sw
open Go.Proofs.Tryz
open Go.Proofs
set_option maxRecDepth 20000
set_option maxHeartbeats 4000000
theorem y2b {Φ:Fz} {K:List Res} {w:World} {d0:List Value} {v:Val} {d1:List Value} {u:Val} (rpv:RVal Φ d0 v) (rpu:RVal Φ d1 u) (ih:∀x∈v.args,∀{Φ:Fz} {K:List Res} {w:World} {d e:List Value} {u:Val},RVal Φ d x→RVal Φ e u→Mem Φ K w→Calls prog 34 (List.toArray [.agg d.toArray,.agg e.toArray]) w (fun ee w'=>ee=.returned (.bool (tT x u))∧Mem Φ K w')) (hm:Mem Φ K w) :
  Calls prog 34 (List.toArray [.agg d0.toArray,.agg d1.toArray]) w (fun ee w'=>ee=.returned (.bool (tT v u))∧Mem Φ K w'):=by
 obtain ⟨p3,c4,rfl,hi7,h2,hm5,hn6⟩:=RVal.fm rpv
 obtain ⟨p10,c11,rfl,hi14,h9,hm12,hn13⟩:=RVal.fm rpu
 refine zL func34 ntmps34 fun Q hQ a he =>?_
 refine Bx fun b16 w hm a he =>?_
 refine Bx fun b17 w hm a he =>?_
 refine goJ 2 fun a he =>?_
 refine sq fun L18 hL18 =>?_
 have hJ19:∀a w,(∃(o:Bool),EnvR 50 [(2,.pointer (some ⟨b16,0,none⟩)),(3,.pointer (some ⟨b17,0,none⟩)),(5,.bool o)] [] a∧Mem Φ (.blk b17 (ob [.string u.con,.int .i64 (u.num),.slice p10 u.args.length c11] 58)::.blk b16 (ob [.string v.con,.int .i64 (v.num),.slice p3 v.args.length c4] 58)::K) w∧(o=(decide (v.con=u.con)&&decide (v.num=u.num)&&decide (v.args.length=u.args.length))))→L18 a w:=by
  clear hm he
  rintro a w ⟨o,he,hm,hI20⟩
  refine hL18 _ _ ?_
  refine go fun a he =>?_
  refine yF (he.ks [2,3]) hm (fun R mm a w=>∃(i:Nat) (o:Bool),mm=v.args.length - i∧R Φ [(5,.bool o),(6,.int .i64 ((i:Nat):Int))] [] a w∧(tT v u=(o&&sameVs (v.args.drop i) (u.args.drop i))∧(o=true→v.args.length=u.args.length))) (v.args.length - 0) ⟨0,o,rfl,⟨he.pk,hm⟩,⟨by rw [hI20];exact x0j v u,fun h=>by rw [hI20] at h;simp only [Bool.and_eq_true,decide_eq_true_eq] at h;exact h.2⟩⟩ ?_
  clear hm he
  rintro mm a w ⟨i,o,hmu,⟨he,hm⟩,hI24⟩ L23 hL23
  obtain ⟨hI_,hln_⟩:=hI24
  by_cases h27:i < v.args.length
  refine go fun a he =>?_
  cases o
  refine zI ?_
  replace hm:=hm.dl [1,0]
  exact zV hm (by rw [hI_,Bool.false_and])
  refine Reg [1,2,1,1,2,1,2,1,1,2,0,1] [0,1] fun w hm a he =>?_
  have hlt2_:i < u.args.length:=by rw [← hln_ rfl];exact h27
  refine go fun a he =>?_
  obtain ⟨q30,rfl,x31,hx32,cs33,hl34,ha35,hr36⟩:=h2.el hn6 h27
  obtain ⟨p39,c40,rfl,hi43,h38,hm41,hn42⟩:=RVal.fm hr36
  refine go fun a he =>?_
  obtain ⟨q44,rfl,x45,hx46,cs47,hl48,ha49,hr50⟩:=h9.el hn13 hlt2_
  obtain ⟨p53,c54,rfl,hi57,h52,hm55,hn56⟩:=RVal.fm hr50
  refine zZ call34 (fun w hm a he =>?_) (c:=ih _ (List.mem_of_getElem? hx32) hr36 hr50 hm)
  refine go fun a he =>?_
  refine hL23 _ _ _ (by subst hmu;omega) ⟨(i+1),((tT x31 x45)),rfl,⟨he.pk,hm⟩,?_⟩
  exact ⟨by rw [hI_,zA hx32,zA hx46,z6h,Bool.true_and],fun _=>hln_ rfl⟩
  refine zI ?_
  replace hm:=hm.dl [1,0]
  exact zV hm (by rw [hI_,zE h27,q6v,Bool.and_true])
 by_cases h59:v.con=u.con
 by_cases h60:v.num=u.num
 by_cases h61:v.args.length=u.args.length
 refine go fun a he =>?_
 exact hJ19 _ _ ⟨true,he.pk,hm,by simp [h59,h60,h61]⟩
 refine go fun a he =>?_
 exact hJ19 _ _ ⟨false,he.pk,hm,by simp [h59,h60,h61]⟩
 refine go fun a he =>?_
 exact hJ19 _ _ ⟨false,he.pk,hm,by simp [h59,h60]⟩
 refine go fun a he =>?_
 exact hJ19 _ _ ⟨false,he.pk,hm,by simp [h59]⟩
theorem y8u:∀{v u:Val} {Φ:Fz} {K:List Res} {w:World} {d e:List Value},RVal Φ d v→RVal Φ e u→Mem Φ K w→Calls prog 34 (List.toArray [.agg d.toArray,.agg e.toArray]) w (fun ee w'=>ee=.returned (.bool (tT v u))∧Mem Φ K w'):=by
 intro v
 induction hn:SizeOf.sizeOf v using Nat.strongRecOn generalizing v with
 | ind n ih =>
  intro u Φ K w d e hv hu hm
  subst hn
  exact y2b hv hu (fun x hx {Φ K w d e u} h1 h2 h3=>ih (SizeOf.sizeOf x) (by cases v with | mk c n l=>have:=List.sizeOf_lt_of_mem (show x∈l from hx);simp only [Val.mk.sizeOf_spec];omega) rfl h1 h2 h3) hm
end Go.Sw

namespace Go.Sw
def z1d:List Bs→List Bs→Bool
 | [],_=>true
 | _::_,[]=>true
 | x::xs,y::ys=>decide (x=y)&&z1d xs ys
def q9o (l m:List Bs):Bool:=decide (l.length=m.length)&&z1d l m
theorem tS (x y:Bs) (xs ys:List Bs):z1d (x::xs) (y::ys)=(decide (x=y)&&z1d xs ys):=rfl
theorem q6t (ys:List Bs):z1d [] ys=true:=rfl
theorem z6g:∀l:List Bs,z1d l l=true
 | []=>rfl
 | x::xs=>by rw [tS,z6g xs];simp
theorem q6s (l:List Bs):q9o l l=true:=by simp [q9o,z6g]
end Go.Sw

namespace Go.Sw
open Go.Proofs
set_option maxRecDepth 20000
set_option maxHeartbeats 4000000
theorem y8t {Φ:Fz} {K:List Res} {w:World} {v0:Value} {v:List Bs} {v1:Value} {u:List Bs} (rpv:SliceOf RStr Φ 1 v0 v) (rpu:SliceOf RStr Φ 1 v1 u) (hm:Mem Φ K w) :
  Calls Tryz.prog 22 (List.toArray [v0,v1]) w (fun ee w'=>ee=.returned (.bool (q9o v u))∧Mem Φ K w'):=by
 obtain ⟨p0,c0,rfl,hm0,hn0⟩:=rpv.fm
 obtain ⟨p1,c1,rfl,hm1,hn1⟩:=rpu.fm
 refine zL Tryz.func22 Tryz.ntmps22 fun Q hQ a he =>?_
 refine goJ 2 fun a he =>?_
 refine sq fun L2 hL2 =>?_
 have hJ3:∀a w,(∃(o:Bool),EnvR 31 [(0,.slice p0 v.length c0),(1,.slice p1 u.length c1),(5,.bool o)] [] a∧Mem Φ (K) w∧(o=decide (v.length=u.length)))→L2 a w:=by
  clear hm he
  rintro a w ⟨o,he,hm,hI4⟩
  refine hL2 _ _ ?_
  refine go fun a he =>?_
  refine yF (he.ks [0,1]) hm (fun R mm a w=>∃(i:Nat) (o:Bool),mm=v.length - i∧R Φ [(5,.bool o),(6,.int .i64 ((i:Nat):Int))] [] a w∧(q9o v u=(o&&z1d (v.drop i) (u.drop i))∧(o=true→v.length=u.length))) (v.length - 0) ⟨0,o,rfl,⟨he.pk,hm⟩,⟨by rw [hI4];rfl,fun h=>by rw [hI4] at h;simp only [decide_eq_true_eq] at h;exact h⟩⟩ ?_
  clear hm he
  rintro mm a w ⟨i,o,hmu,⟨he,hm⟩,hI8⟩ L7 hL7
  obtain ⟨hI_,hln_⟩:=hI8
  by_cases h11:i < v.length
  refine go fun a he =>?_
  cases o
  refine zI ?_
  exact zV hm (by rw [hI_,Bool.false_and])
  refine Reg [1,1,1,2,1,1,1,2,1,1] [] fun w hm a he =>?_
  have hlt14:i < u.length:=by rw [← hln_ rfl];exact h11
  refine go fun a he =>?_
  obtain ⟨q15,rfl,x16,hx17,cs18,hl19,ha20,hr21⟩:=rpv.el hn0 h11
  obtain rfl:cs18=[.string x16]:=hr21
  refine go fun a he =>?_
  obtain ⟨q22,rfl,x23,hx24,cs25,hl26,ha27,hr28⟩:=rpu.el hn1 hlt14
  obtain rfl:cs25=[.string x23]:=hr28
  by_cases h29:x16=x23
  refine go fun a he =>?_
  refine hL7 _ _ _ (by subst hmu;omega) ⟨(i+1),(true),rfl,⟨he.pk,hm⟩,?_⟩
  exact ⟨by rw [hI_,zA hx17,zA hx24,tS,Bool.true_and];simp [h29],fun _=>hln_ rfl⟩
  refine go fun a he =>?_
  refine hL7 _ _ _ (by subst hmu;omega) ⟨(i+1),(false),rfl,⟨he.pk,hm⟩,?_⟩
  exact ⟨by rw [hI_,zA hx17,zA hx24,tS,Bool.true_and];simp [h29],fun _=>hln_ rfl⟩
  refine zI ?_
  exact zV hm (by rw [hI_,zE h11,q6t,Bool.and_true])
 by_cases h31:v.length=u.length
 refine go fun a he =>?_
 exact hJ3 _ _ ⟨true,he.pk,hm,by simp [h31]⟩
 refine go fun a he =>?_
 exact hJ3 _ _ ⟨false,he.pk,hm,by simp [h31]⟩
end Go.Sw

namespace Go.Sw
open Go.Proofs.Tryz
open Go.Proofs
set_option maxRecDepth 20000
set_option maxHeartbeats 4000000
def zz (l:List Nat):Bs:=⟨(l.map UInt8.ofNat).toArray⟩
def z_inxs:Bs:=⟨#[105,110,46,120,115]⟩
def z3n:Bs:=⟨#[67,111,110,115,47,48]⟩
def z_Cons1:Bs:=⟨#[67,111,110,115,47,49]⟩
def z_suml:Bs:=⟨#[115,117,109,46,108]⟩
def z_sumt:Bs:=⟨#[115,117,109,46,116]⟩
def y6e:List Bs:=[z_inxs,z_Cons1,y3b,z_suml,z_sumt,wB]
def y5a (nx:Next) (l:List Bs):Nat→List Bs
 | 0=>l
 | k+1=>(y5a nx l k).flatMap (xS nx)
theorem way_iter {nx:Next} {l:List Bs}:∀{k:Nat} {x:Bs},Way nx l k x↔x∈y5a nx l k:=by
 intro k
 induction k with
 | zero=>intro x;exact ⟨fun h=>by cases h;assumption,fun h=>.root h⟩
 | succ k ih =>
  intro x
  constructor
  intro h
  cases h with
  | step h1 h2=>exact List.mem_flatMap.2 ⟨_,ih.1 h1,h2⟩
  intro h
  obtain ⟨y,h1,h2⟩:=List.mem_flatMap.1 h
  exact .step (ih.2 h1) h2
theorem x0r:oZ saneC=y6e:=by kernel_rfl
theorem q6y:sA saneC=.ok y6e:=by rw [sA,if_pos cB,x0r]
theorem q5u:y8f saneC=.ok (zN saneC):=if_pos cB
theorem j2r:(zN saneC).length=11:=by kernel_rfl
theorem x1g:wB∈zN saneC:=by
 have h:decide (wB∈zN saneC)=true:=by kernel_rfl
 exact of_decide_eq_true h
theorem j4x:z3n∈zN saneC:=by
 have h:decide (z3n∈zN saneC)=true:=by kernel_rfl
 exact of_decide_eq_true h
theorem less_in:z1m∈zN saneC:=by
 have h:decide (z1m∈zN saneC)=true:=by kernel_rfl
 exact of_decide_eq_true h
theorem x1h:(zH (qO (xA (jM saneC)) (yN saneC)) wB).isSome=true:=by kernel_rfl
theorem j0h:(zH (qO (xA (jM saneC)) (yN saneC)) z3n).isSome=false:=by kernel_rfl
theorem j0t:q0h saneC z1m=[]:=by kernel_rfl
theorem q5g:oO saneC (zN saneC)=112:=by kernel_rfl
theorem j3g {l:List Bs} (h:PathOk (xA (jM saneC)) (yN saneC) wB l):l.length=4:=by
 have h3:decide (wB∈y5a (xA (jM saneC)) (yN saneC) 3)=true:=by kernel_rfl
 have h2:decide (wB∈y5a (xA (jM saneC)) (yN saneC) 2)=false:=by kernel_rfl
 have h1:decide (wB∈y5a (xA (jM saneC)) (yN saneC) 1)=false:=by kernel_rfl
 have h0:decide (wB∈y5a (xA (jM saneC)) (yN saneC) 0)=false:=by kernel_rfl
 have hw:=way_iter.1 h.way
 have hp:=h.pos
 obtain ⟨p,rfl,_,_,h4⟩:=h
 have h5:=h4 3 (way_iter.2 (of_decide_eq_true h3))
 simp only [List.length_append,List.length_cons,List.length_nil,Nat.add_sub_cancel] at *
 have a0:p.length≠0:=fun e=>by rw [e] at hw;exact of_decide_eq_false h0 hw
 have a1:p.length≠1:=fun e=>by rw [e] at hw;exact of_decide_eq_false h1 hw
 have a2:p.length≠2:=fun e=>by rw [e] at hw;exact of_decide_eq_false h2 hw
 omega
section
variable {Φ:Fz} {K:List Res} {w:World} {d0:List Value}
theorem j3q (rpc:RCore Φ d0 saneC) (G:Glob Φ) (hL:∀c,yC c=0→LOk c) (hm:Mem Φ K w) :
  Calls prog 15 (List.toArray [.agg d0.toArray]) w (fun ee w'=>∃y:Value,ee=.returned (.tuple (List.toArray [y,.int .i64 0]))∧True∧Mem Φ (.gs y 9 1 (strs y6e)::K) w'):=by
 have h:=y6g rpc G (hL _) hm
 rw [q6y] at h;exact h
theorem j2x (rpc:RCore Φ d0 saneC) (G:Glob Φ) (hL:∀c,yC c=0→LOk c) (hm:Mem Φ K w) :
  Calls prog 12 (List.toArray [.agg d0.toArray]) w (fun ee w'=>∃y:Value,ee=.returned (.tuple (List.toArray [y,.int .i64 0]))∧True∧Mem Φ (.gs y 9 1 (strs (zN saneC))::K) w'):=by
 have h:=j2y rpc G (hL _) hm
 rw [q5u] at h;exact h
theorem j0f (rpc:RCore Φ d0 saneC) (G:Glob Φ) (hL:∀c,yC c=0→LOk c) (hm:Mem Φ K w) :
  Calls prog 26 (List.toArray [.agg d0.toArray,.string wB]) w (fun ee w'=>∃y:Value×List Bs,ee=.returned (.tuple (List.toArray [y.1,.int .i64 0]))∧y.2.length=4∧Mem Φ (.gs y.1 9 1 (strs y.2)::K) w'):=by
 have h:=y4a (n:=wB) rpc G (hL _) hm
 rw [y3z cB x1g x1h] at h
 exact h.mono fun ee w' ⟨y,h1,h2,h3⟩=>⟨y,h1,j3g h2,h3⟩
theorem j4s (rpc:RCore Φ d0 saneC) (G:Glob Φ) (hL:∀c,yC c=0→LOk c) (hm:Mem Φ K w) :
  Calls prog 26 (List.toArray [.agg d0.toArray,.string z3n]) w (fun ee w'=>ee=.returned (.tuple (List.toArray [.slice none 0 0,.int .i64 3]))∧Mem Φ K w'):=by
 have h:=y4a (n:=z3n) rpc G (hL _) hm
 rw [y3y cB j4x j0h] at h;exact h
theorem j5h (rpc:RCore Φ d0 saneC) (G:Glob Φ) (hL:∀c,yC c=0→LOk c) (hm:Mem Φ K w) :
  Calls prog 14 (List.toArray [.agg d0.toArray,.string z1m]) w (fun ee w'=>∃y:Value,ee=.returned (.tuple (List.toArray [y,.int .i64 0]))∧True∧Mem Φ (.gs y 9 1 (strs [])::K) w'):=by
 have h:=q0g (n:=z1m) rpc G (hL _) hm
 rw [tQ cB less_in,j0t] at h;exact h
end
theorem x0q {Φ:Fz} {K:List Res} {w:World} (G:Glob Φ) (hm:Mem Φ K w) :
  Calls prog 35 (List.toArray []) w (fun ee w'=>∃y:Fz×List Value,ee=.returned (.agg y.2.toArray)∧(Φ.Le y.1∧RCore y.1 y.2 saneC)∧Mem y.1 K w'):=by
 refine zL func35 ntmps35 fun Q hQ a he =>?_
 refine Alc fun b2 w hm a he =>?_
 refine jF call62 (fun y4 w hG5 hm a he =>?_) (c:=q6b G hm)
 obtain ⟨Ψs,ds⟩:=y4
 obtain ⟨les,hrs⟩:=hG5
 simp only at les hrs hm he
 replace G:=G.mono les
 replace hm:=hm.nf
 have hrs0:=hrs
 obtain ⟨p8,c9,p14,c15,p20,c21,p26,c27,rfl,h7,h13,h19,h25,hm10,hn11,hm16,hn17,hm22,hn23,hm28,hn29⟩:=RCore.fm hrs
 refine Alc fun b30 w hm a he =>?_
 refine Sto 0 fun w hm a he =>?_
 refine Sto 1 fun w hm a he =>?_
 refine go fun a he =>?_
 have hmr:=hm
 replace hm:=hm.dl [1,0]
 refine jU (hm:=hmr) ?_
 exact ⟨(Ψs,[.slice p8 saneC.datas.length c9,.slice p14 saneC.inputs.length c15,.slice p20 saneC.funs.length c21,.slice p26 saneC.outputs.length c27]),rfl,⟨les,hrs0⟩,hm⟩
theorem sane_ok {Φ:Fz} {K:List Res} {w:World} (G:Glob Φ) (hL:∀c,yC c=0→LOk c) (hm:Mem Φ K w) :
  Calls prog 11 (List.toArray []) w (fun ee w'=>ee=.returned (.bool true)∧Mem Φ K w'):=by
 refine zL func11 ntmps11 fun Q hQ a he =>?_
 refine jF call35 (fun y3 w hG4 hm a he =>?_) (c:=x0q G hm)
 obtain ⟨Ψs,ds⟩:=y3
 obtain ⟨les,hrc⟩:=hG4
 simp only at les hrc hm he
 replace G:=G.mono les
 replace hm:=hm.nf
 have hrs:=hrc
 obtain ⟨p7,c8,p13,c14,p19,c20,p25,c26,rfl,h6,h12,h18,h24,hm9,hn10,hm15,hn16,hm21,hn22,hm27,hn28⟩:=RCore.fm hrs
 refine Alc fun b29 w hm a he =>?_
 refine Sto 0 fun w hm a he =>?_
 refine jF call15 (fun y31 w hG32 hm a he =>?_) (c:=j3q hrc G hL hm)
 replace hm:=hm.nf
 refine jF call26 (fun y34 w hG35 hm a he =>?_) (c:=j0f hrc G hL hm)
 obtain ⟨plv,pl⟩:=y34
 have plh:=hG35
 simp only at plh hm he
 replace hm:=hm.nf
 refine zZ call26 (fun w hm a he =>?_) (c:=j4s hrc G hL hm)
 refine jF call12 (fun y38 w hG39 hm a he =>?_) (c:=j2x hrc G hL hm)
 replace hm:=hm.nf
 refine jF call14 (fun y41 w hG42 hm a he =>?_) (c:=j5h hrc G hL hm)
 replace hm:=hm.nf
 refine go fun a he =>?_
 have hm0_:=hm
 clear hm
 obtain ⟨Ψ44,le45,hm,hrow46⟩:=hm0_.freezeRow (i:=3) rfl
 clear hm0_
 replace G:=G.mono le45
 replace hrc:=RCore.mono _ _ _ _ le45 hrc
 replace hm:=hm.nf
 have hsl47:SliceOf RStr Ψ44 1 _ (y6e):=SliceOf.strs.2 hrow46
 obtain ⟨p48,c49,hv_,hm50,hn51⟩:=hsl47.form (by decide)
 have hmk_:=hm
 clear hm
 subst hv_
 have hm:=hmk_
 clear hmk_
 have hm0_:=hm
 clear hm
 obtain ⟨Ψ52,le53,hm,hrow54⟩:=hm0_.freezeRow (i:=2) rfl
 clear hm0_
 replace G:=G.mono le53
 replace hrc:=RCore.mono _ _ _ _ le53 hrc
 replace hsl47:=hsl47.up le53
 replace hm:=hm.nf
 have hsl55:SliceOf RStr Ψ52 1 _ (pl):=SliceOf.strs.2 hrow54
 obtain ⟨p56,c57,hv_,hm58,hn59⟩:=hsl55.form (by decide)
 have hmk_:=hm
 clear hm
 subst hv_
 have hm:=hmk_
 clear hmk_
 have hm0_:=hm
 clear hm
 obtain ⟨Ψ60,le61,hm,hrow62⟩:=hm0_.freezeRow (i:=1) rfl
 clear hm0_
 replace G:=G.mono le61
 replace hrc:=RCore.mono _ _ _ _ le61 hrc
 replace hsl47:=hsl47.up le61
 replace hm:=hm.nf
 have hsl63:SliceOf RStr Ψ60 1 _ ((zN saneC)):=SliceOf.strs.2 hrow62
 obtain ⟨p64,c65,hv_,hm66,hn67⟩:=hsl63.form (by decide)
 have hmk_:=hm
 clear hm
 subst hv_
 have hm:=hmk_
 clear hmk_
 have hm0_:=hm
 clear hm
 obtain ⟨Ψ68,le69,hm,hrow70⟩:=hm0_.freezeRow (i:=0) rfl
 clear hm0_
 replace G:=G.mono le69
 replace hrc:=RCore.mono _ _ _ _ le69 hrc
 replace hsl47:=hsl47.up le69
 replace hsl63:=hsl63.up le69
 replace hm:=hm.nf
 have hsl71:SliceOf RStr Ψ68 1 _ (([]:List Bs)):=SliceOf.strs.2 hrow70
 obtain ⟨p72,c73,hv_,hm74,hn75⟩:=hsl71.form (by decide)
 have hmk_:=hm
 clear hm
 subst hv_
 have hm:=hmk_
 clear hmk_
 refine Qq (fun a he =>?_) (o:=by exact fun he hs=>wL true he rfl rfl rfl)
 refine Qq (fun a he =>?_) (o:=by exact fun he hs=>wL true he rfl rfl rfl)
 refine Qq (fun a he =>?_) (o:=by exact fun he hs=>wL true he rfl rfl rfl)
 refine Qq (fun a he =>?_) (o:=by exact fun he hs=>wL true he rfl rfl rfl)
 refine Qq (fun a he =>?_) (o:=by exact fun he hs=>wL true he rfl rfl rfl)
 refine qW fun v77 w hm a he =>?_
 have hm0_:=hm
 clear hm
 obtain ⟨Ψ78,le79,hm,hrow80⟩:=hm0_.freezeRow (i:=0) rfl
 clear hm0_
 replace G:=G.mono le79
 replace hrc:=RCore.mono _ _ _ _ le79 hrc
 replace hsl47:=hsl47.up le79
 replace hsl63:=hsl63.up le79
 replace hm:=hm.nf
 have hsl81:SliceOf RStr Ψ78 1 _ (y6e):=SliceOf.strs.2 hrow80
 obtain ⟨p82,c83,hv_,hm84,hn85⟩:=hsl81.form (by decide)
 have hmk_:=hm
 clear hm
 subst hv_
 have hm:=hmk_
 clear hmk_
 refine zZ call22 (fun w hm a he =>?_) (c:=(show Calls prog _ _ _ (fun ee w'=>ee=.returned (.bool true)∧_) from (q6s y6e)▸y8t hsl47 hsl81 hm))
 refine Qq (fun a he =>?_) (o:=by exact fun he hs=>wL true he rfl rfl (decide_eq_true (congrArg Int.ofNat j2r)))
 refine Qq (fun a he =>?_) (o:=by exact fun he hs=>wL true he rfl rfl (decide_eq_true (congrArg Int.ofNat rfl)))
 refine zZ call17 (fun w hm a he =>?_) (c:=(q5g▸j2f hrc hsl63 G (hL _) hm))
 refine Qq (fun a he =>?_) (o:=by exact fun he hs=>wL true he rfl rfl rfl)
 refine zI ?_
 replace hm:=hm.le ((((((les).trans le45).trans le53).trans le61).trans le69).trans le79)
 replace hm:=hm.dl [0]
 exact ⟨rfl,hm⟩
end Go.Sw

namespace Go.Proofs.YtghdfphedgcpdaaGreatDoor
open Go.ChangeShapes Go.WideShapes Go.ChangeAt Go.RowKit Go.Sw
set_option maxRecDepth 100000
section
variable {H:Type} {enc:TypeId×Value→H}
end
end Go.Proofs.YtghdfphedgcpdaaGreatDoor

namespace Go.Sw
section
variable {P:Program} {n:Nat} {E:List (Nat×Value)} {D:List Deferred} {Φ:Fz} {K:List Res} {w:World} {a:Act} {ty:TypeId}
end
section
variable {P:Program} {n:Nat} {E:List (Nat×Value)} {D:List Deferred} {a:Act} {Φ:Fz} {K:List Res} {w:World}
variable {dst:Option Tmp} {ty:TypeId} {pos:String} {aft:Array Edge} {g:Option (Nat×Bool)} {Kn:Value→World→Prop} {Qp:List PanicEntry→World→Prop}
end
end Go.Sw

namespace Go.Sw
section
variable {ns:List Bs} {fl:List Flow} {l:List Bs}
end
end Go.Sw

namespace Go.Sw
theorem All2.left {α β:Type} {R:α→β→Prop}:∀{xs:List α} {ys:List β},All2 R xs ys→∀x∈xs,∃y∈ys,R x y
 | x::xs,y::ys,h,z,hz=>by
  rcases List.mem_cons.1 hz with rfl | hz
  ·exact ⟨y,List.mem_cons_self,h.1⟩
  ·obtain ⟨u,h1,h2⟩:=All2.left h.2 z hz;exact ⟨u,List.mem_cons_of_mem _ h1,h2⟩
 | [],_,_,z,hz=>by cases hz
 | _::_,[],h,_,_=>h.elim
theorem gZ {s:Bs} (h:yY s=true):s.size≤24:=by
 simp only [yY,kF,decide_eq_true_eq] at h
 split at h
 ·cases h
 ·omega
theorem z8t {s:Bs} (h:qG s=true):s.size≤24:=by
 simp only [qG,kF,decide_eq_true_eq] at h
 split at h
 ·cases h
 ·omega
end Go.Sw

namespace Go.Sw
end Go.Sw

namespace Go.Sw
theorem q5n {t:Bs} {pos:Nat}:∀j,j < qR t pos→qI (zJ t (pos+j))=true∨zJ t (pos+j)=39:=by
 intro j hj
 unfold qR at hj
 split at hj
 ·rename_i h39
  split at hj
  ·by_cases h1:j < yP qI t t.size pos
   ·exact .inl (hY _ _ _ _ _ h1).2
   ·by_cases h2:j=yP qI t t.size pos
    ·exact .inr (by rw [h2];exact h39)
    ·have h3:=(hY yZ t t.size (pos+(yP qI t t.size pos+1)) (j - (yP qI t t.size pos+1)) (by omega)).2
     rw [show pos+(yP qI t t.size pos+1)+(j - (yP qI t t.size pos+1))=pos+j by omega] at h3
     exact .inl (by simp [qI,h3])
  ·exact .inl (hY _ _ _ _ _ hj).2
 ·exact .inl (hY _ _ _ _ _ hj).2
theorem y5l {t:Bs} {pos:Nat} {kd:Int} {k:Tok} (h:kO t pos kd=.ok k):(k.kind=5∨k.kind=kd)∧k.text=t.extract pos (pos+qR t pos):=by
 unfold kO at h
 split at h
 ·cases h
 ·simp only [Except.ok.injEq] at h
  subst h
  refine ⟨?_,rfl⟩
  simp only
  split
  ·exact .inl rfl
  ·exact .inr rfl
theorem q3g {t:Bs} {pos:Nat} {k:Tok} (h:zT t pos=.ok k) (hk:k.kind=2∨k.kind=3):((k.kind=2∧nS (zJ t pos)=true)∨(k.kind=3∧aJ (zJ t pos)=true))∧k.text=t.extract pos (pos+qR t pos):=by
 unfold zT at h
 split at h
 ·unfold tR at h
  split at h
  ·cases h
  ·split at h
   ·cases h
   ·simp only [Except.ok.injEq] at h;subst h;simp only at hk;omega
 split at h
 ·rename_i hs
  obtain ⟨h1,h2⟩:=y5l h
  exact ⟨.inl ⟨by omega,hs⟩,h2⟩
 split at h
 ·rename_i hs
  obtain ⟨h1,h2⟩:=y5l h
  exact ⟨.inr ⟨by omega,hs⟩,h2⟩
 split at h
 ·obtain ⟨_,rfl⟩:=gV h;simp only at hk;omega
 split at h
 ·obtain ⟨_,rfl⟩:=gV h;simp only at hk;omega
 split at h
 ·obtain ⟨_,rfl⟩:=gV h;simp only at hk;omega
 ·cases h
theorem j1n {s:Bs} {κ:Int} (hk:kF s=κ) (h:κ=2∨κ=3):0 < s.size∧((κ=2∧nS (zJ s 0)=true)∨(κ=3∧aJ (zJ s 0)=true))∧∀j,j < s.size→qI (zJ s j)=true∨zJ s j=39:=by
 unfold kF at hk
 split at hk
 ·omega
 split at hk
 ·rename_i k ht
  split at hk
  ·rename_i hks
   unfold nI at ht
   rw [sT] at ht
   split at ht
   ·cases ht
   rename_i q hq
   split at ht
   ·rename_i hlt
    split at ht
    ·cases ht
    rename_i k' hk'
    split at ht
    ·cases ht
    simp only [Except.ok.injEq,List.cons.injEq] at ht
    obtain ⟨rfl,_⟩:=ht
    obtain ⟨h1,h2⟩:=q3g hk' (by omega)
    have h3:(s.extract q (q+qR s q)).size=s.size:=by rw [← h2,hks]
    rw [ByteArray.size_extract] at h3
    have h4:q=0:=by omega
    subst h4
    refine ⟨hlt,?_,fun j hj =>?_⟩
    ·rcases h1 with ⟨a,b⟩ | ⟨a,b⟩
     ·exact .inl ⟨by omega,b⟩
     ·exact .inr ⟨by omega,b⟩
    ·have:=q5n (t:=s) (pos:=0) j (by omega)
     rwa [Nat.zero_add] at this
   ·cases ht
  ·omega
 ·omega
theorem q1g {s:Bs} (h:kF s=2∨kF s=3):0 < s.size∧((kF s=2∧nS (zJ s 0)=true)∨(kF s=3∧aJ (zJ s 0)=true))∧∀j,j < s.size→qI (zJ s j)=true∨zJ s j=39:=j1n rfl h
theorem tx_mem {s:Bs} {b:UInt8} (h:b∈tx s):∃j,j < s.size∧zJ s j=b.toNat:=by
 obtain ⟨j,hj,rfl⟩:=List.getElem_of_mem h
 have h1:=tx_size s
 refine ⟨j,by omega,?_⟩
 rw [mL (by omega)]
 simp only [tx,Array.getElem_toList];rfl
theorem wG {s:Bs} (h:yY s=true):kF s=2:=by simpa [yY] using h
theorem q0b {s:Bs} (h:qG s=true):kF s=3:=by simpa [qG] using h
theorem j1y (n:Int):∃b r,y0d n=b::r∧(b=45∨(48≤b.toNat∧b.toNat≤57)):=by
 unfold y0d
 split
 ·exact ⟨_,_,rfl,.inl rfl⟩
 ·have h:∀u,q8p u=Lib.decDigits u:=fun u=>uH (u+1) u (Nat.lt_succ_self _)
  rw [h]
  have:∀f u,u < f→∃b r,Lib.decDigits u=b::r∧(48≤b.toNat∧b.toNat≤57):=by
   intro f
   induction f with
   | zero=>intro u hu;omega
   | succ f ih =>
    intro u hu
    rw [Lib.decDigits]
    by_cases hn:u < 10
    ·rw [dif_pos hn]
     refine ⟨_,_,rfl,?_⟩
     simp [Nat.toUInt8,UInt8.toNat_ofNat'];omega
    ·rw [dif_neg hn]
     obtain ⟨b,r,e,hb⟩:=ih (u / 10) (by omega)
     exact ⟨b,r++_,by rw [e];rfl,hb⟩
  obtain ⟨b,r,e,hb⟩:=this (n.toNat+1) n.toNat (Nat.lt_succ_self _)
  exact ⟨b,r,e,.inr hb⟩
theorem z8y:∀(f n:Nat),∀b∈y4g f n,48≤b.toNat∧b.toNat≤57
 | 0,_,_,h=>by cases h
 | f+1,n,b,h=>by
  simp only [y4g] at h
  split at h
  ·simp only [List.mem_singleton] at h;subst h;simp [Nat.toUInt8,UInt8.toNat_ofNat'];omega
  ·rcases List.mem_cons.1 h with rfl | h
   ·simp [Nat.toUInt8,UInt8.toNat_ofNat'];omega
   ·exact z8y f _ b h
theorem tx_ofTx (l:Tx):tx (ofTx l)=l:=by simp [tx,ofTx]
end Go.Sw

namespace Go.Sw
theorem y1j:∀(f u:Nat),u < f→u≤9223372036854775808→∀r,Lib.parseUint10 0 (Lib.decDigits u++r)=Lib.parseUint10 u r
 | 0,_,h,_,_=>by omega
 | f+1,u,h,hu,r=>by
  rw [Lib.decDigits]
  by_cases hn:u < 10
  ·rw [dif_pos hn,List.singleton_append,Lib.parseUint10]
   have e:(UInt8.ofNat (48+u)).toNat=48+u:=by rw [UInt8.toNat_ofNat'];omega
   rw [e,if_pos (by omega),if_neg (by omega),if_neg (by omega)]
   congr 1;omega
  ·rw [dif_neg hn,List.append_assoc,y1j f (u / 10) (by omega) (by omega),List.singleton_append,Lib.parseUint10]
   have e:(UInt8.ofNat (48+u % 10)).toNat=48+u % 10:=by rw [UInt8.toNat_ofNat'];omega
   rw [e,if_pos (by omega),if_neg (by omega),if_neg (by omega)]
   congr 1;omega
theorem digs_ne (u:Nat):Lib.decDigits u≠[]:=by
 rw [Lib.decDigits];split <;> simp
theorem y5v {u:Nat} (h:u≤9223372036854775808):Lib.parseMag (Lib.decDigits u)=.ok u:=by
 unfold Lib.parseMag
 rw [if_neg (digs_ne u)]
 have:=y1j (u+1) u (Nat.lt_succ_self _) h []
 rw [List.append_nil] at this
 rw [this];rfl
theorem j0v (u:Nat):∃b r,Lib.decDigits u=b::r∧48≤b.toNat∧b.toNat≤57:=by
 obtain ⟨b,r,e,h⟩:=j1y (u:Int)
 have e2:y0d (u:Int)=Lib.decDigits u:=by rw [← q8w];unfold Lib.itoa;rw [if_neg (by omega)];rfl
 rw [e2] at e
 rcases h with rfl | h
 ·exfalso
  have h1:(45:UInt8)∈Lib.decDigits u:=by rw [e];exact List.mem_cons_self
  rw [← uH (u+1) u (Nat.lt_succ_self _)] at h1
  have:=z8y _ _ _ (List.mem_reverse.1 h1)
  exact absurd this (by decide)
 ·exact ⟨b,r,e,h⟩
theorem j0d {n:Int} (h:I64 n):Lib.atoiAll (Lib.itoa n)=.ok n:=by
 unfold I64 at h
 unfold Lib.itoa
 split
 ·rename_i hn
  have h1:=y5v (u:=n.natAbs) (by omega)
  simp only [Lib.atoiAll]
  rw [if_pos (.inr rfl),h1]
  simp only
  rw [if_neg (by intro h;exact h.1 rfl),if_neg (by intro h;omega)]
  simp only [show ((45:UInt8).toNat=45)=True from by simp,if_true]
  congr 1;omega
 ·rename_i hn
  have h1:=y5v (u:=n.toNat) (by omega)
  obtain ⟨b,r,e,hb⟩:=j0v n.toNat
  rw [e] at h1 ⊢
  simp only [Lib.atoiAll]
  rw [if_neg (by omega),h1]
  simp only
  rw [if_neg (by intro h;omega),if_neg (by intro h;omega),if_neg (by omega)]
  congr 1;omega
theorem q1i {n:Int} (h:I64 n):gG (aM n)=some n:=by
 unfold gG
 have h1:dI (aM n)=.ok n:=by
  unfold dI
  rw [show (aM n).data.toList=Lib.itoa n from by simp [aM],j0d h]
 rw [h1]
 exact if_pos rfl
end Go.Sw
