import Derived.Test.YtgkhcfjooiekkaaGreatDoorProg
import Derived.Test.YtgkhcfjooiekkaaGreatDoorX04
import Derived.Test.YtgkhcfjooiekkaaGreatDoorX10
import Derived.Test.YtgkhcfjooiekkaaGreatDoorX11
import Derived.Test.YtgkhcfjooiekkaaGreatDoorX13
set_option linter.unusedVariables false
set_option linter.unusedSimpArgs false
namespace Go.Sw
open Go.Proofs
set_option maxRecDepth 20000
set_option maxHeartbeats 4000000
theorem print_ok {Φ:Fz} {K:List Res} {w:World} {d0:List Value} {c:Core} (rpc:RCore Φ d0 c) (G:Glob Φ) (T_:Tabs Φ) (hm:Mem Φ K w) :
  Calls Tryz.prog 23 (List.toArray [.agg d0.toArray]) w (fun ee w'=>ee=.returned (.tuple (List.toArray [.string (printP c).1,.int .i64 (printP c).2]))∧Mem Φ K w'):=by
 obtain ⟨p3,c4,p9,c10,p15,c16,p21,c22,rfl,h2,h8,h14,h20,hm5,hn6,hm11,hn12,hm17,hn18,hm23,hn24⟩:=RCore.fm rpc
 refine Enter Tryz.func23 Tryz.ntmps23 fun Q hQ a he =>?_
 refine Bx he hm fun b26 w hm a he =>?_
 refine CallR Tryz.call36 he hm (fun w hm a he =>?_) (c:=check_ok rpc G hm)
 refine go he hm fun a he =>?_
 by_cases h30:lookP c=0
 refine Alc he hm fun b32 w hm a he =>?_
 refine go he hm fun a he =>?_
 replace hm:=hm.nilRow 5 1
 replace hm:=hm.nf
 have hR_:=look_right h30
 have hL_:=(look_parts h30).1
 have hps_:=print_size h30 (core_nums rpc)
 refine go he hm fun a he =>?_
 refine loopK (he.ks [1,5,25,26]) hm (fun R mm a w=>∃(i:Nat) (bp:Option Addr) (bv:Value) (acc:Bs),mm=c.datas.length - i∧R Φ [(27,.int .i64 ((i:Nat):Int))] [(0,.gs (bv) 5 1 (Lib.strCells acc)),(1,.blk b32 (ob [.pointer bp,bv] 130))] a w∧((bp=none∨bp=some ⟨b32,0,none⟩)∧acc++(catB ((c.datas.drop i).map dataB)++(catB (c.inputs.map inputB)++(catB (c.funs.map funB)++catB (c.outputs.map outB))))=printB c)) (c.datas.length - 0) ⟨0,none,.slice none 0 0,⟨#[]⟩,rfl,⟨he.pk,hm⟩,⟨.inl rfl,empty_app _⟩⟩ ?_
 clear hm he
 rintro mm a w ⟨i,bp,bv,acc,hmu,⟨he,hm⟩,hI36⟩ L35 hL35
 replace hm:=hm.nf
 obtain ⟨hbp,hI36⟩:=hI36
 refine go he hm fun a he =>?_
 by_cases h38:i < c.datas.length
 refine go he hm fun a he =>?_
 obtain ⟨q42,rfl,x43,hx44,cs45,hl46,ha47,hr48⟩:=h2.el hn6 h38
 obtain ⟨s49,rfl,h50⟩:=id hr48
 obtain ⟨p51,c52,rfl,hm53,hn54⟩:=h50.fm
 refine Alc he hm fun b55 w hm a he =>?_
 refine Sto 0 he hm fun w hm a he =>?_
 refine go he hm fun a he =>?_
 replace hm:=hm.nilRow 9 1
 replace hm:=hm.nf
 refine go he hm fun a he =>?_
 refine loopK (he.ks [1,5,7,25,26,27,32,33]) hm (fun R mm a w=>∃(j:Nat) (u:Value) (ac:List Bs),mm=x43.cons.length - j∧R Φ [(8,u),(34,.int .i64 ((j:Nat):Int))] [(0,.gs (u) 9 1 (strs ac))] a w∧(ac=(x43.cons.map conT_).take j)) (x43.cons.length - 0) ⟨0,.slice none 0 0,[],rfl,⟨he.pk,hm⟩,rfl⟩ ?_
 clear hm he
 rintro mm a w ⟨j,u,ac,hmu,⟨he,hm⟩,hI60⟩ L59 hL59
 replace hm:=hm.nf
 refine go he hm fun a he =>?_
 by_cases h62:j < x43.cons.length
 refine go he hm fun a he =>?_
 obtain ⟨q66,rfl,x67,hx68,cs69,hl70,ha71,hr72⟩:=h50.el hn54 h62
 obtain ⟨s73,rfl,h74⟩:=id hr72
 obtain ⟨p75,c76,rfl,hm77,hn78⟩:=h74.fm
 refine Alc he hm fun b79 w hm a he =>?_
 refine Sto 0 he hm fun w hm a he =>?_
 refine BldS he hm fun v80 w hm a he =>?_
 refine App_ 0 rt_25 he hm (fun v81 w hm a he =>?_) (hr:=(SliceOf.strs.1 h74).rowIn hm.toSees) (h1:=strs_cells _) (hb:=by have h_:=con_lens hR_ hL_ (List.mem_of_getElem? hx44) (List.mem_of_getElem? hx68);have h2_:(⟨#[32]⟩:Bs).size=1:=rfl;rw [h2_] at h_;simp only [List.length_cons,List.length_nil,strs_length] at h_ ⊢;omega)
 refine CallR Tryz.call67 he hm (fun w hm a he =>?_) (c:=joinG_ok (l:=x67.name::x67.fields) (sep:=⟨#[32]⟩) (by have h_:=con_lens hR_ hL_ (List.mem_of_getElem? hx44) (List.mem_of_getElem? hx68);omega) hm)
 replace hm:=hm.nf
 refine BldS he hm fun v82 w hm a he =>?_
 refine App_ 2 rt_25 he hm (fun v83 w hm a he =>?_) (hb:=by have h_:=data_lens hR_ hL_ (List.mem_of_getElem? hx44);have h2_:(⟨#[32,124,32]⟩:Bs).size=3:=rfl;rw [h2_] at h_;have h3_:=congrArg List.length hI60;rw [List.length_take] at h3_;simp only [List.length_cons,List.length_nil,strs_length] at h3_ ⊢;omega)
 first | rw [strs_snoc] at hm | rw [← strs_append] at hm
 refine go he hm fun a he =>?_
 replace hm:=hm.dl [1,0]
 refine hL59 _ _ _ (by subst hmu;omega) ⟨(j+1),(v83),(ac++[conT_ x67]),rfl,⟨he.pk,by exact hm⟩,?_⟩
 rw [hI60];exact (map_take_snoc hx68).symm
 refine Reg [1,2,1,1,1,0,1,1,0] [1,4] he hm fun w hm a he =>?_
 have hac_:ac=x43.cons.map conT_:=by rw [hI60];exact map_take_all h62
 have hp1_:=cat_part hx44 hI36
 simp only [dataB,app_size,← hac_] at hp1_
 refine Qq he hm (fun a he =>?_) (o:=by exact fun _ _ _ he hs=>y_sadd he rfl rfl (by (try simp only [app_size]);omega))
 refine Qq he hm (fun a he =>?_) (o:=by exact fun _ _ _ he hs=>y_sadd he rfl rfl (by (try simp only [app_size]);omega))
 refine CallR Tryz.call67 he hm (fun w hm a he =>?_) (c:=joinG_ok (l:=ac) (sep:=⟨#[32,124,32]⟩) (by have h_:=data_lens hR_ hL_ (List.mem_of_getElem? hx44);rw [← hac_] at h_;omega) hm)
 replace hm:=hm.nf
 refine Qq he hm (fun a he =>?_) (o:=by exact fun _ _ _ he hs=>y_sadd he rfl rfl (by (try simp only [app_size]);omega))
 refine Qq he hm (fun a he =>?_) (o:=by exact fun _ _ _ he hs=>y_sadd he rfl rfl (by (try simp only [app_size]);omega))
 replace hm:=hm.ar [] [1,2]
 refine CallY Tryz.call68 he hm (fun y85 w hG86 hm a he =>?_) (c:=writeString_ok (t:=acc) (s:=(((((⟨#[100,97,116,97,32]⟩:ByteArray)++x43.name)++(⟨#[32,61,32]⟩:ByteArray))++(joinP (⟨#[32,124,32]⟩:Bs) ac))++(⟨#[10]⟩:ByteArray))) hbp (by (try simp only [app_size]);omega) hm)
 replace hm:=hm.nf
 refine go he hm fun a he =>?_
 replace hm:=hm.ar [2] [2,1,2]
 refine hL35 _ _ _ (by subst hmu;omega) ⟨(i+1),((some ⟨b32,0,none⟩)),(y85),((acc++(((((⟨#[100,97,116,97,32]⟩:ByteArray)++x43.name)++(⟨#[32,61,32]⟩:ByteArray))++(joinP (⟨#[32,124,32]⟩:Bs) ac))++(⟨#[10]⟩:ByteArray)))),rfl,⟨he.pk,by exact hm⟩,?_⟩
 rw [hac_];exact ⟨.inr rfl,cat_step hx44 hI36⟩
 refine go he hm fun a he =>?_
 refine loopK (he.ks [1,5,60,61]) hm (fun R mm a w=>∃(i:Nat) (bp:Option Addr) (bv:Value) (acc:Bs),mm=c.inputs.length - i∧R Φ [(62,.int .i64 ((i:Nat):Int))] [(0,.gs (bv) 5 1 (Lib.strCells acc)),(1,.blk b32 (ob [.pointer bp,bv] 130))] a w∧((bp=none∨bp=some ⟨b32,0,none⟩)∧acc++(catB ((c.inputs.drop i).map inputB)++(catB (c.funs.map funB)++catB (c.outputs.map outB)))=printB c)) (c.inputs.length - 0) ⟨0,bp,bv,acc,rfl,⟨he.pk,hm⟩,⟨hbp,cat_done h38 hI36⟩⟩ ?_
 clear hm he
 rintro mm a w ⟨i,bp,bv,acc,hmu,⟨he,hm⟩,hI91⟩ L90 hL90
 replace hm:=hm.nf
 obtain ⟨hbp,hI91⟩:=hI91
 refine go he hm fun a he =>?_
 by_cases h93:i < c.inputs.length
 refine go he hm fun a he =>?_
 obtain ⟨q97,rfl,x98,hx99,cs100,hl101,ha102,hr103⟩:=h8.el hn12 h93
 obtain rfl:=id hr103
 refine Alc he hm fun b104 w hm a he =>?_
 refine Sto 0 he hm fun w hm a he =>?_
 refine go he hm fun a he =>?_
 have hp1_:=cat_part hx99 hI91
 simp only [inputB,app_size] at hp1_
 refine Qq he hm (fun a he =>?_) (o:=by exact fun _ _ _ he hs=>y_sadd he rfl rfl (by (try simp only [app_size]);omega))
 refine Qq he hm (fun a he =>?_) (o:=by exact fun _ _ _ he hs=>y_sadd he rfl rfl (by (try simp only [app_size]);omega))
 refine Qq he hm (fun a he =>?_) (o:=by exact fun _ _ _ he hs=>y_sadd he rfl rfl (by (try simp only [app_size]);omega))
 refine Qq he hm (fun a he =>?_) (o:=by exact fun _ _ _ he hs=>y_sadd he rfl rfl (by (try simp only [app_size]);omega))
 replace hm:=hm.ar [] [1,2]
 refine CallY Tryz.call68 he hm (fun y105 w hG106 hm a he =>?_) (c:=writeString_ok (t:=acc) (s:=(((((⟨#[105,110,112,117,116,32]⟩:ByteArray)++x98.name)++(⟨#[32,58,32]⟩:ByteArray))++x98.type)++(⟨#[10]⟩:ByteArray))) hbp (by (try simp only [app_size]);omega) hm)
 replace hm:=hm.nf
 refine go he hm fun a he =>?_
 replace hm:=hm.ar [2] [2,1,2]
 refine hL90 _ _ _ (by subst hmu;omega) ⟨(i+1),((some ⟨b32,0,none⟩)),(y105),((acc++(((((⟨#[105,110,112,117,116,32]⟩:ByteArray)++x98.name)++(⟨#[32,58,32]⟩:ByteArray))++x98.type)++(⟨#[10]⟩:ByteArray)))),rfl,⟨he.pk,by exact hm⟩,?_⟩
 exact ⟨.inr rfl,cat_step hx99 hI91⟩
 refine go he hm fun a he =>?_
 refine loopK (he.ks [1,5,77,78]) hm (fun R mm a w=>∃(i:Nat) (bp:Option Addr) (bv:Value) (acc:Bs),mm=c.funs.length - i∧R Φ [(79,.int .i64 ((i:Nat):Int))] [(0,.gs (bv) 5 1 (Lib.strCells acc)),(1,.blk b32 (ob [.pointer bp,bv] 130))] a w∧((bp=none∨bp=some ⟨b32,0,none⟩)∧acc++(catB ((c.funs.drop i).map funB)++catB (c.outputs.map outB))=printB c)) (c.funs.length - 0) ⟨0,bp,bv,acc,rfl,⟨he.pk,hm⟩,⟨hbp,cat_done h93 hI91⟩⟩ ?_
 clear hm he
 rintro mm a w ⟨i,bp,bv,acc,hmu,⟨he,hm⟩,hI111⟩ L110 hL110
 replace hm:=hm.nf
 obtain ⟨hbp,hI111⟩:=hI111
 refine go he hm fun a he =>?_
 by_cases h113:i < c.funs.length
 refine go he hm fun a he =>?_
 obtain ⟨q117,rfl,x118,hx119,cs120,hl121,ha122,hr123⟩:=h14.el hn18 h113
 obtain ⟨s124,b130,rfl,h125,h131⟩:=id hr123
 obtain ⟨p126,c127,rfl,hm128,hn129⟩:=h125.fm
 obtain ⟨p134,c135,p140,c141,rfl,hi144,h133,h139,hm136,hn137,hm142,hn143⟩:=REx.fm h131
 refine Alc he hm fun b145 w hm a he =>?_
 refine Sto 0 he hm fun w hm a he =>?_
 refine go he hm fun a he =>?_
 have hq1_:=fun_start hx119 hI111
 have hp1_:=congrArg ByteArray.size hq1_
 simp only [app_size] at hp1_
 refine Qq he hm (fun a he =>?_) (o:=by exact fun _ _ _ he hs=>y_sadd he rfl rfl (by (try simp only [app_size]);omega))
 replace hm:=hm.ar [] [1,2]
 refine CallY Tryz.call68 he hm (fun y147 w hG148 hm a he =>?_) (c:=writeString_ok (t:=acc) (s:=((⟨#[102,117,110,32]⟩:ByteArray)++x118.name)) hbp (by (try simp only [app_size]);omega) hm)
 replace hm:=hm.nf
 refine go he hm fun a he =>?_
 refine loopK (he.ks [1,5,14,77,78,79,88,89]) hm (fun R mm a w=>∃(j:Nat) (bv2:Value) (acc2:Bs),mm=x118.params.length - j∧R Φ [(90,.int .i64 ((j:Nat):Int))] [(0,.blk b32 (ob [.pointer (some ⟨b32,0,none⟩),bv2] 130)),(1,.gs (bv2) 5 1 (Lib.strCells acc2))] a w∧(acc2++(catB ((x118.params.drop j).map paramB)++((((⟨#[32,58,32]⟩:Bs)++x118.result)++⟨#[32,61,32]⟩)++((wB x118.body++⟨#[10]⟩)++(catB ((c.funs.drop (i+1)).map funB)++catB (c.outputs.map outB)))))=printB c)) (x118.params.length - 0) ⟨0,y147,(acc++((⟨#[102,117,110,32]⟩:ByteArray)++x118.name)),rfl,⟨he.pk,hm⟩,hq1_⟩ ?_
 clear hm he
 rintro mm a w ⟨j,bv2,acc2,hmu,⟨he,hm⟩,hI152⟩ L151 hL151
 replace hm:=hm.nf
 refine go he hm fun a he =>?_
 by_cases h154:j < x118.params.length
 refine go he hm fun a he =>?_
 obtain ⟨q158,rfl,x159,hx160,cs161,hl162,ha163,hr164⟩:=h125.el hn129 h154
 obtain rfl:=id hr164
 refine Alc he hm fun b165 w hm a he =>?_
 refine Sto 0 he hm fun w hm a he =>?_
 refine go he hm fun a he =>?_
 have hp1_:=cat_part hx160 hI152
 simp only [paramB,app_size] at hp1_
 refine Qq he hm (fun a he =>?_) (o:=by exact fun _ _ _ he hs=>y_sadd he rfl rfl (by (try simp only [app_size]);omega))
 refine Qq he hm (fun a he =>?_) (o:=by exact fun _ _ _ he hs=>y_sadd he rfl rfl (by (try simp only [app_size]);omega))
 refine Qq he hm (fun a he =>?_) (o:=by exact fun _ _ _ he hs=>y_sadd he rfl rfl (by (try simp only [app_size]);omega))
 refine Qq he hm (fun a he =>?_) (o:=by exact fun _ _ _ he hs=>y_sadd he rfl rfl (by (try simp only [app_size]);omega))
 replace hm:=hm.ar [] [2,2]
 refine CallY Tryz.call68 he hm (fun y166 w hG167 hm a he =>?_) (c:=writeString_ok (t:=acc2) (s:=(((((⟨#[32,40]⟩:ByteArray)++x159.name)++(⟨#[32,58,32]⟩:ByteArray))++x159.type)++(⟨#[41]⟩:ByteArray))) (.inr rfl) (by (try simp only [app_size]);omega) hm)
 replace hm:=hm.nf
 refine go he hm fun a he =>?_
 replace hm:=hm.dl [2]
 refine hL151 _ _ _ (by subst hmu;omega) ⟨(j+1),(y166),((acc2++(((((⟨#[32,40]⟩:ByteArray)++x159.name)++(⟨#[32,58,32]⟩:ByteArray))++x159.type)++(⟨#[41]⟩:ByteArray)))),rfl,⟨he.pk,by exact hm⟩,?_⟩
 exact cat_step hx160 hI152
 refine go he hm fun a he =>?_
 have hq2_:=cat_done h154 hI152
 have hp2_:=congrArg ByteArray.size hq2_
 simp only [app_size] at hp2_
 have hq3_:=wB_size x118.body
 refine Qq he hm (fun a he =>?_) (o:=by exact fun _ _ _ he hs=>y_sadd he rfl rfl (by (try simp only [app_size]);omega))
 refine Qq he hm (fun a he =>?_) (o:=by exact fun _ _ _ he hs=>y_sadd he rfl rfl (by (try simp only [app_size]);omega))
 replace hm:=hm.ar [] [1,1]
 refine CallY Tryz.call68 he hm (fun y170 w hG171 hm a he =>?_) (c:=writeString_ok (t:=acc2) (s:=(((⟨#[32,58,32]⟩:ByteArray)++x118.result)++(⟨#[32,61,32]⟩:ByteArray))) (.inr rfl) (by (try simp only [app_size]);omega) hm)
 replace hm:=hm.nf
 replace hm:=hm.ar [] [1,1]
 refine CallY Tryz.call69 he hm (fun y173 w hG174 hm a he =>?_) (c:=write_ok (t:=(acc2++(((⟨#[32,58,32]⟩:ByteArray)++x118.result)++(⟨#[32,61,32]⟩:ByteArray)))) (wf_body hR_ (List.mem_of_getElem? hx119) (core_nums rpc _ (List.mem_of_getElem? hx119))) h131 (.inr rfl) T_ (by (try simp only [app_size]);omega) hm)
 replace hm:=hm.nf
 replace hm:=hm.ar [] [1,1]
 refine CallY Tryz.call70 he hm (fun y175 w hG176 hm a he =>?_) (c:=writeByte_ok (t:=((acc2++(((⟨#[32,58,32]⟩:ByteArray)++x118.result)++(⟨#[32,61,32]⟩:ByteArray)))++wB x118.body)) (c:=10) (.inr rfl) (by (try simp only [app_size]);omega) hm)
 replace hm:=hm.nf
 refine go he hm fun a he =>?_
 replace hm:=hm.ar [2] [2,1,2]
 refine hL110 _ _ _ (by subst hmu;omega) ⟨(i+1),((some ⟨b32,0,none⟩)),(y175),((((acc2++(((⟨#[32,58,32]⟩:ByteArray)++x118.result)++(⟨#[32,61,32]⟩:ByteArray)))++wB x118.body)++⟨#[10]⟩)),rfl,⟨he.pk,by exact hm⟩,?_⟩
 exact ⟨.inr rfl,fun_step hq2_⟩
 refine go he hm fun a he =>?_
 refine loopK (he.ks [5,115,116]) hm (fun R mm a w=>∃(i:Nat) (bp:Option Addr) (bv:Value) (acc:Bs),mm=c.outputs.length - i∧R Φ [(117,.int .i64 ((i:Nat):Int))] [(0,.gs (bv) 5 1 (Lib.strCells acc)),(1,.blk b32 (ob [.pointer bp,bv] 130))] a w∧((bp=none∨bp=some ⟨b32,0,none⟩)∧acc++(catB ((c.outputs.drop i).map outB)++⟨#[]⟩)=printB c)) (c.outputs.length - 0) ⟨0,bp,bv,acc,rfl,⟨he.pk,hm⟩,⟨hbp,by have h_:=cat_done h113 hI111;rw [← h_,app_empty];rfl⟩⟩ ?_
 clear hm he
 rintro mm a w ⟨i,bp,bv,acc,hmu,⟨he,hm⟩,hI181⟩ L180 hL180
 replace hm:=hm.nf
 obtain ⟨hbp,hI181⟩:=hI181
 refine go he hm fun a he =>?_
 by_cases h183:i < c.outputs.length
 refine go he hm fun a he =>?_
 obtain ⟨q187,rfl,x188,hx189,cs190,hl191,ha192,hr193⟩:=h20.el hn24 h183
 obtain rfl:cs190=[.string x188]:=hr193
 refine go he hm fun a he =>?_
 have hp1_:=cat_part hx189 hI181
 simp only [outB,app_size] at hp1_
 refine Qq he hm (fun a he =>?_) (o:=by exact fun _ _ _ he hs=>y_sadd he rfl rfl (by (try simp only [app_size]);omega))
 refine Qq he hm (fun a he =>?_) (o:=by exact fun _ _ _ he hs=>y_sadd he rfl rfl (by (try simp only [app_size]);omega))
 replace hm:=hm.pl 1
 refine CallY Tryz.call68 he hm (fun y194 w hG195 hm a he =>?_) (c:=writeString_ok (t:=acc) (s:=(((⟨#[111,117,116,112,117,116,32]⟩:ByteArray)++x188)++(⟨#[10]⟩:ByteArray))) hbp (by (try simp only [app_size]);omega) hm)
 replace hm:=hm.nf
 refine go he hm fun a he =>?_
 replace hm:=hm.ar [] [2,1,2]
 refine hL180 _ _ _ (by subst hmu;omega) ⟨(i+1),((some ⟨b32,0,none⟩)),(y194),((acc++(((⟨#[111,117,116,112,117,116,32]⟩:ByteArray)++x188)++(⟨#[10]⟩:ByteArray)))),rfl,⟨he.pk,by exact hm⟩,?_⟩
 exact ⟨.inr rfl,cat_step hx189 hI181⟩
 refine go he hm fun a he =>?_
 have hend_:=cat_done h183 hI181
 rw [app_empty] at hend_
 replace hm:=hm.pl 1
 refine CallR Tryz.call71 he hm (fun w hm a he =>?_) (c:=builderLen_ok (t:=acc) hm)
 by_cases h199:60000 < acc.size
 refine go he hm fun a he =>?_
 replace hm:=hm.dl [2,1,0]
 refine Ret2 hQ he hm ?_
 exact ⟨by rw [printP_long h30 (hend_▸h199)],hm⟩
 replace hm:=hm.ar [] [1,1]
 refine CallR Tryz.call72 he hm (fun w hm a he =>?_) (c:=builderString_ok (t:=acc) hm)
 replace hm:=hm.nf
 refine go he hm fun a he =>?_
 replace hm:=hm.dl [0]
 refine Ret2 hQ he hm ?_
 exact ⟨by rw [printP_ok h30 (hend_▸h199),hend_],hm⟩
 refine go he hm fun a he =>?_
 replace hm:=hm.dl [0]
 refine Ret2 hQ he hm ?_
 exact ⟨by rw [printP_look h30],hm⟩
end Go.Sw

namespace Go.Sw
def univO (c:Core):List Bs:=c.outputs++c.funs.flatMap fun f=>calledP f.body
theorem look_outs6 {c:Core} (h:lookP c=0):c.outputs.length≤1000:=by
 obtain ⟨hl,_⟩:=look_parts h
 simp only [longP,Bool.or_eq_false_iff,decide_eq_false_iff_not] at hl
 omega
theorem look_nfuns {c:Core} (h:lookP c=0):c.funs.length≤1000000:=by
 obtain ⟨hl,_⟩:=look_parts h
 simp only [longP,Bool.or_eq_false_iff,decide_eq_false_iff_not] at hl
 omega
theorem look_callsO {c:Core} (h:lookP c=0):(∀x,(callsT (tableP c) x).length≤6000)∧(∀x,∀y∈callsT (tableP c) x,y∈univO c)∧(univO c).length≤2000000:=by
 obtain ⟨hl,hr⟩:=look_parts h
 have ht:tabledP c=true:=by simp only [rightP,Bool.and_eq_true] at hr;exact hr.1.1.1.1.1
 have hn:c.funs.length≤300∧c.outputs.length≤6:=by
  simp only [longP,Bool.or_eq_false_iff,decide_eq_false_iff_not] at hl
  omega
 refine ⟨(look_calls h).1,fun x y hy =>?_,?_⟩
 ·unfold callsT fbody at hy
  cases hf:lget (tableP c).funs x with
  | none=>rw [hf] at hy;simp [ex0,calledP,calledPs,calledPa] at hy
  | some f =>
   rw [hf] at hy
   exact List.mem_append.2 (.inr (List.mem_flatMap.2 ⟨f,tabled_funs ht hf,hy⟩))
 ·have:=flat_len (l:=c.funs) (f:=fun f=>calledP f.body) (M:=6000) (fun f hf=>short_called (long_short hl hf))
  simp only [univO,List.length_append]
  have:c.funs.length * 6000≤300 * 6000:=Nat.mul_le_mul_right _ hn.1
  omega
end Go.Sw

namespace Go.Sw
open Go.Proofs
set_option maxRecDepth 20000
set_option maxHeartbeats 4000000
theorem sameValue_step {Φ:Fz} {K:List Res} {w:World} {d0:List Value} {v:Val} {d1:List Value} {u:Val} (rpv:RVal Φ d0 v) (rpu:RVal Φ d1 u) (ih:∀x∈v.args,∀{Φ:Fz} {K:List Res} {w:World} {d e:List Value} {u:Val},RVal Φ d x→RVal Φ e u→Mem Φ K w→Calls Tryz.prog 22 (List.toArray [.agg d.toArray,.agg e.toArray]) w (fun ee w'=>ee=.returned (.bool (sameV x u))∧Mem Φ K w')) (hm:Mem Φ K w) :
  Calls Tryz.prog 22 (List.toArray [.agg d0.toArray,.agg d1.toArray]) w (fun ee w'=>ee=.returned (.bool (sameV v u))∧Mem Φ K w'):=by
 obtain ⟨p3,c4,rfl,hi7,h2,hm5,hn6⟩:=RVal.fm rpv
 obtain ⟨p10,c11,rfl,hi14,h9,hm12,hn13⟩:=RVal.fm rpu
 refine Enter Tryz.func22 Tryz.ntmps22 fun Q hQ a he =>?_
 refine sq fun L15 hL15 =>?_
 refine go0 he hm fun a he =>?_
 refine Bx he hm fun b16 w hm a he =>?_
 refine Bx he hm fun b17 w hm a he =>?_
 refine go0 he hm fun a he =>?_
 refine hL15 _ _ ?_
 refine sq fun L18 hL18 =>?_
 have hJ19:∀a w,(∃(o:Bool),EnvR 50 [(2,.pointer (some ⟨b16,0,none⟩)),(3,.pointer (some ⟨b17,0,none⟩)),(5,.bool o)] [] a∧Mem Φ (.blk b17 (ob [.string u.con,.int .i64 (u.num),.slice p10 u.args.length c11] 42)::.blk b16 (ob [.string v.con,.int .i64 (v.num),.slice p3 v.args.length c4] 42)::K) w∧(o=(decide (v.con=u.con)&&decide (v.num=u.num)&&decide (v.args.length=u.args.length))))→L18 a w:=by
  clear hm he
  rintro a w ⟨o,he,hm,hI20⟩
  refine hL18 _ _ ?_
  refine sq fun L21 hL21 =>?_
  refine sq fun L22 hL22 =>?_
  refine go0 he hm fun a he =>?_
  refine hL22 _ _ ?_
  refine go0 he hm fun a he =>?_
  refine loopK (he.ks [2,3]) hm (fun R mm a w=>∃(i:Nat) (o:Bool),mm=v.args.length - i∧R Φ [(5,.bool o),(6,.int .i64 ((i:Nat):Int))] [] a w∧(sameV v u=(o&&sameVs (v.args.drop i) (u.args.drop i))∧(o=true→v.args.length=u.args.length))) (v.args.length - 0) ⟨0,o,rfl,⟨he.pk,hm⟩,⟨by rw [hI20];exact sameV_eq v u,fun h=>by rw [hI20] at h;simp only [Bool.and_eq_true,decide_eq_true_eq] at h;exact h.2⟩⟩ ?_
  clear hm he
  rintro mm a w ⟨i,o,hmu,⟨he,hm⟩,hI24⟩ L23 hL23
  obtain ⟨hI_,hln_⟩:=hI24
  refine sq fun L25 hL25 =>?_
  refine sq fun L26 hL26 =>?_
  refine go0 he hm fun a he =>?_
  by_cases h27:i < v.args.length
  refine go0 he hm fun a he =>?_
  refine hL26 _ _ ?_
  cases o
  refine go0 he hm fun a he =>?_
  refine hL21 _ _ ?_
  refine sq fun L28 hL28 =>?_
  refine go0 he hm fun a he =>?_
  refine hL28 _ _ ?_
  refine go0 he hm fun a he =>?_
  replace hm:=hm.dl [1,0]
  refine Ret1 hQ he hm ?_
  exact ret_b hm (by rw [hI_,Bool.false_and])
  refine go0 he hm fun a he =>?_
  refine hL25 _ _ ?_
  refine sq fun L29 hL29 =>?_
  refine go0 he hm fun a he =>?_
  refine Reg [1,2,1,1,2,1,2,1,1,2,0,1] [0,1] he hm fun w hm a he =>?_
  have hlt2_:i < u.args.length:=by rw [← hln_ rfl];exact h27
  refine go0 he hm fun a he =>?_
  obtain ⟨q30,rfl,x31,hx32,cs33,hl34,ha35,hr36⟩:=h2.el hn6 h27
  obtain ⟨p39,c40,rfl,hi43,h38,hm41,hn42⟩:=RVal.fm hr36
  refine go0 he hm fun a he =>?_
  obtain ⟨q44,rfl,x45,hx46,cs47,hl48,ha49,hr50⟩:=h9.el hn13 hlt2_
  obtain ⟨p53,c54,rfl,hi57,h52,hm55,hn56⟩:=RVal.fm hr50
  refine go0 he hm fun a he =>?_
  refine CallR Tryz.call22 he hm (fun w hm a he =>?_) (c:=ih _ (List.mem_of_getElem? hx32) hr36 hr50 hm)
  refine go0 he hm fun a he =>?_
  refine hL29 _ _ ?_
  refine go0 he hm fun a he =>?_
  refine hL23 _ _ _ (by subst hmu;omega) ⟨(i+1),((sameV x31 x45)),rfl,⟨he.pk,hm⟩,?_⟩
  exact ⟨by rw [hI_,drop_cons hx32,drop_cons hx46,sameVs_cons,Bool.true_and],fun _=>hln_ rfl⟩
  refine go0 he hm fun a he =>?_
  refine hL26 _ _ ?_
  refine go0 he hm fun a he =>?_
  refine hL21 _ _ ?_
  refine sq fun L58 hL58 =>?_
  refine go0 he hm fun a he =>?_
  refine hL58 _ _ ?_
  refine go0 he hm fun a he =>?_
  replace hm:=hm.dl [1,0]
  refine Ret1 hQ he hm ?_
  exact ret_b hm (by rw [hI_,drop_end h27,sameVs_nil,Bool.and_true])
 refine go0 he hm fun a he =>?_
 by_cases h59:v.con=u.con
 refine go0 he hm fun a he =>?_
 by_cases h60:v.num=u.num
 refine go0 he hm fun a he =>?_
 by_cases h61:v.args.length=u.args.length
 refine go0 he hm fun a he =>?_
 exact hJ19 _ _ ⟨true,he.pk,hm,by simp [h59,h60,h61]⟩
 refine go0 he hm fun a he =>?_
 exact hJ19 _ _ ⟨false,he.pk,hm,by simp [h59,h60,h61]⟩
 refine go0 he hm fun a he =>?_
 exact hJ19 _ _ ⟨false,he.pk,hm,by simp [h59,h60]⟩
 refine go0 he hm fun a he =>?_
 exact hJ19 _ _ ⟨false,he.pk,hm,by simp [h59]⟩
theorem sameValue_ok:∀{v u:Val} {Φ:Fz} {K:List Res} {w:World} {d e:List Value},RVal Φ d v→RVal Φ e u→Mem Φ K w→Calls Tryz.prog 22 (List.toArray [.agg d.toArray,.agg e.toArray]) w (fun ee w'=>ee=.returned (.bool (sameV v u))∧Mem Φ K w'):=by
 intro v
 induction hn:SizeOf.sizeOf v using Nat.strongRecOn generalizing v with
 | ind n ih =>
  intro u Φ K w d e hv hu hm
  subst hn
  exact sameValue_step hv hu (fun x hx {Φ K w d e u} h1 h2 h3=>ih (SizeOf.sizeOf x) (by cases v with | mk c n l=>have:=List.sizeOf_lt_of_mem (show x∈l from hx);simp only [Val.mk.sizeOf_spec];omega) rfl h1 h2 h3) hm
end Go.Sw

namespace Go.Sw
open Go.Proofs
set_option maxRecDepth 20000
set_option maxHeartbeats 4000000
theorem sameOutcome_ok {Φ:Fz} {K:List Res} {w:World} {d0:List Value} {v:Outcome} {d1:List Value} {u:Outcome} (rpv:ROutcome Φ d0 v) (rpu:ROutcome Φ d1 u) (hm:Mem Φ K w) :
  Calls Tryz.prog 19 (List.toArray [.agg d0.toArray,.agg d1.toArray]) w (fun ee w'=>ee=.returned (.bool (sameO v u))∧Mem Φ K w'):=by
 obtain ⟨s1,rfl,h2⟩:=id rpv
 obtain ⟨p3,c4,rfl,hm5,hn6⟩:=h2.fm
 obtain ⟨s7,rfl,h8⟩:=id rpu
 obtain ⟨p9,c10,rfl,hm11,hn12⟩:=h8.fm
 refine Enter Tryz.func19 Tryz.ntmps19 fun Q hQ a he =>?_
 refine sq fun L13 hL13 =>?_
 refine go0 he hm fun a he =>?_
 refine Bx he hm fun b14 w hm a he =>?_
 refine Bx he hm fun b15 w hm a he =>?_
 refine go0 he hm fun a he =>?_
 refine hL13 _ _ ?_
 refine sq fun L16 hL16 =>?_
 have hJ17:∀a w,(∃(o:Bool),EnvR 60 [(2,.pointer (some ⟨b14,0,none⟩)),(3,.pointer (some ⟨b15,0,none⟩)),(5,.bool o)] [] a∧Mem Φ (.blk b15 (ob [.slice p9 u.outputs.length c10,.int .i64 (u.steps)] 30)::.blk b14 (ob [.slice p3 v.outputs.length c4,.int .i64 (v.steps)] 30)::K) w∧(o=(decide (v.steps=u.steps)&&decide (v.outputs.length=u.outputs.length))))→L16 a w:=by
  clear hm he
  rintro a w ⟨o,he,hm,hI18⟩
  refine hL16 _ _ ?_
  refine sq fun L19 hL19 =>?_
  refine sq fun L20 hL20 =>?_
  refine go0 he hm fun a he =>?_
  refine hL20 _ _ ?_
  refine go0 he hm fun a he =>?_
  refine loopK (he.ks [2,3]) hm (fun R mm a w=>∃(i:Nat) (o:Bool),mm=v.outputs.length - i∧R Φ [(5,.bool o),(6,.int .i64 ((i:Nat):Int))] [] a w∧(sameO v u=(o&&sameNs (v.outputs.drop i) (u.outputs.drop i))∧(o=true→v.outputs.length=u.outputs.length))) (v.outputs.length - 0) ⟨0,o,rfl,⟨he.pk,hm⟩,⟨by rw [hI18];rfl,fun h=>by rw [hI18] at h;simp only [Bool.and_eq_true,decide_eq_true_eq] at h;exact h.2⟩⟩ ?_
  clear hm he
  rintro mm a w ⟨i,o,hmu,⟨he,hm⟩,hI22⟩ L21 hL21
  obtain ⟨hI_,hln_⟩:=hI22
  refine sq fun L23 hL23 =>?_
  refine sq fun L24 hL24 =>?_
  refine go0 he hm fun a he =>?_
  by_cases h25:i < v.outputs.length
  refine go0 he hm fun a he =>?_
  refine hL24 _ _ ?_
  cases o
  refine go0 he hm fun a he =>?_
  refine hL19 _ _ ?_
  refine sq fun L26 hL26 =>?_
  refine go0 he hm fun a he =>?_
  refine hL26 _ _ ?_
  refine go0 he hm fun a he =>?_
  replace hm:=hm.dl [1,0]
  refine Ret1 hQ he hm ?_
  exact ret_b hm (by rw [hI_,Bool.false_and])
  refine go0 he hm fun a he =>?_
  refine hL23 _ _ ?_
  refine sq fun L27 hL27 =>?_
  refine go0 he hm fun a he =>?_
  refine Reg [1,2,1,1,1,2,1,2,1,1,1,2,1,1,1,2,1,1,1,2,1,2,1,1,1,2,0,1,1] [0,1] he hm fun w hm a he =>?_
  have hlt2_:i < u.outputs.length:=by rw [← hln_ rfl];exact h25
  refine go0 he hm fun a he =>?_
  obtain ⟨q28,rfl,x29,hx30,cs31,hl32,ha33,hr34⟩:=h2.el hn6 h25
  obtain ⟨b35,rfl,h36⟩:=id hr34
  obtain ⟨p39,c40,rfl,hi43,h38,hm41,hn42⟩:=RVal.fm h36
  refine go0 he hm fun a he =>?_
  obtain ⟨q44,rfl,x45,hx46,cs47,hl48,ha49,hr50⟩:=h8.el hn12 hlt2_
  obtain ⟨b51,rfl,h52⟩:=id hr50
  obtain ⟨p55,c56,rfl,hi59,h54,hm57,hn58⟩:=RVal.fm h52
  refine go0 he hm fun a he =>?_
  by_cases h60:x29.name=x45.name
  refine go0 he hm fun a he =>?_
  obtain ⟨x61,hx62⟩:=at_of_lt h25
  obtain ⟨cs63,hl64,ha65,hr66⟩:=h2.elem hx62
  obtain ⟨b67,rfl,h68⟩:=id hr66
  obtain ⟨p71,c72,rfl,hi75,h70,hm73,hn74⟩:=RVal.fm h68
  refine go0 he hm fun a he =>?_
  refine Qq he hm (fun a he =>?_) (o:=by exact fun _ _ _ he hs=>y_load_atA 1 (vs:=[.string x61.value.con,.int .i64 (x61.value.num),.slice p71 x61.value.args.length c72]) he hs rfl ha65 Tryz.isAgg42 Tryz.sizeOf42 rfl rfl)
  refine go0 he hm fun a he =>?_
  obtain ⟨x76,hx77⟩:=at_of_lt hlt2_
  obtain ⟨cs78,hl79,ha80,hr81⟩:=h8.elem hx77
  obtain ⟨b82,rfl,h83⟩:=id hr81
  obtain ⟨p86,c87,rfl,hi90,h85,hm88,hn89⟩:=RVal.fm h83
  refine go0 he hm fun a he =>?_
  refine Qq he hm (fun a he =>?_) (o:=by exact fun _ _ _ he hs=>y_load_atA 1 (vs:=[.string x76.value.con,.int .i64 (x76.value.num),.slice p86 x76.value.args.length c87]) he hs rfl ha80 Tryz.isAgg42 Tryz.sizeOf42 rfl rfl)
  refine CallR Tryz.call22 he hm (fun w hm a he =>?_) (c:=sameValue_ok h68 h83 hm)
  refine go0 he hm fun a he =>?_
  refine hL27 _ _ ?_
  refine go0 he hm fun a he =>?_
  refine hL21 _ _ _ (by subst hmu;omega) ⟨(i+1),((sameV x61.value x76.value)),rfl,⟨he.pk,hm⟩,?_⟩
  exact ⟨by rw [show x61=x29 from Option.some.inj (hx62.symm.trans hx30),show x76=x45 from Option.some.inj (hx77.symm.trans hx46)];rw [hI_,drop_cons hx30,drop_cons hx46,sameNs_cons,Bool.true_and];simp [h60],fun _=>hln_ rfl⟩
  refine go0 he hm fun a he =>?_
  refine hL27 _ _ ?_
  refine go0 he hm fun a he =>?_
  refine hL21 _ _ _ (by subst hmu;omega) ⟨(i+1),(false),rfl,⟨he.pk,hm⟩,?_⟩
  exact ⟨by rw [hI_,drop_cons hx30,drop_cons hx46,sameNs_cons,Bool.true_and];simp [h60],fun _=>hln_ rfl⟩
  refine go0 he hm fun a he =>?_
  refine hL24 _ _ ?_
  refine go0 he hm fun a he =>?_
  refine hL19 _ _ ?_
  refine sq fun L91 hL91 =>?_
  refine go0 he hm fun a he =>?_
  refine hL91 _ _ ?_
  refine go0 he hm fun a he =>?_
  replace hm:=hm.dl [1,0]
  refine Ret1 hQ he hm ?_
  exact ret_b hm (by rw [hI_,drop_end h25,sameNs_nil,Bool.and_true])
 refine go0 he hm fun a he =>?_
 by_cases h92:v.steps=u.steps
 refine go0 he hm fun a he =>?_
 by_cases h93:v.outputs.length=u.outputs.length
 refine go0 he hm fun a he =>?_
 exact hJ17 _ _ ⟨true,he.pk,hm,by simp [h92,h93]⟩
 refine go0 he hm fun a he =>?_
 exact hJ17 _ _ ⟨false,he.pk,hm,by simp [h92,h93]⟩
 refine go0 he hm fun a he =>?_
 exact hJ17 _ _ ⟨false,he.pk,hm,by simp [h92]⟩
end Go.Sw

namespace Go.Sw
open Go.Proofs
set_option maxRecDepth 20000
set_option maxHeartbeats 4000000
theorem named_ok {Φ:Fz} {K:List Res} {w:World} {p:Addr} {T:Table} {mb:Nat} {ds:List Bs} (rT:RTableW Φ p T) (hl:T.core.funs.length≤1000000) (hm:Mem Φ (.mp mb (seenM ds)::K) w) :
  Calls Tryz.prog 92 (List.toArray [.pointer (some p),.map (some mb)]) w (fun ee w'=>∃y:Value,ee=.returned y∧True∧Mem Φ (.gs y 9 1 (strs (namedP T.core.funs ds))::K) w'):=by
 obtain ⟨z1,z2,z3,z4,m5,m6,m7,m8,d9,hat10,hfs11,ma12,mr13⟩:=rT.ex
 obtain ⟨p14,c15,rfl,hmx16,hn17⟩:=hfs11.fm
 refine Enter Tryz.func92 Tryz.ntmps92 fun Q hQ a he =>?_
 refine go he hm fun a he =>?_
 replace hm:=hm.nilRow 9 1
 replace hm:=hm.nf
 refine loopK (he.ks [1,12,13]) hm (fun R mm a w=>∃(i:Nat) (u:Value) (ns:List Bs),mm=T.core.funs.length - i∧R Φ [(5,u),(14,.int .i64 ((i:Nat):Int))] [(0,.gs (u) 9 1 (strs ns))] a w∧(namedP T.core.funs ds=ns++namedP (T.core.funs.drop i) ds∧ns.length≤i)) (T.core.funs.length - 0) ⟨0,.slice none 0 0,[],rfl,⟨he.pk,hm⟩,⟨rfl,Nat.zero_le _⟩⟩ ?_
 clear hm he
 rintro mm a w ⟨i,u,ns,hmu,⟨he,hm⟩,hI23⟩ L22 hL22
 replace hm:=hm.nf
 obtain ⟨hI_,hnl_⟩:=hI23
 refine go he hm fun a he =>?_
 by_cases h25:i < T.core.funs.length
 refine go he hm fun a he =>?_
 obtain ⟨q29,rfl,x30,hx31,cs32,hl33,ha34,hr35⟩:=hfs11.el hn17 h25
 obtain ⟨s36,b42,rfl,h37,h43⟩:=id hr35
 obtain ⟨p38,c39,rfl,hm40,hn41⟩:=h37.fm
 obtain ⟨p46,c47,p52,c53,rfl,hi56,h45,h51,hm48,hn49,hm54,hn55⟩:=REx.fm h43
 refine Alc he hm fun b57 w hm a he =>?_
 refine Sto 0 he hm fun w hm a he =>?_
 refine go he hm fun a he =>?_
 rcases hf59:mget ((seenM ds)) x30.name with _ | vf60
 have hf59_:=congrArg (gotten false (.bool false)) hf59
 refine Qq he hm (fun a he =>?_) (o:=by exact fun _ _ _ he hs=>Ok.cast (y_lookup_own 2 Tryz.runUnderlying121 Tryz.runUnderlying9 Tryz.zeroValue4 he hs rfl rfl rfl) (show gotten false (.bool false) (mget ((seenM ds)) x30.name)=.bool false from hf59_))
 refine go he hm fun a he =>?_
 replace hm:=hm.dl [0]
 refine hL22 _ _ _ (by subst hmu;omega) ⟨(i+1),(u),(ns),rfl,⟨he.pk,hm⟩,?_⟩
 exact ⟨by rw [hI_,drop_cons hx31,named_no (seen_not hf59)],by omega⟩
 obtain ⟨rfl,hs61⟩:=seen_val hf59
 have hf59_:=congrArg (gotten false (.bool false)) hf59
 refine Qq he hm (fun a he =>?_) (o:=by exact fun _ _ _ he hs=>Ok.cast (y_lookup_own 2 Tryz.runUnderlying121 Tryz.runUnderlying9 Tryz.zeroValue4 he hs rfl rfl rfl) (show gotten false (.bool false) (mget ((seenM ds)) x30.name)=.bool true from hf59_))
 refine BldS he hm fun v62 w hm a he =>?_
 refine App_ 2 rt_25 he hm (fun v63 w hm a he =>?_)
 refine go he hm fun a he =>?_
 first | rw [strs_snoc] at hm | rw [← strs_append] at hm
 replace hm:=hm.dl [1,0]
 refine hL22 _ _ _ (by subst hmu;omega) ⟨(i+1),(v63),(ns++[x30.name]),rfl,⟨he.pk,hm⟩,?_⟩
 exact ⟨by rw [hI_,drop_cons hx31,named_yes hs61,List.append_assoc];rfl,by simp only [List.length_append,List.length_cons,List.length_nil];omega⟩
 refine go he hm fun a he =>?_
 replace hm:=hm.dl [1]
 refine Ret1 hQ he hm ?_
 rw [hI_,drop_end h25,named_nil,List.append_nil];exact ⟨_,rfl,trivial,hm⟩
end Go.Sw

namespace Go.Sw
open Go.Proofs
set_option maxRecDepth 20000
set_option maxHeartbeats 4000000
theorem reachableO_ok {Φ:Fz} {K:List Res} {w:World} {d0:List Value} {c:Core} {v:Value} (rpc:RCoreX Φ d0 c v) (h0:lookP c=0) (hne:c.outputs≠[]) (G:Glob Φ) (hm:Mem Φ (.gs v 9 1 (strs c.outputs)::K) w) :
  Calls Tryz.prog 37 (List.toArray [.agg d0.toArray]) w (fun ee w'=>∃y:Fz×Value×List Bs,ee=.returned (.tuple (List.toArray [y.2.1,.int .i64 ((0:Nat):Int)]))∧(Φ.Le y.1∧Reached (tableP c) c.outputs y.2.2)∧Mem y.1 (.gs y.2.1 9 1 (strs (namedP c.funs y.2.2))::K) w'):=by
 obtain ⟨s1,s2,s3,q4,cc5,rfl,rfl,h6,h7,h8⟩:=id rpc
 obtain ⟨p9,c10,rfl,hm11,hn12⟩:=h6.fm
 obtain ⟨p13,c14,rfl,hm15,hn16⟩:=h7.fm
 obtain ⟨p17,c18,rfl,hm19,hn20⟩:=h8.fm
 refine Enter Tryz.func37 Tryz.ntmps37 fun Q hQ a he =>?_
 refine Bx he hm fun b22 w hm a he =>?_
 replace hm:=hm.pl 1
 refine CallY Tryz.call43 he hm (fun y24 w hG25 hm a he =>?_) (c:=lookX_ok (R:=[.gs (.slice q4 c.outputs.length cc5) 9 1 (strs c.outputs)]) (K:=.blk b22 (ob [.slice p9 c.datas.length c10,.slice p13 c.inputs.length c14,.slice p17 c.funs.length c18,.slice q4 c.outputs.length cc5] 27)::K) rpc Thaw.own G hm)
 obtain ⟨Ψ26,p27⟩:=y24
 obtain ⟨le28,hT29⟩:=hG25
 simp only at le28 hT29 hm he
 rw [if_pos h0,h0] at he
 obtain ⟨hT30,hlong31⟩:=hT29 h0
 replace G:=G.mono le28
 replace hm:=hm.nf
 refine Qq he hm (fun a he =>?_) (o:=by exact fun _ _ _ he hs=>y_ineq false he rfl rfl rfl)
 refine go he hm fun a he =>?_
 have hm0_:=hm
 clear hm
 obtain ⟨bq35,cap36,arr37,hv_,hq38,hm⟩:=gs_queue (l:=c.outputs) (i:=0) hm0_ rfl hne
 clear hm0_
 have hmk_:=hm
 have hek_:=he
 clear hm he
 rw [hv_] at hek_ hmk_
 have hm:=hmk_
 have he:=hek_
 clear hmk_ hek_
 replace hm:=hm.nf
 refine CallY Tryz.call62 he hm (fun y39 w hG40 hm a he =>?_) (c:=reach_ok (U:=univO c) (hT30).weak hq38 (look_outs6 h0) (fun x hx=>List.mem_append.2 (.inl hx)) (look_callsO h0).2.2 (look_callsO h0).1 (look_callsO h0).2.1 hm)
 obtain ⟨bd41,ds42⟩:=y39
 have hR43:=hG40
 simp only at hR43 hm he
 replace hm:=hm.nf
 refine CallY Tryz.call92 he hm (fun y44 w hG45 hm a he =>?_) (c:=named_ok (hT30).weak (look_nfuns h0) hm)
 replace hm:=hm.nf
 refine go he hm fun a he =>?_
 replace hm:=hm.dl [1]
 refine Ret2 hQ he hm ?_
 exact ⟨(Ψ26,y44,ds42),rfl,⟨le28,hR43⟩,hm⟩
end Go.Sw

namespace Go.Sw
open Go.Proofs
set_option maxRecDepth 100000
theorem rv_leaf {Φ:Fz} {s:Bs} {n:Int} (h:-9223372036854775808≤n∧n≤9223372036854775807):RVal Φ [.string s,.int .i64 n,.slice none 0 0] (.mk s n []):=RVal.iff.2 ⟨_,rfl,h,SliceOf.nil 3⟩
theorem rv_node {Φ:Fz} {s:Bs} {n:Int} {v:Value} {l:List Val} (h:-9223372036854775808≤n∧n≤9223372036854775807) (hl:SliceOf RVal Φ 3 v l):RVal Φ [.string s,.int .i64 n,v] (.mk s n l):=RVal.iff.2 ⟨v,rfl,h,hl⟩
theorem two_vals {Φ:Fz} {c1 c2:List Value} {x y:Val} (h1:RVal Φ c1 x) (l1:c1.length=3) (h2:RVal Φ c2 y) (l2:c2.length=3):Chunks (RVal Φ) 3 (c1++(c2++[])) [x,y] :=
 ⟨c1,_,rfl,l1,h1,c2,_,rfl,l2,h2,rfl⟩
theorem one_named {Φ:Fz} {c:List Value} {s:Bs} {x:Val} (h:RVal Φ c x) (l:c.length=3):Chunks (RNamed Φ) 4 ((.string s::c)++[]) [⟨s,x⟩] :=
 ⟨.string s::c,_,rfl,by simp [l],⟨c,rfl,h⟩,rfl⟩
section
variable {Φ:Fz} {K:List Res} {w:World} {d0:List Value} {va v:Value}
theorem parse_lit (G:Glob Φ) (hm:Mem Φ K w) :
  Calls Tryz.prog 25 (List.toArray [.string textB]) w (fun ee w'=>∃y:Fz×List Value×Value,ee=.returned (.tuple (List.toArray [.agg y.2.1.toArray,.int .i64 ((0:Nat):Int),.int .i64 ((0:Nat):Int)]))∧(Φ.Le y.1∧RCoreX y.1 y.2.1 saneC y.2.2)∧Mem y.1 (.gs y.2.2 9 1 (strs saneC.outputs)::K) w'):=by
 have h1:=parse_ok G asc_sane hm
 rw [parse_sane] at h1
 refine h1.mono fun ee w' h =>?_
 obtain ⟨⟨Ψ,v0,v1,v2,v3⟩,h1,⟨h2,h3,h4,h5⟩,h6⟩:=h
 obtain ⟨p,m,c,rfl,hl,_⟩:=h6.toSees.gsForm (i:=0) rfl
 have hm':m=saneC.outputs.length:=by simpa [strs] using hl.symm
 subst hm'
 exact ⟨(Ψ,[v0,v1,v2,.slice p saneC.outputs.length c],.slice p saneC.outputs.length c),h1,⟨h2,⟨v0,v1,v2,p,c,rfl,rfl,h3,h4,h5⟩⟩,h6⟩
theorem run_lit17 (rpc:RCore Φ d0 saneC) (rl:SliceOf RNamed Φ 4 va saneIn) (G:Glob Φ) (hm:Mem Φ K w) :
  Calls Tryz.prog 15 (List.toArray [.agg d0.toArray,va,.int .i64 ((17:Nat):Int)]) w (fun ee w'=>∃y:Fz×Addr×Nat×Value,ee=.returned (.tuple (List.toArray [.agg (List.toArray [.slice (some y.2.1) 1 y.2.2.1,.int .i64 ((17:Nat):Int)]),.int .i64 ((0:Nat):Int)])) ∧
   (Φ.Le y.1∧NewRow Φ (.slice (some y.2.1) 1 y.2.2.1)∧At y.1 (y.2.1.add (0 * 4)) [.string z_total,.string sNo,.int .i64 ((7:Nat):Int),y.2.2.2])∧Mem y.1 K w'):=by
 refine (runAllN_ok (fuel:=17) rpc rl G hm).mono fun ee w' h =>?_
 rw [run_sane17] at h
 obtain ⟨⟨Ψ,d⟩,h1,⟨h2,h3,h4⟩,h5⟩:=h
 obtain ⟨s,rfl,hs⟩:=h3
 obtain ⟨cs,hr,hc⟩:=hs
 obtain ⟨c1,rest,rfl,hl1,⟨b,rfl,hb⟩,rfl⟩:=hc
 obtain ⟨s2,rfl,_,_⟩:=RVal.iff.1 hb
 rcases hr with ⟨_,he⟩ | ⟨q,m,c,rfl,hl,_,hat⟩
 ·cases he
 ·have hm1:m=1:=by simp at hl;omega
  subst hm1
  exact ⟨(Ψ,q,c,s2),h1,⟨h2,h4 _ _ rfl,hat (by simp)⟩,h5⟩
theorem run_lit16 (rpc:RCore Φ d0 saneC) (rl:SliceOf RNamed Φ 4 va saneIn) (G:Glob Φ) (hm:Mem Φ K w) :
  Calls Tryz.prog 15 (List.toArray [.agg d0.toArray,va,.int .i64 ((16:Nat):Int)]) w (fun ee w'=>∃y:Fz×Option Addr×Nat,ee=.returned (.tuple (List.toArray [.agg (List.toArray [.slice y.2.1 0 y.2.2,.int .i64 ((0:Nat):Int)]),.int .i64 ((4:Nat):Int)]))∧Φ.Le y.1∧Mem y.1 K w'):=by
 refine (runAll_ok (fuel:=16) rpc rl G hm).mono fun ee w' h =>?_
 rw [run_sane16] at h
 obtain ⟨⟨Ψ,d⟩,h1,⟨h2,h3⟩,h5⟩:=h
 obtain ⟨s,rfl,hs⟩:=h3
 obtain ⟨p,c,rfl,_⟩:=hs.form (by decide)
 exact ⟨(Ψ,p,c),h1,h2,h5⟩
theorem print_lit (rpc:RCore Φ d0 saneC) (G:Glob Φ) (T_:Tabs Φ) (hm:Mem Φ K w) :
  Calls Tryz.prog 23 (List.toArray [.agg d0.toArray]) w (fun ee w'=>ee=.returned (.tuple (List.toArray [.string textB,.int .i64 ((0:Nat):Int)]))∧Mem Φ K w'):=by
 refine (print_ok rpc G T_ hm).mono fun ee w' h =>?_
 rw [print_sane] at h
 exact h
theorem call_lit (rpc:RCore Φ d0 saneC) (rl:SliceOf RVal Φ 3 va saneA) (G:Glob Φ) (hm:Mem Φ K w) :
  Calls Tryz.prog 20 (List.toArray [.agg d0.toArray,.string z_less,va,.int .i64 ((9:Nat):Int)]) w (fun ee w'=>∃y:Fz×Option Addr×Nat,ee=.returned (.tuple (List.toArray [.agg (List.toArray [.string sNo,.int .i64 ((1:Nat):Int),.slice y.2.1 0 y.2.2]),.int .i64 ((6:Nat):Int),.int .i64 ((0:Nat):Int)]))∧Φ.Le y.1∧Mem y.1 K w'):=by
 refine (callAll_ok (fuel:=9) rpc rl (fun h=>call_safe h _ _) G hm).mono fun ee w' h =>?_
 rw [call_sane] at h
 obtain ⟨⟨Ψ,d⟩,h1,⟨h2,h3⟩,h5⟩:=h
 obtain ⟨s,rfl,_,hs⟩:=RVal.iff.1 h3
 obtain ⟨p,c,rfl,_⟩:=hs.form (by decide)
 exact ⟨(Ψ,p,c),h1,h2,h5⟩
theorem reach_lit (rpc:RCoreX Φ d0 saneC v) (G:Glob Φ) (hm:Mem Φ (.gs v 9 1 (strs saneC.outputs)::K) w) :
  Calls Tryz.prog 37 (List.toArray [.agg d0.toArray]) w (fun ee w'=>∃y:Fz×Value,ee=.returned (.tuple (List.toArray [y.2,.int .i64 ((0:Nat):Int)]))∧Φ.Le y.1∧Mem y.1 (.gs y.2 9 1 (strs [z_sum,z_total])::K) w'):=by
 refine (reachableO_ok rpc look_sane (by simp [saneC]) G hm).mono fun ee w' h =>?_
 obtain ⟨⟨Ψ,v',ds⟩,h1,⟨h2,h3⟩,h5⟩:=h
 rw [named_sane h3] at h5
 exact ⟨(Ψ,v'),h1,h2,h5⟩
theorem isType_lit {u0 u1 u2 u3:Value} (rpc:RCoreX Φ [u0,u1,u2,u3] saneC v) (hm:Mem Φ K w) :
  Calls Tryz.prog 58 (List.toArray [.agg (List.toArray [u0,u1,u2,u3]),.string z_List]) w (fun ee w'=>ee=.returned (.bool true)∧Mem Φ K w'):=by
 obtain ⟨s,t,u,q,c,_,e,h1,_,_⟩:=rpc
 injection e with e1 _
 subst e1
 refine (isInputType_ok h1 hm).mono fun ee w' h =>?_
 rw [isType_sane] at h
 exact h
theorem noType_lit {u0 u1 u2 u3:Value} (rpc:RCoreX Φ [u0,u1,u2,u3] saneC v) (hm:Mem Φ K w) :
  Calls Tryz.prog 58 (List.toArray [.agg (List.toArray [u0,u1,u2,u3]),.string sBool]) w (fun ee w'=>ee=.returned (.bool false)∧Mem Φ K w'):=by
 obtain ⟨s,t,u,q,c,_,e,h1,_,_⟩:=rpc
 injection e with e1 _
 subst e1
 refine (isInputType_ok h1 hm).mono fun ee w' h =>?_
 rw [noType_sane] at h
 exact h
end
end Go.Sw

namespace Go.Sw
open Go.Proofs
set_option maxRecDepth 20000
set_option maxHeartbeats 4000000
theorem sane_ok {Φ:Fz} {K:List Res} {w:World} (G:Glob Φ) (T_:Tabs Φ) (hm:Mem Φ K w) :
  Calls Tryz.prog 18 (List.toArray []) w (fun ee w'=>ee=.returned (.bool true)∧Mem Φ K w'):=by
 refine Enter Tryz.func18 Tryz.ntmps18 fun Q hQ a he =>?_
 refine CallR Tryz.call57 he hm (fun w hm a he =>?_) (c:=text_ok hm)
 refine CallY Tryz.call25 he hm (fun y3 w hG4 hm a he =>?_) (c:=parse_lit G hm)
 obtain ⟨Ψ5,d6,v7⟩:=y3
 obtain ⟨le8,hX9⟩:=hG4
 simp only at le8 hX9 hm he
 replace G:=G.mono le8
 replace T_:=Tabs.mono T_ le8
 obtain ⟨s10,s11,s12,q13,cc14,rfl,rfl,h15,h16,h17⟩:=id hX9
 obtain ⟨p18,c19,rfl,hm20,hn21⟩:=h15.fm
 obtain ⟨p22,c23,rfl,hm24,hn25⟩:=h16.fm
 obtain ⟨p26,c27,rfl,hm28,hn29⟩:=h17.fm
 replace hm:=hm.nf
 refine Alc he hm fun b30 w hm a he =>?_
 refine Sto 0 he hm fun w hm a he =>?_
 refine BldT1 he hm fun a he =>?_
 refine Alc he hm fun b32 w hm a he =>?_
 refine Sto 0 he hm fun w hm a he =>?_
 refine BldT1 he hm fun a he =>?_
 refine BldT1 he hm fun a he =>?_
 refine BldS he hm fun v34 w hm a he =>?_
 have hm0_:=hm
 clear hm
 obtain ⟨Ψ35,le36,hm,hrow37⟩:=hm0_.freezeRow (i:=0) rfl
 clear hm0_
 replace G:=G.mono le36
 replace T_:=Tabs.mono T_ le36
 replace hX9:=hX9.mono le36
 replace hm:=hm.nf
 have hsl38:SliceOf RVal Ψ35 3 _ ([(Val.mk sNo 4 []),(Val.mk z_Nil 0 [])]):=⟨_,hrow37,(show Chunks (RVal _) 3 ([.string ⟨#[]⟩,.int .i64 ((4:Nat):Int),.slice none 0 0]++([.string ⟨#[78,105,108]⟩,.int .i64 ((0:Nat):Int),.slice none 0 0]++[])) [(Val.mk sNo 4 []),(Val.mk z_Nil 0 [])] from two_vals (rv_leaf (by decide)) rfl (rv_leaf (by decide)) rfl)⟩
 obtain ⟨p39,c40,hv_,hm41,hn42⟩:=hsl38.form (by decide)
 have hmk_:=hm
 clear hm
 subst hv_
 have hm:=hmk_
 clear hmk_
 refine BldT1 he hm fun a he =>?_
 refine BldS he hm fun v43 w hm a he =>?_
 have hm0_:=hm
 clear hm
 obtain ⟨Ψ44,le45,hm,hrow46⟩:=hm0_.freezeRow (i:=0) rfl
 clear hm0_
 replace G:=G.mono le45
 replace T_:=Tabs.mono T_ le45
 replace hX9:=hX9.mono le45
 replace hsl38:=hsl38.up le45
 replace hm:=hm.nf
 have hsl47:SliceOf RVal Ψ44 3 _ ([(Val.mk sNo 3 []),(Val.mk z_Cons 0 [(Val.mk sNo 4 []),(Val.mk z_Nil 0 [])])]):=⟨_,hrow46,(show Chunks (RVal _) 3 ([.string ⟨#[]⟩,.int .i64 ((3:Nat):Int),.slice none 0 0]++([.string ⟨#[67,111,110,115]⟩,.int .i64 ((0:Nat):Int),.slice p39 ([(Val.mk sNo 4 []),(Val.mk z_Nil 0 [])]).length c40]++[])) [(Val.mk sNo 3 []),(Val.mk z_Cons 0 [(Val.mk sNo 4 []),(Val.mk z_Nil 0 [])])] from two_vals (rv_leaf (by decide)) rfl (rv_node (by decide) hsl38) rfl)⟩
 obtain ⟨p48,c49,hv_,hm50,hn51⟩:=hsl47.form (by decide)
 have hmk_:=hm
 clear hm
 subst hv_
 have hm:=hmk_
 clear hmk_
 refine BldT1 he hm fun a he =>?_
 refine BldT he hm fun a he =>?_
 refine BldS he hm fun v52 w hm a he =>?_
 have hm0_:=hm
 clear hm
 obtain ⟨Ψ53,le54,hm,hrow55⟩:=hm0_.freezeRow (i:=0) rfl
 clear hm0_
 replace G:=G.mono le54
 replace T_:=Tabs.mono T_ le54
 replace hX9:=hX9.mono le54
 replace hsl47:=hsl47.up le54
 replace hm:=hm.nf
 have hsl56:SliceOf RNamed Ψ53 4 _ (saneIn):=⟨_,hrow55,(show Chunks (RNamed _) 4 ([.string ⟨#[120,115]⟩,.string ⟨#[67,111,110,115]⟩,.int .i64 ((0:Nat):Int),.slice p48 ([(Val.mk sNo 3 []),(Val.mk z_Cons 0 [(Val.mk sNo 4 []),(Val.mk z_Nil 0 [])])]).length c49]++[]) [⟨z_xs,(Val.mk z_Cons 0 [(Val.mk sNo 3 []),(Val.mk z_Cons 0 [(Val.mk sNo 4 []),(Val.mk z_Nil 0 [])])])⟩] from one_named (rv_node (by decide) hsl47) rfl)⟩
 obtain ⟨p57,c58,hv_,hm59,hn60⟩:=hsl56.form (by decide)
 have hmk_:=hm
 clear hm
 subst hv_
 have hm:=hmk_
 clear hmk_
 refine go he hm fun a he =>?_
 have hX0:=hX9
 have G0:=G
 obtain ⟨Ψ62,bf63,hm2_,hrow64,hfr65⟩:=hm.freezeRowD (i:=2) rfl (by simp [saneC,strs])
 have hm:=hm2_
 clear hm2_
 replace G:=G.mono hfr65.le
 replace T_:=Tabs.mono T_ hfr65.le
 replace hX9:=hX9.mono hfr65.le
 replace hsl56:=hsl56.mono RNamed.mono hfr65.le
 replace hm:=hm.nf
 have rpcF:=hX9.full (SliceOf.strs.2 hrow64)
 refine CallY Tryz.call15 he hm (fun y66 w hG67 hm a he =>?_) (c:=run_lit17 rpcF hsl56 G hm)
 obtain ⟨Ψ68,p69,c70,s71⟩:=y66
 obtain ⟨le72,hnw73,hat74⟩:=hG67
 simp only at le72 hnw73 hat74 hm he
 have hne_:=hfr65.ne (Fz.Le.refl _) hnw73 rfl
 replace G:=G.mono le72
 replace T_:=Tabs.mono T_ le72
 replace hsl56:=hsl56.up le72
 replace rpcF:=RCore.mono _ _ _ _ le72 rpcF
 replace hm:=hm.nf
 refine Alc he hm fun b75 w hm a he =>?_
 refine Sto 0 he hm fun w hm a he =>?_
 refine CallY Tryz.call15 he hm (fun y77 w hG78 hm a he =>?_) (c:=run_lit16 rpcF hsl56 G hm)
 obtain ⟨Ψ79,p80,c81⟩:=y77
 have le82:=hG78
 simp only at le82 hm he
 replace G:=G.mono le82
 replace T_:=Tabs.mono T_ le82
 replace rpcF:=RCore.mono _ _ _ _ le82 rpcF
 replace hat74:=hat74.mono le82
 replace hm:=hm.nf
 refine Alc he hm fun b83 w hm a he =>?_
 refine Sto 0 he hm fun w hm a he =>?_
 refine CallR Tryz.call23 he hm (fun w hm a he =>?_) (c:=print_lit rpcF G T_ hm)
 refine BldT1 he hm fun a he =>?_
 refine BldT1 he hm fun a he =>?_
 refine BldS he hm fun v86 w hm a he =>?_
 have hm0_:=hm
 clear hm
 obtain ⟨Ψ87,le88,hm,hrow89⟩:=hm0_.freezeRow (i:=0) rfl
 clear hm0_
 replace G:=G.mono le88
 replace T_:=Tabs.mono T_ le88
 replace rpcF:=RCore.mono _ _ _ _ le88 rpcF
 replace hat74:=hat74.mono le88
 replace hm:=hm.nf
 have hsl90:SliceOf RVal Ψ87 3 _ (saneA):=⟨_,hrow89,(show Chunks (RVal _) 3 ([.string ⟨#[]⟩,.int .i64 ((2:Nat):Int),.slice none 0 0]++([.string ⟨#[]⟩,.int .i64 ((3:Nat):Int),.slice none 0 0]++[])) [(Val.mk sNo 2 []),(Val.mk sNo 3 [])] from two_vals (rv_leaf (by decide)) rfl (rv_leaf (by decide)) rfl)⟩
 obtain ⟨p91,c92,hv_,hm93,hn94⟩:=hsl90.form (by decide)
 have hmk_:=hm
 clear hm
 subst hv_
 have hm:=hmk_
 clear hmk_
 refine CallY Tryz.call20 he hm (fun y95 w hG96 hm a he =>?_) (c:=call_lit rpcF hsl90 G hm)
 obtain ⟨Ψ97,p98,c99⟩:=y95
 have le100:=hG96
 simp only at le100 hm he
 replace G:=G.mono le100
 replace T_:=Tabs.mono T_ le100
 replace rpcF:=RCore.mono _ _ _ _ le100 rpcF
 replace hat74:=hat74.mono le100
 replace hm:=hm.nf
 refine Alc he hm fun b101 w hm a he =>?_
 refine Sto 0 he hm fun w hm a he =>?_
 refine go he hm fun a he =>?_
 obtain ⟨hle_,hm2_⟩:=hfr65.back _ _ _ ((((le72).trans le82).trans le88).trans le100) hm
 have hm:=hm2_
 clear hm2_
 have hX_:=hX0.mono hle_
 have GZ:=G0.mono hle_
 have hatZ:=hat74.del (b:=bf63) hne_
 replace hm:=hm.nf
 refine CallY Tryz.call37 he hm (fun y104 w hG105 hm a he =>?_) (c:=reach_lit hX_ GZ hm)
 obtain ⟨Ψ106,v107⟩:=y104
 have le108:=hG105
 simp only at le108 hm he
 replace hX_:=hX_.mono le108
 replace hatZ:=hatZ.mono le108
 replace hm:=hm.nf
 refine Qq he hm (fun a he =>?_) (o:=by exact fun _ _ _ he hs=>y_ieql true he rfl rfl rfl)
 refine Qq he hm (fun a he =>?_) (o:=by exact fun _ _ _ he hs=>y_ieql true he rfl rfl rfl)
 refine Qq he hm (fun a he =>?_) (o:=by exact fun _ _ _ he hs=>y_ieql true he rfl rfl rfl)
 refine Qq he hm (fun a he =>?_) (o:=by exact fun _ _ _ he hs=>y_ieql true he rfl rfl rfl)
 refine Qq he hm (fun a he =>?_) (o:=by exact fun _ _ _ he hs=>y_ieql true he rfl rfl rfl)
 refine Qq he hm (fun a he =>?_) (o:=by exact fun _ _ _ he hs=>y_ieql true he rfl rfl rfl)
 refine Qq he hm (fun a he =>?_) (o:=by exact fun _ _ _ he hs=>y_ieql true he rfl rfl rfl)
 refine Qq he hm (fun a he =>?_) (o:=by exact fun _ _ _ he hs=>y_ieql true he rfl rfl rfl)
 refine Qq he hm (fun a he =>?_) (o:=by exact fun _ _ _ he hs=>y_indexAddr 0 he rfl rfl Tryz.runUnderlying28 Tryz.sizeOf62 (by decide))
 refine Qq he hm (fun a he =>?_) (o:=by exact fun _ _ _ he hs=>y_ieql true he rfl rfl rfl)
 refine Qq he hm (fun a he =>?_) (o:=by exact fun _ _ _ he hs=>y_ieql true he rfl rfl rfl)
 refine CallR Tryz.call57 he hm (fun w hm a he =>?_) (c:=text_ok hm)
 refine Qq he hm (fun a he =>?_) (o:=by exact fun _ _ _ he hs=>y_seql true he rfl rfl (decide_eq_true rfl))
 refine Qq he hm (fun a he =>?_) (o:=by exact fun _ _ _ he hs=>y_ieql true he rfl rfl rfl)
 refine Qq he hm (fun a he =>?_) (o:=by exact fun _ _ _ he hs=>y_ieql true he rfl rfl rfl)
 refine Qq he hm (fun a he =>?_) (o:=by exact fun _ _ _ he hs=>y_len_gs 0 (2) he hs rfl rfl (rfl) (by decide) Tryz.runUnderlying25)
 refine Qq he hm (fun a he =>?_) (o:=by exact fun _ _ _ he hs=>y_ieql true he rfl rfl rfl)
 refine CallR Tryz.call58 he hm (fun w hm a he =>?_) (c:=isType_lit hX_ hm)
 refine CallR Tryz.call58 he hm (fun w hm a he =>?_) (c:=noType_lit hX_ hm)
 refine go he hm fun a he =>?_
 replace hm:=hm.le ((((((le8).trans le36).trans le45).trans le54).trans hle_).trans le108)
 replace hm:=hm.dl [5,4,3,2,1,0]
 refine Ret1 hQ he hm ?_
 exact ⟨by rfl,hm⟩
end Go.Sw

namespace Go.Sw
open Go.Proofs
section
variable {P:Program} {n:Nat} {E:List (Nat×Value)} {D:List Deferred} {a:Act} {w:World} {ty:TypeId}
theorem y_indexAddr_own (i:Nat) {x ix:Operand} {t e:TypeId} {kk:IntKind} {b off len k z:Nat} (he:EnvR n E D a) (hx:ev E x=some (.pointer (some ⟨b,off,none⟩)))
  (hi:ev E ix=some (.int kk (i:Int))) (ht:Under P t (.array len e)) (hs:SizeT P e k) (hb:i < len) (hz:off+i * k=z) :
  Ok P a (.indexAddr t x ix) ty w (.pointer (some ⟨b,z,none⟩)):=fun _ _ _ _=>by
 subst hz
 simp only [execOp,he.ev hx,he.ev hi]
 simp [Instr.indexAt,Instr.sureAddr,asIntOf,Sem.run_bind,ht w,hs w,Result.andThen,hb,Addr.add]
end
mutual
theorem sameV_refl:∀v:Val,sameV v v=true
 | .mk c n l=>by simp only [sameV,Val.con,Val.num,Val.args,decide_true,Bool.true_and];exact sameVs_refl l
theorem sameVs_refl:∀l:List Val,sameVs l l=true
 | []=>by simp only [sameVs]
 | x::xs=>by rw [sameVs_cons,sameV_refl x,sameVs_refl xs];rfl
end
theorem sameNs_refl:∀l:List Named,sameNs l l=true
 | []=>rfl
 | x::xs=>by rw [sameNs_cons,sameV_refl,sameNs_refl xs];simp
theorem sameO_refl (o:Outcome):sameO o o=true:=by simp [sameO,sameNs_refl]
theorem sameOT_ok {Φ:Fz} {K:List Res} {w:World} {d0 d1:List Value} {v u:Outcome} (rpv:ROutcome Φ d0 v) (rpu:ROutcome Φ d1 u) (h:v=u) (hm:Mem Φ K w) :
  Calls Tryz.prog 19 (List.toArray [.agg d0.toArray,.agg d1.toArray]) w (fun ee w'=>ee=.returned (.bool true)∧Mem Φ K w'):=by
 subst h
 refine (sameOutcome_ok rpv rpu hm).mono fun ee w' h =>?_
 rw [sameO_refl] at h
 exact h
def pickP (c:Int):Int:=if c < 0 then (-(c+1)).tmod 1000 else c.tmod 1000
theorem pick_range (c:Int):0≤pickP c∧pickP c < 1000:=by
 unfold pickP
 split
 ·exact ⟨Int.tmod_nonneg _ (by omega),Int.tmod_lt_of_pos _ (by decide)⟩
 ·exact ⟨Int.tmod_nonneg _ (by omega),Int.tmod_lt_of_pos _ (by decide)⟩
theorem limit_le {f:Int} (h:limitP f≤200000):limitP f≤4000:=by
 unfold limitP at h ⊢
 split at h
 ·rename_i h1
  rw [if_pos h1]
  exact Int.le_of_lt (Int.tmod_lt_of_pos _ (by decide))
 ·rename_i h1
  rw [if_neg h1]
  omega
theorem run_pair {c:Core} {l:List Named} {a:Int} (h:(runP c l a).2=0):runP c l a=((runP c l a).1,0):=Prod.ext rfl h
theorem limit_run {c:Core} {l:List Named} {f:Int} (h:(runP c l (limitP f)).2=0):limitP f≤4000:=limit_le (run_ok_inv (run_pair h)).2.2.1
end Go.Sw
