import Derived.Test.YtlfobekmmndchaaGreatDoorY02
set_option linter.unusedVariables false
set_option linter.unusedSimpArgs false
namespace Go.Sw
open Go.Proofs Go.Proofs.Tryz
set_option maxRecDepth 20000
set_option maxHeartbeats 4000000
theorem x4s {Φ:Fz} {K:List Res} {w:World} {t:Bs} {pos b mb:Nat} {cv:Value} (G:Glob Φ) (D:MapAt Φ mb wordsM) (h1:pos < t.size) (h2:t.size<=800000) (N:Mem Φ (.blk b (ob [.string t,.int .i64 pos,.map (some mb),cv] 235)::K) w) :
  Calls prog 181 #[.pointer (some ⟨b,0,none⟩)] w (fun ee w'=>Out (zV t pos) (fun q=>ee=.returned (y2t q)/\Mem Φ (.blk b (ob [.string t,.int .i64 pos,.map (some mb),cv] 235)::K) w') (fun c=>ee=.panicked (gD c)/\Mem Φ K w')):=by
 refine zJ func181 ntmps181 fun Q hQ a J=>?_;refine Alc fun b2 w N a J=>?_;refine go fun a J=>?_;have T:yT 39=false:=rfl;have U:nI 39=false:=rfl;have V:dX 39=false:=rfl;have W:z6m 39=false:=rfl;replace N:=N.pl 1;refine zE call203 (fun w N a J=>?_) (c:=q4a (by omega) N);refine nQ call204 (fun X w N a J=>?_) (fun X w N a J=>?_) (c:=j6a (wT _ _) N);refine yF call205 (fun q9 w f N a J=>?_) (fun q9 w f N=>?_) (c:=y6f (pos:=pos) G (by omega) (by omega) N);refine Sto 1 fun w N a J=>?_;refine go fun a J=>?_;have d:=N;replace N:=N.dl [1];refine kN (N:=d) ?_;show Out (zV t pos) _ _;rw [show zV t pos=tK t pos by simp [zV, *],f];exact ⟨rfl,N⟩;replace N:=N.dl [0];show Out (zV t pos) _ _;rw [show zV t pos=tK t pos by simp [zV, *],f];exact ⟨rfl,N⟩;by_cases i0:yW t pos=126;refine yF call205 (fun Z w g N a J=>?_) (fun Z w g N=>?_) (c:=y6f (pos:=pos) G (by omega) (by omega) N);refine Sto 1 fun w N a J=>?_;refine go fun a J=>?_;have d:=N;replace N:=N.dl [1];refine kN (N:=d) ?_;show Out (zV t pos) _ _;rw [show zV t pos=tK t pos by simp [zV, *],g];exact ⟨rfl,N⟩;replace N:=N.dl [0];show Out (zV t pos) _ _;rw [show zV t pos=tK t pos by simp [zV, *],g];exact ⟨rfl,N⟩;refine nQ call206 (fun I w N a J=>?_) (fun I w N a J=>?_) (c:=y5t (wT _ _) N);refine yF call207 (fun a0 w i N a J=>?_) (fun a0 w i N=>?_) (c:=j2i (pos:=pos) (kd:=2) D (by omega) (by omega) N);refine Sto 1 fun w N a J=>?_;refine go fun a J=>?_;have d:=N;replace N:=N.dl [1];refine kN (N:=d) ?_;show Out (zV t pos) _ _
 rw [show zV t pos=kU t pos 2 by simp [zV, *],i];exact ⟨rfl,N⟩;replace N:=N.dl [0];show Out (zV t pos) _ _;rw [show zV t pos=kU t pos 2 by simp [zV, *],i];exact ⟨rfl,N⟩;refine nQ call208 (fun L w N a J=>?_) (fun L w N a J=>?_) (c:=j6b (wT _ _) N);refine yF call207 (fun b0 w j N a J=>?_) (fun b0 w j N=>?_) (c:=j2i (pos:=pos) (kd:=3) D (by omega) (by omega) N);refine Sto 1 fun w N a J=>?_;refine go fun a J=>?_;have d:=N;replace N:=N.dl [1];refine kN (N:=d) ?_;show Out (zV t pos) _ _;rw [show zV t pos=kU t pos 3 by simp [zV, *],j];exact ⟨rfl,N⟩;replace N:=N.dl [0];show Out (zV t pos) _ _;rw [show zV t pos=kU t pos 3 by simp [zV, *],j];exact ⟨rfl,N⟩;by_cases S:yW t pos=39;refine zE call203 (fun w N a J=>?_) (c:=z3j (k:=1) (by omega) N);refine nQ call206 (fun M w N a J=>?_) (fun M w N a J=>?_) (c:=y5t (wT _ _) N);refine zE call199 (fun w N a J=>?_) (c:=y9s (p:=qX) (pos:=pos) (k:=1) (fs:=[]) (cs:=[]) call210 (fun c N=>z4w N) (by omega) (by omega) N);refine Qq (fun a J=>?_) (o:=by exact fun J O=>tW (((1+(qH qX t t.size (pos+1))):Nat):Int) J rfl rfl (by have hr_:=wC qX t t.size (pos+1) (by omega);rw [aM (by omega)];omega));refine yF call209 (fun c0 w l N a J=>?_) (fun c0 w l N=>?_) (c:=aW (pos:=pos) (kd:=4) (n:=(1+(qH qX t t.size (pos+1)))) (by have hr_:=wC qX t t.size (pos+1) (by omega);omega) (by omega) N);refine Sto 1 fun w N a J=>?_;refine go fun a J=>?_;have d:=N;replace N:=N.dl [1];refine kN (N:=d) ?_;show Out (zV t pos) _ _
 rw [show zV t pos=vT t pos 4 (1+(qH qX t t.size (pos+1))) by simp [zV, *],l];exact ⟨rfl,N⟩;replace N:=N.dl [0];show Out (zV t pos) _ _;rw [show zV t pos=vT t pos 4 (1+(qH qX t t.size (pos+1))) by simp [zV, *],l];exact ⟨rfl,N⟩;refine nQ call201 (fun z w N a J=>?_) (fun z w N a J=>?_) (c:=nJ (s:=(⟨#[61,62]⟩:Bs)) (by omega) N);refine yF call209 (fun d0 w m N a J=>?_) (fun d0 w m N=>?_) (c:=aW (pos:=pos) (kd:=6) (n:=2) (by have h_:=jY z;have R:(⟨#[61,62]⟩:Bs).size=2:=rfl;have E:(⟨#[45,62]⟩:Bs).size=2:=rfl;omega) (by omega) N);refine Sto 1 fun w N a J=>?_;refine go fun a J=>?_;have d:=N;replace N:=N.dl [1];refine kN (N:=d) ?_;show Out (zV t pos) _ _;rw [show zV t pos=vT t pos 6 2 by simp [zV, *],m];exact ⟨rfl,N⟩;replace N:=N.dl [0];show Out (zV t pos) _ _;rw [show zV t pos=vT t pos 6 2 by simp [zV, *],m];exact ⟨rfl,N⟩;refine nQ call201 (fun A w N a J=>?_) (fun A w N a J=>?_) (c:=nJ (s:=(⟨#[45,62]⟩:Bs)) (by omega) N);refine yF call209 (fun e0 w r N a J=>?_) (fun e0 w r N=>?_) (c:=aW (pos:=pos) (kd:=6) (n:=2) (by have h_:=jY A;have R:(⟨#[61,62]⟩:Bs).size=2:=rfl;have E:(⟨#[45,62]⟩:Bs).size=2:=rfl;omega) (by omega) N);refine Sto 1 fun w N a J=>?_;refine go fun a J=>?_;have d:=N;replace N:=N.dl [1];refine kN (N:=d) ?_;show Out (zV t pos) _ _;rw [show zV t pos=vT t pos 6 2 by simp [zV, *],r];exact ⟨rfl,N⟩;replace N:=N.dl [0];show Out (zV t pos) _ _;rw [show zV t pos=vT t pos 6 2 by simp [zV, *],r];exact ⟨rfl,N⟩;refine zE call211 (fun w N a J=>?_) (c:=z2r N)
 have e:=j2x (yW t pos) (wT t pos);by_cases F:0<=Lib.indexByte (⟨#[40,41,44,59,58,124,61,60,43,45,42,47,37,95]⟩:Bs).data.toList (((yW t pos:Nat):Int).toNat.toUInt8);refine go fun a J=>?_;have y:z6m (yW t pos)=true:=by rw [<- e];exact decide_eq_true F
 rw [S] at y;cases y;refine yE fun a J=>?_;refine Qq (fun a J=>?_) (o:=by exact fun J O=>yL J rfl runUnderlying180 (by intro ms h;cases h));refine st0 J rfl rfl (xG J rfl (xH _) (fun a Y=>hQ _ _ _ (zT Y ?_)));replace N:=N.dl [1,0];have P:z6m (yW t pos)=false:=by rw [<- e];exact decide_eq_false F
 show Out (zV t pos) _ _;rw [show zV t pos=.error (pos,11) by simp [zV, *]];exact ⟨rfl,N⟩;refine nQ call201 (fun B w N a J=>?_) (fun B w N a J=>?_) (c:=nJ (s:=(⟨#[61,62]⟩:Bs)) (by omega) N);refine yF call209 (fun f0 w u N a J=>?_) (fun f0 w u N=>?_) (c:=aW (pos:=pos) (kd:=6) (n:=2) (by have h_:=jY B;have R:(⟨#[61,62]⟩:Bs).size=2:=rfl;have E:(⟨#[45,62]⟩:Bs).size=2:=rfl;omega) (by omega) N);refine Sto 1 fun w N a J=>?_;refine go fun a J=>?_;have d:=N;replace N:=N.dl [1];refine kN (N:=d) ?_;show Out (zV t pos) _ _;rw [show zV t pos=vT t pos 6 2 by simp [zV, *],u];exact ⟨rfl,N⟩;replace N:=N.dl [0];show Out (zV t pos) _ _;rw [show zV t pos=vT t pos 6 2 by simp [zV, *],u];exact ⟨rfl,N⟩;refine nQ call201 (fun C w N a J=>?_) (fun C w N a J=>?_) (c:=nJ (s:=(⟨#[45,62]⟩:Bs)) (by omega) N);refine yF call209 (fun g0 w v N a J=>?_) (fun g0 w v N=>?_) (c:=aW (pos:=pos) (kd:=6) (n:=2) (by have h_:=jY C;have R:(⟨#[61,62]⟩:Bs).size=2:=rfl;have E:(⟨#[45,62]⟩:Bs).size=2:=rfl;omega) (by omega) N);refine Sto 1 fun w N a J=>?_;refine go fun a J=>?_;have d:=N;replace N:=N.dl [1];refine kN (N:=d) ?_;show Out (zV t pos) _ _;rw [show zV t pos=vT t pos 6 2 by simp [zV, *],v];exact ⟨rfl,N⟩;replace N:=N.dl [0];show Out (zV t pos) _ _;rw [show zV t pos=vT t pos 6 2 by simp [zV, *],v];exact ⟨rfl,N⟩;refine zE call211 (fun w N a J=>?_) (c:=z2r N);have e:=j2x (yW t pos) (wT t pos);by_cases H:0<=Lib.indexByte (⟨#[40,41,44,59,58,124,61,60,43,45,42,47,37,95]⟩:Bs).data.toList (((yW t pos:Nat):Int).toNat.toUInt8)
 have y:z6m (yW t pos)=true:=by rw [<- e];exact decide_eq_true H
 refine yF call209 (fun h0 w x N a J=>?_) (fun h0 w x N=>?_) (c:=aW (pos:=pos) (kd:=6) (n:=1) (by have hr_:=wC qX t t.size (pos+1) (by omega);omega) (by omega) N);refine Sto 1 fun w N a J=>?_;refine go fun a J=>?_;have d:=N;replace N:=N.dl [1];refine kN (N:=d) ?_;show Out (zV t pos) _ _;rw [show zV t pos=vT t pos 6 1 by simp [zV, *],x];exact ⟨rfl,N⟩;replace N:=N.dl [0];show Out (zV t pos) _ _;rw [show zV t pos=vT t pos 6 1 by simp [zV, *],x];exact ⟨rfl,N⟩;refine yE fun a J=>?_;refine Qq (fun a J=>?_) (o:=by exact fun J O=>yL J rfl runUnderlying180 (by intro ms h;cases h));refine st0 J rfl rfl (xG J rfl (xH _) (fun a Y=>hQ _ _ _ (zT Y ?_)));replace N:=N.dl [1,0];have P:z6m (yW t pos)=false:=by rw [<- e];exact decide_eq_false H
 show Out (zV t pos) _ _;rw [show zV t pos=.error (pos,11) by simp [zV, *]];exact ⟨rfl,N⟩
theorem y3v {Φ:Fz} {K:List Res} {w:World} {t:Bs} (N:Mem Φ K w) :
  Calls prog 142 #[.string t] w (fun ee w'=>∃y:Nat×Nat,ee=.returned (.pointer (some ⟨y.1,0,none⟩))/\True/\Mem Φ (.blk y.1 (ob [.string t,ZA,.map (some y.2),ZB] 235)::.mp y.2 wordsM::K) w'):=by
 refine zJ func142 ntmps142 fun Q hQ a J=>?_;refine yE fun a J=>?_;refine MkM fun f w N a J=>?_;refine BldT fun a J=>?_;refine Bx fun k w N a J=>?_;refine yE fun a J=>?_;refine go fun a J=>?_;refine yO (J.ks [3,11]) N (fun R mm a w=>∃(i:Nat),mm=15 - i/\R Φ [(12,.int .i64 i)] [(1,.mp f (wordsM.take i))] a w/\(True)) (15 - 0) ⟨0,rfl,⟨J.pk,N⟩,trivial⟩ ?_;clear N J;rintro mm a w ⟨i,e,⟨J,N⟩,g⟩ j d;replace N:=N.nf;by_cases c:i < 15;obtain ⟨h,b⟩:=zW (l:=wordsL) (i:=i) c;refine Qq (fun a J=>?_) (o:=by exact fun J O=>q5u i 15 (cs:=strs wordsL) J rfl rfl runUnderlying236 sizeOf9 isAgg9 rfl (by rw [strs,List.getElem?_map,b];rfl));refine uU 1 runUnderlying98 runUnderlying9 fun w N a J=>?_;rw [show Value.int .i64 5=.int .i64 ((5:Nat):Int) from rfl,j7o b] at N;refine go fun a J=>?_;refine d _ _ _ (by subst e;omega) ⟨(i+1),rfl,⟨J.pk,N⟩,?_⟩;trivial;refine yG ?_;rw [j0f c] at N;exact ⟨(_,_),rfl,trivial,N⟩
theorem j7j {Φ:Fz} {K:List Res} {w:World} {b:Nat} (N:Mem Φ K w) :
  Calls prog 144 #[.pointer (some ⟨b,0,none⟩)] w (fun ee w'=>∃y:Nat,ee=.returned (.func (.func 179) #[] #[.pointer (some ⟨y,0,none⟩)])/\True/\Mem Φ (.blk y (ob [.pointer (some ⟨b,0,none⟩)] 178)::K) w'):=by
 refine zJ func144 ntmps144 fun Q hQ a J=>?_;refine Bx fun c w N a J=>?_;refine yG ?_;exact ⟨_,rfl,trivial,N⟩
theorem j0a {β:Type} {Φ:Fz} {w:World} {t:Bs} {bx b mb l:Nat} {KY:List Tok->β->List Res} {z:β} (G:Glob Φ) (A:MapAt Φ mb wordsM) (U:t.size<=800000)
  (V:∀pre z K0 (k:Tok) w,pre.length < t.size->Mem Φ (K0++KY pre z) w->YieldAt Fence.wide 2 prog l #[y2t k] w (fun e w'=>e=.returned (.bool true)/\∃z',Mem Φ (K0++KY (pre++[k]) z') w'))
  (N:Mem Φ (.blk bx (ob [.pointer (some ⟨b,0,none⟩)] 178)::.blk b (ob [.string t,ZA,.map (some mb),ZB] 235)::KY [] z) w) :
  Calls prog 179 #[.func (.yield l) #[] #[],.pointer (some ⟨bx,0,none⟩)] w (fun ee w'=>Out (pN t) (fun r=>∃y:β,ee=.returned (.tuple #[])/\Mem Φ (KY r y) w') (fun c=>∃y:List Tok×β,ee=.panicked (gD c)/\Mem Φ (KY y.1 y.2) w')):=by
 refine zJ func179 ntmps179 fun Q hQ a J=>?_;refine go fun a J=>?_;replace N:=N.nilRow 260 2;replace N:=N.nf;replace N:=N.pl 2;refine dB call180 (fun D S w q E N a J=>?_) (fun D w q N=>?_) (c:=j2o (pos:=0) (by omega) (by omega) (Nat.zero_le _) N);replace N:=N.nf;have n:=y1t (by omega) q;refine go fun a J=>?_;refine gV (fun mm a w=>∃(i:Nat) (pre:List Tok) (u:Value) (ds:List Value) (z0:β),mm=t.size - i/\EnvR 38 [(0,.func (.yield l) #[] #[]),(1,.pointer (some ⟨bx,0,none⟩))] [] a/\Mem Φ (.blk b (ob [.string t,.int .i64 i,.map (some mb),u] 235)::.gs (u) 260 2 ds::.blk bx (ob [.pointer (some ⟨b,0,none⟩)] 178)::KY pre z0) w/\(i<=t.size/\ds.length<=2 * i/\pre.length<=i/\pN t=y1x pre (z3w t i))) (t.size - D) ⟨D,[],S.1,S.2,z,rfl,J.pk,N,⟨n.2,E,Nat.zero_le _,(q4b _).symm.trans (y7e (Nat.zero_le _) q)⟩⟩ ?_;clear N J;rintro mm a w ⟨i,pre,u,ds,z0,K,J,N,F⟩ W I;obtain ⟨L,M,P,p⟩:=F;refine Reg [2,1,1,1,2,2,1,1,1,2,1,1] [0,1,2] fun w N a J=>?_;by_cases m:i < t.size;refine yF call181 (fun d w f N a J=>?_) (fun d w f N=>?_) (c:=x4s (pos:=i) G A m U N);have R:=q5j m f;refine Alc fun T w N a J=>?_;refine Sto 0 fun w N a J=>?_;refine Reg [2,1,1,1,2,1,2,1,1,1,1,1,0] [0,1,2,3] fun w N a J=>?_;refine Qq (fun a J=>?_) (o:=by exact fun J O=>xJ (i:=i) (j:=d.text.size) J rfl rfl (by omega));refine Sto 1 fun w N a J=>?_;refine go1 fun a J=>?_;refine mX ?_;refine zG J (by intro c h;cases h) (yZ J rfl) rfl fun a J=>?_
 refine zG J (by intro c h;cases h) (qG 0 (vs:=[.int .i64 (d.kind),.int .i64 (d.num),.string d.text,.int .i64 d.org]) J N.toSees rfl rfl isAgg204 sizeOf204 rfl rfl) rfl fun a J=>?_;replace N:=N.dl [0];refine x1z (v:=y2t d) J rfl rfl rfl (V pre z0 [.blk b (ob [.string t,.int .i64 (((i+d.text.size):Nat):Int),.map (some mb),u] 235),.gs (u) 260 2 ds,.blk bx (ob [.pointer (some ⟨b,0,none⟩)] 178)] d w (by omega) N) fun w H a J=>?_;obtain ⟨C,N⟩:=H;replace N:=N.nf;refine zG J (by intro c h;cases h) (z6v J rfl) rfl fun a J=>?_;refine wpListIn_nil ?_;replace N:=N.ar [] [1,1];refine dB call180 (fun s B w g x N a J=>?_) (fun s w g N=>?_) (c:=j2o (pos:=(i+d.text.size)) (by omega) (by omega) (by omega) N);replace N:=N.nf;have n:=y1t (by omega) g;refine go fun a J=>?_;refine I _ _ _ (by subst K;omega) ⟨(s),(pre++[d]),(B.1),(B.2),(C),rfl,J.pk,N,?_⟩;exact ⟨n.2,x,by simp only [laQ,lcQ,lnQ];omega,by rw [p,y7g m f,y7e (by omega) g]⟩;replace N:=N.dl [0]
 have hr_:pN t=.error s:=by
  rw [p,y7g m f,y7f (by omega) g]
 show Out (pN t) _ _;rw [hr_];exact ⟨(pre++[d],C),rfl,N⟩;replace N:=N.dl [1,0]
 have hr_:pN t=.error d:=by
  rw [p,j7k m f]
 show Out (pN t) _ _;rw [hr_];exact ⟨(pre,z0),rfl,N⟩;refine go fun a J=>?_;replace N:=N.dl [2,1,0];refine hQ _ _ _ (yN J results179 ?_);show Out (pN t) _ _;rw [p,x4u m];exact ⟨z0,rfl,N⟩;replace N:=N.dl [0]
 have hr_:pN t=.error D:=by
  exact (q4b _).symm.trans (y7f (Nat.zero_le _) q)
 show Out (pN t) _ _;rw [hr_];exact ⟨([],z),rfl,N⟩
def z1j (k:Tok):List Value:=[.int .i64 k.kind,.int .i64 k.num,.string k.text,.int .i64 k.org]
def pI (l:List Tok):List Value:=l.flatMap z1j
theorem j0b (l:List Tok) (k:Tok):pI (l++[k])=pI l++z1j k:=by simp [pI]
theorem y7d:∀l:List Tok,(pI l).length=4 * l.length
 | []=>rfl
 | k::l=>by have:=y7d l;simp only [pI,List.flatMap_cons,laQ,lcQ] at this ⊢;rw [this];simp only [z1j,lcQ,lnQ];omega
def aN (c:Nat×Int):List Value:=[.int .i64 c.1,.int .i64 c.2]
abbrev wrongE (c:Nat×Int) (r:Bool):PanicEntry:={ v:=.iface 180 (.agg (aN c).toArray),recovered:=r }
set_option maxRecDepth 20000 in
set_option maxHeartbeats 4000000 in
theorem q0z {Φ:Fz} {K:List Res} {w:World} {b d:Nat} {v:Value} {x y:Value} {c:Nat×Int} (N:Mem Φ (.blk b (ob [v] 130)::.blk d (ob [x,y] 180)::K) w) :
  CallsD prog 143 #[.pointer (some ⟨b,0,none⟩),.pointer (some ⟨d,0,none⟩)] (.panicking (gD c)) w fun e u' w'=>
   e=.returned (.tuple #[])/\u'=.panicking [wrongE c true]/\Mem Φ (.blk b (ob [.slice none 0 0] 130)::.blk d (ob (aN c) 180)::K) w':=by
 generalize l:(fun (e:Ending) (u':FrameMode) (w':World)=>e=.returned (.tuple #[])/\u'=.panicking [wrongE c true]/\Mem Φ (.blk b (ob [.slice none 0 0] 130)::.blk d (ob (aN c) 180)::K) w')=R;refine callsD_of_wpS func143 rfl fun c₀ cs o=>?_;apply wpS_seq;apply wpS_region;show wpOpsS prog _ _ [0] _ _ _
 simp [wpOpsS,go_sem,recoverD,o,ntmps143,Exit.thenS,gD]
 refine wpS_of_wp ?_;generalize m:(_::cs:List Frame)=cs'
 have hQ:∀(a:Act) (w':World),a.defers=[]->Mem Φ (.blk b (ob [.slice none 0 0] 130)::.blk d (ob (aN c) 180)::K) w'->bodyPostS prog Tryz.f143 c₀ cs R .normal a cs' w':=fun a w' n N=>
  ⟨n,.panicking [wrongE c true],m.symm,.tuple #[],results_none rfl _ _ _,by subst l;exact ⟨rfl,rfl,N⟩⟩
 generalize f:(Act.mk _ [])=a
 have J:EnvR 12 [(5,.iface 180 (.agg (aN c).toArray)),(1,.pointer (some ⟨d,0,none⟩)),(0,.pointer (some ⟨b,0,none⟩))] [] a:=by
  subst f;refine ⟨rfl,fun t v h=>?_,rfl⟩;obtain ⟨rfl,rfl⟩ | ⟨_,h⟩:=xW h
  ·rfl
  ·obtain ⟨rfl,rfl⟩ | ⟨_,h⟩:=xW h
   ·rfl
   ·obtain ⟨rfl,rfl⟩ | ⟨_,h⟩:=xW h
    ·rfl
    ·cases h
 clear f;refine wp_block ?_;refine sq fun p g=>?_;refine wp_region_lit ?_;refine xP J (jB (v:=.bool false) J rfl rfl rfl (by kernel_rfl)) rfl fun a J=>?_;refine wpList_nil ?_;apply g;refine if_f J rfl ?_;refine sq fun r i=>?_;refine wp_region_lit ?_;refine xP J (y3l J rfl runUnderlying180 (by intro ms h;cases h)) rfl fun a J=>?_
 refine xP J (xO J rfl rfl) rfl fun a J=>
  xP J (xO J rfl rfl) rfl fun a J=>?_
 refine wpList_nil ?_;apply i;refine if_t J rfl ?_;refine sq fun s j=>?_;refine wp_region_lit ?_;refine st J rfl rfl rfl (qW (cs:=[.int .i64 ((0:Nat):Int),.int .i64 ((0:Nat):Int)]) N zeroValue180 rfl fun k w N a J=>?_);refine st0 J rfl rfl (zQ 0 (cs:=[.int .i64 ((0:Nat):Int),.int .i64 ((0:Nat):Int)]) (vs:=aN c) J N rfl rfl rfl rfl sizeOf180 rfl rfl rfl fun w N a J=>?_);refine wpList_nil ?_;apply j;replace N:Mem Φ (.blk k (ob (aN c) 180)::.blk b (ob [v] 130)::.blk d (ob [x,y] 180)::K) w:=N;refine dP [2,0,0] (.q 0 (.e 1 (.e 2 (.done)))) [.blk k (ob (aN c) 180)] J N mixed (by kernel_rfl) (by simp) fun w N=>?_;refine d_q J rfl rfl (fun w O=>qG 0 (vs:=aN c) J O rfl rfl isAgg180 sizeOf180 rfl rfl) rfl fun a J=>?_;refine aJ J rfl rfl (zQ 1 (cs:=[v]) (vs:=[.slice none 0 0]) J N rfl rfl rfl rfl sizeOf130 rfl rfl rfl fun w N=>⟨fun _=>N.seesIn (Fz.Le.refl _) (by simp [wA]),fun a J=>?_⟩);refine aJ J rfl rfl (zQ 2 (cs:=[x,y]) (vs:=aN c) J N rfl rfl rfl rfl sizeOf180 rfl rfl rfl fun w N=>⟨jT (by kernel_rfl),fun a J=>?_⟩);refine d_done ?_;replace N:Mem Φ (.blk b (ob [.slice none 0 0] 130)::.blk d (ob (aN c) 180)::K) w:=N.del 0;exact hQ _ _ J.defs N
set_option maxRecDepth 20000 in
theorem catch_none {w:World} {f g:Nat} :
  CallsD prog 143 #[.pointer (some ⟨f,0,none⟩),.pointer (some ⟨g,0,none⟩)] .returning w fun e u' w'=>e=.returned (.tuple #[])/\u'=.returning/\w'=w:=by
 generalize i:(fun (e:Ending) (u':FrameMode) (w':World)=>e=.returned (.tuple #[])/\u'=.returning/\w'=w)=R;refine callsD_of_wpS func143 rfl fun c₀ cs d=>?_;apply wpS_seq;apply wpS_region;show wpOpsS prog _ _ [0] _ _ _
 simp [wpOpsS,go_sem,recoverD,d,ntmps143,Exit.thenS]
 refine wpS_of_wp ?_
 have hQ:∀(a:Act),a.defers=[]->bodyPostS prog Tryz.f143 c₀ cs R .normal a (c₀::cs) w:=fun a j=>
  ⟨j,.returning,by cases c₀;simp only at d;subst d;rfl,.tuple #[],results_none rfl _ _ _,by subst i;exact ⟨rfl,rfl,rfl⟩⟩
 generalize b:(Act.mk _ [])=a
 have J:EnvR 12 [(5,.nilIface)] [] a:=by
  subst b;refine ⟨rfl,fun t v h=>?_,rfl⟩;obtain ⟨rfl,rfl⟩ | ⟨_,h⟩:=xW h
  ·rfl
  ·cases h
 clear b;refine wp_block ?_;refine sq fun k c=>?_;refine wp_region_lit ?_;refine xP J (jB (v:=.bool true) J rfl rfl rfl (by kernel_rfl)) rfl fun a J=>?_;refine wpList_nil ?_;apply c;refine if_t J rfl ?_;refine wp_region_lit ?_;refine xP J (jE J rfl) rfl fun a J=>?_;refine wpList_nil ?_;exact hQ _ J.defs
theorem zip1 {α β:Type} (x:α) (y:β):(#[x].zip #[y])=#[(x,y)]:=by apply Array.ext';simp
set_option maxRecDepth 20000 in
theorem rt_130:RowT prog 130 204 4 40:=⟨underlying130,⟨_,_,Tryz.type204,rfl,rfl,rfl,rfl⟩,by decide,by decide⟩
abbrev scanKY (K:List Res) (l Dk a b:Nat) (r:Loop) (pre:List Tok) (z:Value):List Res :=
 .blk l (.loop r)::.blk Dk (.deferred (some []))::.blk b (ob [.int .i64 ((0:Nat):Int),.int .i64 ((0:Nat):Int)] 180)::.blk a (ob [z] 130)::.gs z 204 4 (pI pre)::K
set_option maxRecDepth 20000 in
set_option maxHeartbeats 4000000 in
theorem q9n {Ψ:Fz} {K K0:List Res} {w:World} {l Dk b c n:Nat} {r:Loop} {pre:List Tok} {z:Value} {k:Tok} (s:pre.length < n) (D:n<=800000)
  (j:r.params=#[11]) (q:r.state=.ready) (p:r.pending=none)
  (A:∀(a:Act) (w:World) (K:List Res),EnvR 19 [(11,y2t k),(4,.pointer (some ⟨c,0,none⟩)),(3,.pointer (some ⟨b,0,none⟩))] [] a->Mem Ψ (.blk l (.loop r)::K) w ->
   r.assign.wpIn (FO (some l)) 2 prog (Exit.then (fun t C=>∃g,EnvR 19 [(5,.pointer (some ⟨g,0,none⟩)),(4,.pointer (some ⟨c,0,none⟩)),(3,.pointer (some ⟨b,0,none⟩))] [] t/\Mem Ψ (.blk l (.loop r)::.blk g (ob (z1j k) 204)::K) C) (fun _ _ _=>False)) a w)
  (hb:∀(a:Act) (w:World) (g:Nat) (K:List Res) (o:Obj),EnvR 19 [(5,.pointer (some ⟨g,0,none⟩)),(4,.pointer (some ⟨c,0,none⟩)),(3,.pointer (some ⟨b,0,none⟩))] [] a->Mem Ψ (.blk l o::.blk g (ob (z1j k) 204)::.blk b (ob [z] 130)::.gs z 204 4 (pI pre)::K) w ->
   r.body.wpIn (FO (some l)) 2 prog (fun e _ w=>e=.normal/\∃v,Mem Ψ (.blk l o::.blk b (ob [v] 130)::.gs v 204 4 (pI (pre++[k]))::K) w) a w)
  (J:EnvR 19 [(4,.pointer (some ⟨c,0,none⟩)),(3,.pointer (some ⟨b,0,none⟩))] [] ⟨r.tmps,[]⟩) (N:Mem Ψ (K0++scanKY K l Dk b c r pre z) w) :
  YieldAt Fence.wide 2 prog l #[y2t k] w (fun e w'=>e=.returned (.bool true)/\∃z',Mem Ψ (K0++scanKY K l Dk b c r (pre++[k]) z') w'):=by
 have f:Mem Ψ (scanKY K l Dk b c r pre z++K0) w:=N.perm List.perm_append_comm
 replace f:Mem Ψ (.blk l (.loop r)::.blk b (ob [z] 130)::.gs z 204 4 (pI pre)::.blk Dk (.deferred (some []))::.blk c (ob [.int .i64 ((0:Nat):Int),.int .i64 ((0:Nat):Int)] 180)::(K++K0)) w :=
  (((f.pull (i:=4) rfl).pull (i:=4) rfl).pull (i:=2) rfl)
 have hl:w.heap[l]? = some (.loop r):=f.own _ msQ;refine ⟨r.fn,r.tmps.setIfInBounds 11 (y2t k),r.assign,r.body,?_,?_⟩
 ·rw [run_yield hl (by rw [j];rfl),j,zip1];simp
 ·have m:EnvR 19 [(11,y2t k),(4,.pointer (some ⟨c,0,none⟩)),(3,.pointer (some ⟨b,0,none⟩))] [] ⟨r.tmps.setIfInBounds 11 (y2t k),[]⟩:=J.put (d:=11) rfl
  have h:=x3s (P:=prog) (E1:=fun g=>[(5,.pointer (some ⟨g,0,none⟩)),(4,.pointer (some ⟨c,0,none⟩)),(3,.pointer (some ⟨b,0,none⟩))])
   (KO:=fun v=>.blk b (ob [v] 130)::.gs v 204 4 (pI (pre++[k]))::.blk Dk (.deferred (some []))::.blk c (ob [.int .i64 ((0:Nat):Int),.int .i64 ((0:Nat):Int)] 180)::(K++K0)) f q p m
   (fun a J=>A a w _ J f) (fun g a w J N=>hb a w g _ _ J N)
  refine h.mono fun e w' B=>?_;obtain ⟨u,v,x⟩:=B;refine ⟨u,v,?_⟩;have y:Mem Ψ (scanKY K l Dk b c r (pre++[k]) v++K0) w':=(((x.pull (i:=4) rfl).pull (i:=4) rfl).pull (i:=2) rfl);exact y.perm List.perm_append_comm
set_option maxRecDepth 20000 in
set_option maxHeartbeats 4000000 in
theorem y2j {Φ:Fz} {K:List Res} {w:World} {t:Bs} (G:Glob Φ) (W:t.size<=800000) (N:Mem Φ K w) :
  Calls prog 108 #[.string t] w (fun ee w'=>Out (pN t)
   (fun l=>∃y:Nat×Value,ee=.returned (.tuple #[.pointer (some ⟨y.1,0,none⟩),y.2,.agg #[.int .i64 ((0:Nat):Int),.int .i64 ((0:Nat):Int)]])/\Mem Φ (.gs y.2 204 4 (pI l)::K) w')
   (fun c=>∃y:Nat,ee=.returned (.tuple #[.pointer (some ⟨y,0,none⟩),.slice none 0 0,.agg (aN c).toArray])/\Mem Φ K w')):=by
 refine sX func108 rfl ntmps108 rfl (fun Q hQ a J=>?_);refine sq fun L1 E=>?_;refine wp_region_lit ?_;refine xP J (jE J rfl) rfl fun a J=>?_;refine st J rfl rfl rfl (qW (cs:=[.slice none 0 0]) N zeroValue130 rfl fun g w N a J=>?_);refine st J rfl rfl rfl (qW (cs:=[.int .i64 ((0:Nat):Int),.int .i64 ((0:Nat):Int)]) N zeroValue180 rfl fun m w N a J=>?_);refine wpList_nil ?_;apply E;refine sq fun L2 F=>?_;refine wp_region_lit ?_;refine xP J (yZ J rfl) rfl fun a J=>?_;refine st J rfl rfl rfl (uF J rfl call142 (y3v N) (fun y w _ N a J=>?_));obtain ⟨b,mb⟩:=y;simp only at N J;refine xP J (jE J rfl) rfl fun a J=>?_;refine wpList_nil ?_;apply F;obtain ⟨Ψ,le,N,x⟩:=N.freezeMap (i:=1) rfl;replace N:Mem Ψ (.blk b (ob [.string t,.int .i64 ((0:Nat):Int),.map (some mb),.slice none 0 0] 235)::.blk m (ob [.int .i64 ((0:Nat):Int),.int .i64 ((0:Nat):Int)] 180)::.blk g (ob [.slice none 0 0] 130)::K) w:=N;refine sq fun L3 H=>?_;refine wp_region_lit ?_;refine xP J (z1q (vfs:=[]) (vcs:=[.pointer (some ⟨g,0,none⟩),.pointer (some ⟨m,0,none⟩)]) J rfl rfl) rfl fun a J=>?_;refine tT (fs:=[]) (cs:=[.pointer (some ⟨g,0,none⟩),.pointer (some ⟨m,0,none⟩)]) (vs:=[]) J rfl rfl fun a J=>?_;refine wpList_nil ?_;apply H;refine sq fun L4 I=>?_;refine sq fun L5 L=>?_;refine wp_region_lit ?_;refine xP J (yZ J rfl) rfl fun a J=>?_;refine st J rfl rfl rfl (uF J rfl call144 (j7j N) (fun bx w _ N a J=>?_));refine wpList_nil ?_;apply L;refine wp_block ?_
 refine x5a (P:=prog) (β:=List Tok×Value) (δ:=List Tok×Value) (gf:=179) (fs:=[]) (cs:=[.pointer (some ⟨bx,0,none⟩)]) (F1:=fun _=>Ψ)
  (KO:=fun y=>.blk m (ob [.int .i64 ((0:Nat):Int),.int .i64 ((0:Nat):Int)] 180)::.blk g (ob [y.2] 130)::.gs y.2 204 4 (pI y.1)::K)
  (KE:=fun y=>.blk m (ob [.int .i64 ((0:Nat):Int),.int .i64 ((0:Nat):Int)] 180)::.blk g (ob [y.2] 130)::.gs y.2 204 4 (pI y.1)::K)
  (G:=fun y=>pN t=.ok y.1) (B:=fun _ c=>∃e,pN t=.error e/\c=gD e) J N rfl call179 ?_ ?_ ?_
 ·intro Dk l r w U has R V T S N
  have p:=N.nilRow 204 4
  replace p:Mem Ψ (.blk bx (ob [.pointer (some ⟨b,0,none⟩)] 178)::.blk b (ob [.string t,.int .i64 ((0:Nat):Int),.map (some mb),.slice none 0 0] 235)::scanKY K l Dk g m r [] (.slice none 0 0)) w :=
   ((((((p.pull (i:=6) rfl).pull (i:=6) rfl).pull (i:=4) rfl).pull (i:=4) rfl).pull (i:=6) rfl).pull (i:=6) rfl)
  have h:=j0a (l:=l) (KY:=scanKY K l Dk g m r) (G.mono le) x W (fun pre z K0 k w s N=>?_) p
  ·refine h.mono fun e w' A=>?_
   cases X:pN t with
   | ok rr=>
    rw [X] at A;obtain ⟨z,rfl,d⟩:=A;exact .inl ⟨_,(rr,z),rfl,rfl,d⟩
   | error c=>
    rw [X] at A;obtain ⟨y,rfl,d⟩:=A;exact .inr ⟨_,y,rfl,⟨c,rfl,rfl⟩,d.tail⟩
  ·refine q9n (n:=t.size) s W U V T (fun a w K J N=>?_) (fun a w C K o J N=>?_) (S.of_sub ⟨rfl,rfl,trivial⟩) N
   ·rw [has]
    refine wpIn_region_lit ?_;refine kA J rfl rfl rfl (by intro c h;cases h) (qW (cs:=[.int .i64 ((0:Nat):Int),.int .i64 ((0:Nat):Int),.string ⟨#[]⟩,.int .i64 ((0:Nat):Int)]) N zeroValue204 rfl fun C w N a J=>?_);refine xF J rfl rfl (by intro c h;cases h) (zQ 0 (cs:=[.int .i64 ((0:Nat):Int),.int .i64 ((0:Nat):Int),.string ⟨#[]⟩,.int .i64 ((0:Nat):Int)]) (vs:=z1j k) J N rfl rfl rfl rfl sizeOf204 rfl rfl rfl fun w N a J=>?_);refine wpListIn_nil ?_;exact ⟨C,J.of_sub ⟨rfl,rfl,rfl,trivial⟩,N.pull (i:=1) rfl⟩
   ·rw [R]
    refine wpIn_block ?_;refine wpIn_region_lit ?_;refine zG J (by intro c h;cases h) (yH 2 J N.toSees rfl rfl rfl isAgg130) rfl fun a J=>?_;refine zG J (by intro c h;cases h) (qG 1 (vs:=z1j k) J N.toSees rfl rfl isAgg204 sizeOf204 rfl rfl) rfl fun a J=>?_;refine kA J rfl rfl rfl (by intro c h;cases h) (qA (sz:=4) (cs:=z1j k) J N rfl (pQ runUnderlying130 sizeOf204 zeroValue204 rfl (by decide) rfl) rfl (by decide) fun v w N _ a J=>?_);refine kA J rfl rfl rfl (by intro c h;cases h) (wX 4 (xs:=pI pre) (news:=z1j k) rt_130 J N rfl rfl rfl (N.toSees.rowIn (i:=0) rfl) rfl (by rw [y7d];simp only [z1j,lcQ,lnQ];omega) fun v2 w N a J=>?_);replace N:Mem Ψ (.gs v 204 4 (z1j k)::.blk l o::.blk C (ob (z1j k) 204)::.blk g (ob [z] 130)::.gs v2 204 4 (pI (pre++[k]))::K) w:=by rw [j0b];exact N
    refine xF J rfl rfl (by intro c h;cases h) (zQ 3 (cs:=[z]) (vs:=[v2]) J N rfl rfl rfl (N.toSees.gsCells (i:=4) rfl) sizeOf130 rfl (N.toSees.gsOne (i:=4) rfl) rfl fun w N a J=>?_);refine wpListIn_nil ?_;exact ⟨rfl,v2,(N.del 0).del 1⟩
 ·intro Dk y a w hG J N
  apply I;refine sq fun L6 M=>?_;refine dP [1,2,2,1,0,0] (.q 0 (.q 1 (.q 2 (.q 3 (.e 4 (.e 5 .done)))))) [.blk m (ob [.int .i64 ((0:Nat):Int),.int .i64 ((0:Nat):Int)] 180),.blk g (ob [y.2] 130)] J N mixed (by kernel_rfl) (by simp) fun w N=>?_;refine d_q1 J rfl rfl (fun w=>yZ J rfl) rfl fun a J=>?_;refine d_q J rfl rfl (fun w O=>yH 1 J O rfl rfl rfl isAgg130) rfl fun a J=>?_;refine d_q J rfl rfl (fun w O=>qG 0 (vs:=[.int .i64 ((0:Nat):Int),.int .i64 ((0:Nat):Int)]) J O rfl rfl isAgg180 sizeOf180 rfl rfl) rfl fun a J=>?_;refine d_q1 J rfl rfl (fun w=>jE J rfl) rfl fun a J=>?_;refine aJ J rfl rfl (zQ 2 (cs:=[y.2]) (vs:=[y.2]) J N rfl rfl rfl (N.toSees.gsCells (i:=3) rfl) sizeOf130 rfl (N.toSees.gsOne (i:=3) rfl) rfl fun w N=>⟨fun _=>(show Mem Ψ (.blk Dk (.deferred (some []))::.blk m (ob [.int .i64 ((0:Nat):Int),.int .i64 ((0:Nat):Int)] 180)::.blk g (ob [y.2] 130)::.gs y.2 204 4 (pI y.1)::K) w from N).seesIn (Fz.Le.refl _) (by simp),fun a J=>?_⟩);replace N:Mem Ψ (.blk Dk (.deferred (some []))::.blk m (ob [.int .i64 ((0:Nat):Int),.int .i64 ((0:Nat):Int)] 180)::.blk g (ob [y.2] 130)::.gs y.2 204 4 (pI y.1)::K) w:=N;refine aJ J rfl rfl (zQ 1 (cs:=[.int .i64 ((0:Nat):Int),.int .i64 ((0:Nat):Int)]) (vs:=[.int .i64 ((0:Nat):Int),.int .i64 ((0:Nat):Int)]) J N rfl rfl rfl rfl sizeOf180 rfl rfl rfl fun w N=>⟨jT (by kernel_rfl),fun a J=>?_⟩)
  replace N:Mem Ψ (.blk Dk (.deferred (some []))::.blk m (ob [.int .i64 ((0:Nat):Int),.int .i64 ((0:Nat):Int)] 180)::.blk g (ob [y.2] 130)::.gs y.2 204 4 (pI y.1)::K) w:=N;refine d_done ?_;apply M;refine wp_ret ?_;refine hQ _ _ _ ?_;show mL _ _ _ _ a.defers _ _;rw [J.defs];have D:w.heap[Dk]? = some (.deferred (some [])):=N.own _ msQ;have d:=N.putObj (i:=0) (o':=.deferred none) rfl;refine oN (by simp) D (z0v ?_);refine leaves_cons (f:=143) (args:=#[.pointer (some ⟨g,0,none⟩),.pointer (some ⟨m,0,none⟩)]) (by simp) (call143 _ _) ?_;refine catch_none.mono ?_;rintro e u' w'' ⟨rfl,rfl,rfl⟩;refine ⟨_,q4i (i:=2) (j:=1) J d.toSees results108 rfl rfl rfl isAgg130 rfl rfl isAgg180 sizeOf180 rfl,?_⟩;rw [hG];exact ⟨(b,y.2),rfl,(((d.del 0).del 0).del 0).le le⟩
 ·intro Dk y c a w Y J N
  obtain ⟨e,Z,rfl⟩:=Y;refine hQ _ _ _ ?_;show mL _ _ _ _ a.defers _ _;rw [J.defs];have D:w.heap[Dk]? = some (.deferred (some [])):=N.own _ msQ;have d:=(N.putObj (i:=0) (o':=.deferred none) rfl).pull (i:=2) rfl;replace d:Mem Ψ (.blk g (ob [y.2] 130)::.blk m (ob [.int .i64 ((0:Nat):Int),.int .i64 ((0:Nat):Int)] 180)::.blk Dk (.deferred none)::.gs y.2 204 4 (pI y.1)::K) (w.putObj Dk (.deferred none)):=d.pull (i:=2) rfl |>.pull (i:=1) rfl;refine oN (by simp) D (z0v ?_);refine leaves_cons (f:=143) (args:=#[.pointer (some ⟨g,0,none⟩),.pointer (some ⟨m,0,none⟩)]) (by simp) (call143 _ _) ?_;refine (q0z d).mono ?_;rintro e' u' w'' ⟨rfl,rfl,u⟩;refine ⟨_,q4i (i:=0) (j:=1) J u.toSees results108 rfl rfl rfl isAgg130 rfl rfl isAgg180 sizeOf180 rfl,?_⟩;rw [Z];exact ⟨b,rfl,((((u.del 0).del 0).del 0).del 0).le le⟩
def RTok (_:Fz) (cs:List Value) (x:Tok):Prop:=cs=[.int .i64 x.kind,.int .i64 x.num,.string x.text,.int .i64 x.org]
theorem RTok.mono (Φ Ψ:Fz) (c:List Value) (x:Tok) (_:Φ.Le Ψ) (h:RTok Φ c x):RTok Ψ c x:=h
theorem z1k {Φ:Fz}:∀l:List Tok,Chunks (RTok Φ) 4 (pI l) l
 | []=>rfl
 | k::l=>⟨z1j k,pI l,rfl,rfl,rfl,z1k l⟩
section
variable {s:Bs} {l:List Tok} {c:Nat×Int} {x:Tok}
theorem j6e (h:24 < s.size):gS s=0:=by unfold gS;rw [if_pos h]
theorem q2m (h:¬24 < s.size) (hq:pN s=.error c):gS s=0:=by unfold gS;rw [if_neg h,hq]
theorem kind_ne (h:¬24 < s.size) (hq:pN s=.ok l) (hl:¬l.length=1):gS s=0:=by
 unfold gS;rw [if_neg h,hq]
 match l,hl with
 | [],_=>rfl
 | [k],hl=>exact absurd rfl hl
 | _::_::_,_=>rfl
theorem q2n (hl:l.length=1) (a:l[0]? = some x):l=[x]:=by
 match l,hl,a with
 | [k],_,a=>simp only [List.getElem?_cons_zero,Option.some.injEq] at a;rw [a]
theorem kind_no (h:¬24 < s.size) (hq:pN s=.ok l) (hl:l.length=1) (b:l[0]? = some x) (a:¬x.text=s):gS s=0:=by
 unfold gS;rw [if_neg h,hq,q2n hl b];simp [a]
theorem kind_ok (h:¬24 < s.size) (hq:pN s=.ok l) (hl:l.length=1) (b:l[0]? = some x) (a:x.text=s):gS s=x.kind:=by
 unfold gS;rw [if_neg h,hq,q2n hl b];simp [a]
end
instance:ScT 22:=⟨isAgg22⟩
instance:ScT 24:=⟨isAgg24⟩
instance:AgT 26:=⟨isAgg26⟩
instance:ScT 27:=⟨isAgg27⟩
instance:AgT 36:=⟨isAgg36⟩
instance:ScT 43:=⟨isAgg43⟩
instance:ScT 44:=⟨isAgg44⟩
instance:ScT 45:=⟨isAgg45⟩
instance:ScT 46:=⟨isAgg46⟩
instance:AgT 48:=⟨isAgg48⟩
instance:AgT 50:=⟨isAgg50⟩
instance:ScT 63:=⟨isAgg63⟩
instance:AgT 75:=⟨isAgg75⟩
instance:AgT 79:=⟨isAgg79⟩
instance:ScT 83:=⟨isAgg83⟩
instance:AgT 85:=⟨isAgg85⟩
instance:ScT 87:=⟨isAgg87⟩
instance:ScT 88:=⟨isAgg88⟩
instance:AgT 90:=⟨isAgg90⟩
instance:ScT 97:=⟨isAgg97⟩
instance:ScT 99:=⟨isAgg99⟩
instance:ScT 102:=⟨isAgg102⟩
instance:ScT 105:=⟨isAgg105⟩
instance:ScT 110:=⟨isAgg110⟩
instance:AgT 125:=⟨isAgg125⟩
instance:ScT 130:=⟨isAgg130⟩
instance:ScT 133:=⟨isAgg133⟩
instance:ScT 151:=⟨isAgg151⟩
instance:ScT 152:=⟨isAgg152⟩
instance:ScT 158:=⟨isAgg158⟩
instance:ScT 201:=⟨isAgg201⟩
instance:SzT 22 1:=⟨sizeOf22⟩
instance:SzT 24 1:=⟨sizeOf24⟩
instance:SzT 26 4:=⟨sizeOf26⟩
instance:SzT 36 4:=⟨sizeOf36⟩
instance:SzT 43 1:=⟨sizeOf43⟩
instance:SzT 44 1:=⟨sizeOf44⟩
instance:SzT 45 1:=⟨sizeOf45⟩
instance:SzT 46 1:=⟨sizeOf46⟩
instance:SzT 48 8:=⟨sizeOf48⟩
instance:SzT 50 11:=⟨sizeOf50⟩
instance:SzT 75 2:=⟨sizeOf75⟩
instance:SzT 79 10:=⟨sizeOf79⟩
instance:SzT 83 1:=⟨sizeOf83⟩
instance:SzT 85 3:=⟨sizeOf85⟩
instance:SzT 88 1:=⟨sizeOf88⟩
instance:SzT 90 3:=⟨sizeOf90⟩
instance:SzT 102 1:=⟨sizeOf102⟩
instance:SzT 105 1:=⟨sizeOf105⟩
instance:SzT 125 2:=⟨sizeOf125⟩
instance:SzT 133 1:=⟨sizeOf133⟩
instance:SzT 137 2:=⟨sizeOf137⟩
instance:SzT 151 1:=⟨sizeOf151⟩
instance:SzT 152 1:=⟨sizeOf152⟩
instance:SzT 226 11:=⟨sizeOf226⟩
instance:FoT 26 0 0:=⟨fo_26_0⟩
instance:FoT 26 1 1:=⟨fo_26_1⟩
instance:FoT 26 2 2:=⟨fo_26_2⟩
instance:FoT 26 3 3:=⟨fo_26_3⟩
instance:FoT 36 0 0:=⟨fo_36_0⟩
instance:FoT 36 1 1:=⟨fo_36_1⟩
instance:FoT 36 2 2:=⟨fo_36_2⟩
instance:FoT 36 3 3:=⟨fo_36_3⟩
instance:FoT 48 0 0:=⟨j1g⟩
instance:FoT 48 1 1:=⟨fo_48_1⟩
instance:FoT 48 2 2:=⟨fo_48_2⟩
instance:FoT 48 3 3:=⟨fo_48_3⟩
instance:FoT 48 4 4:=⟨fo_48_4⟩
instance:FoT 48 5 5:=⟨j1h⟩
instance:FoT 48 6 6:=⟨fo_48_6⟩
instance:FoT 48 7 7:=⟨j1i⟩
instance:FoT 50 0 0:=⟨fo_50_0⟩
instance:FoT 50 1 1:=⟨fo_50_1⟩
instance:FoT 50 2 2:=⟨fo_50_2⟩
instance:FoT 50 3 3:=⟨fo_50_3⟩
instance:FoT 75 0 0:=⟨j1j⟩
instance:FoT 75 1 1:=⟨fo_75_1⟩
instance:FoT 79 0 0:=⟨y8i⟩
instance:FoT 79 1 1:=⟨y8j⟩
instance:FoT 79 2 2:=⟨fo_79_2⟩
instance:FoT 85 0 0:=⟨fo_85_0⟩
instance:FoT 85 1 1:=⟨fo_85_1⟩
instance:FoT 85 2 2:=⟨fo_85_2⟩
instance:FoT 90 0 0:=⟨j1k⟩
instance:FoT 90 1 1:=⟨j1l⟩
instance:FoT 90 2 2:=⟨z7k⟩
instance:FoT 101 0 0:=⟨j9s⟩
instance:FoT 101 1 1:=⟨j9t⟩
instance:FoT 101 2 2:=⟨j9u⟩
instance:FoT 101 3 3:=⟨j9v⟩
instance:FoT 109 0 0:=⟨j9w⟩
instance:FoT 109 1 4:=⟨j9x⟩
instance:FoT 125 0 0:=⟨j9y⟩
instance:FoT 125 1 1:=⟨j9z⟩
instance:FoT 135 0 0:=⟨x0a⟩
instance:FoT 135 1 1:=⟨x0b⟩
instance:FoT 135 2 2:=⟨x0c⟩
instance:FoT 137 0 0:=⟨x0d⟩
instance:FoT 160 0 0:=⟨x0e⟩
instance:FoT 160 1 4:=⟨x0f⟩
instance:FoT 160 2 5:=⟨x0g⟩
instance:FoT 160 3 6:=⟨x0h⟩
instance:FoT 199 0 0:=⟨x0k⟩
instance:FoT 199 1 1:=⟨x0l⟩
instance:FoT 199 2 2:=⟨x0m⟩
instance:FoT 199 3 3:=⟨x0n⟩
instance:FoT 199 4 4:=⟨x0o⟩
instance:FoT 180 0 0:=⟨x0i⟩
instance:SlT 22 85:=⟨runUnderlying22⟩
instance:SlT 24 50:=⟨runUnderlying24⟩
instance:SlT 27 36:=⟨runUnderlying27⟩
instance:SlT 43 125:=⟨runUnderlying43⟩
instance:SlT 44 75:=⟨runUnderlying44⟩
instance:SlT 45 79:=⟨runUnderlying45⟩
instance:SlT 46 48:=⟨runUnderlying46⟩
instance:SlT 83 4:=⟨runUnderlying83⟩
instance:SlT 87 88:=⟨runUnderlying87⟩
instance:ZeT 26 [.slice none 0 0,.slice none 0 0,.slice none 0 0,.slice none 0 0]:=⟨_,zeroValue26,rfl⟩
instance:ZeT 27 [.slice none 0 0]:=⟨_,zeroValue27,rfl⟩
instance:ZeT 36 [.int .i64 ((0:Nat):Int),.int .i64 ((0:Nat):Int),.slice none 0 0,.int .i64 ((0:Nat):Int)]:=⟨_,zeroValue36,rfl⟩
instance:ZeT 44 [.slice none 0 0]:=⟨_,zeroValue44,rfl⟩
instance:ZeT 48 [.int .i64 ((0:Nat):Int),.string ⟨#[]⟩,.string ⟨#[]⟩,.int .i64 ((0:Nat):Int),.int .i64 ((0:Nat):Int),.slice none 0 0,.slice none 0 0,.slice none 0 0]:=⟨_,zeroValue48,rfl⟩
instance:ZeT 50 [.string ⟨#[]⟩,.bool false,.slice none 0 0,.int .i64 ((0:Nat):Int),.string ⟨#[]⟩,.string ⟨#[]⟩,.int .i64 ((0:Nat):Int),.int .i64 ((0:Nat):Int),.slice none 0 0,.slice none 0 0,.slice none 0 0]:=⟨_,zeroValue50,rfl⟩
instance:ZeT 75 [.string ⟨#[]⟩,.int .i64 ((0:Nat):Int)]:=⟨_,zeroValue75,rfl⟩
instance:ZeT 79 [.string ⟨#[]⟩,.slice none 0 0,.int .i64 ((0:Nat):Int),.string ⟨#[]⟩,.string ⟨#[]⟩,.int .i64 ((0:Nat):Int),.int .i64 ((0:Nat):Int),.slice none 0 0,.slice none 0 0,.slice none 0 0]:=⟨_,zeroValue79,rfl⟩
instance:ZeT 85 [.string ⟨#[]⟩,.string ⟨#[]⟩,.slice none 0 0]:=⟨_,zeroValue85,rfl⟩
instance:ZeT 88 [.pointer none]:=⟨_,zeroValue88,rfl⟩
instance:ZeT 90 [.slice none 0 0,.slice none 0 0,.pointer none]:=⟨_,zeroValue90,rfl⟩
instance:ZeT 102 [.pointer none]:=⟨_,zeroValue102,rfl⟩
instance:ZeT 105 [.pointer none]:=⟨_,zeroValue105,rfl⟩
instance:ZeT 125 [.string ⟨#[]⟩,.bool false]:=⟨_,zeroValue125,rfl⟩
instance:ZeT 133 [.pointer none]:=⟨_,zeroValue133,rfl⟩
instance:ZeT 137 [.int .i64 ((0:Nat):Int),.int .i64 ((0:Nat):Int)]:=⟨_,zeroValue137,rfl⟩
instance:ZeT 151 [.map none]:=⟨_,zeroValue151,rfl⟩
instance:ZeT 152 [.nilFunc]:=⟨_,zeroValue152,rfl⟩
instance:ZeT 226 [.nilFunc,.nilFunc,.nilFunc,.nilFunc,.nilFunc,.nilFunc,.nilFunc,.nilFunc,.nilFunc,.nilFunc,.nilFunc]:=⟨_,zeroValue226,rfl⟩
instance:BzT 26 [.slice none 0 0,.slice none 0 0,.slice none 0 0,.slice none 0 0] [0,1,2,3]:=⟨trivial⟩
instance:BzT 36 [.int .i64 ((0:Nat):Int),.int .i64 ((0:Nat):Int),.slice none 0 0,.int .i64 ((0:Nat):Int)] [0,1,2,3]:=⟨trivial⟩
instance:BzT 48 [.int .i64 ((0:Nat):Int),.string ⟨#[]⟩,.string ⟨#[]⟩,.int .i64 ((0:Nat):Int),.int .i64 ((0:Nat):Int),.slice none 0 0,.slice none 0 0,.slice none 0 0] [0,1,2,3,4,5,6,7]:=⟨trivial⟩
instance:BzT 50 [.string ⟨#[]⟩,.bool false,.slice none 0 0,.int .i64 ((0:Nat):Int),.string ⟨#[]⟩,.string ⟨#[]⟩,.int .i64 ((0:Nat):Int),.int .i64 ((0:Nat):Int),.slice none 0 0,.slice none 0 0,.slice none 0 0] [0,1,2,3]:=⟨trivial⟩
instance:BzT 75 [.string ⟨#[]⟩,.int .i64 ((0:Nat):Int)] [0,1]:=⟨trivial⟩
instance:BzT 79 [.string ⟨#[]⟩,.slice none 0 0,.int .i64 ((0:Nat):Int),.string ⟨#[]⟩,.string ⟨#[]⟩,.int .i64 ((0:Nat):Int),.int .i64 ((0:Nat):Int),.slice none 0 0,.slice none 0 0,.slice none 0 0] [0,1,2]:=⟨trivial⟩
instance:BzT 85 [.string ⟨#[]⟩,.string ⟨#[]⟩,.slice none 0 0] [0,1,2]:=⟨trivial⟩
instance:BzT 90 [.slice none 0 0,.slice none 0 0,.pointer none] [0,1,2]:=⟨trivial⟩
instance:BzT 101 [.pointer none,.pointer none,.map none,.map none] [0,1,2,3]:=⟨trivial⟩
instance:BzT 109 [.slice none 0 0,.slice none 0 0,.slice none 0 0,.slice none 0 0,.map none] [0,4]:=⟨trivial⟩
instance:BzT 125 [.string ⟨#[]⟩,.bool false] [0,1]:=⟨trivial⟩
instance:BzT 135 [.slice none 0 0,.int .i64 ((0:Nat):Int),.int .i64 ((0:Nat):Int)] [0,1,2]:=⟨trivial⟩
instance:BzT 137 [.int .i64 ((0:Nat):Int),.int .i64 ((0:Nat):Int)] [0,1]:=⟨trivial⟩
instance:BzT 160 [.slice none 0 0,.slice none 0 0,.slice none 0 0,.slice none 0 0,.map none,.map none,.map none] [0,4,5,6]:=⟨trivial⟩
instance:BzT 189 [] []:=⟨trivial⟩
instance:BzT 199 [.pointer none,.pointer none,.map none,.map none,.slice none 0 0] [0,1,2,3,4]:=⟨trivial⟩
instance:BzT 226 [.nilFunc,.nilFunc,.nilFunc,.nilFunc,.nilFunc,.nilFunc,.nilFunc,.nilFunc,.nilFunc,.nilFunc,.nilFunc] [0,1,2,3,4,5,6,7,8,9,10]:=⟨trivial⟩
def v0:Val:=.mk sNo 0 []
def z3x (n:Int):Val:=.mk sNo n []
def sTrue:Bs:=⟨#[84,114,117,101]⟩
def q9k:Bs:=⟨#[70,97,108,115,101]⟩
def sJ (b:Bool):Val:=.mk (if b then sTrue else q9k) 0 []
def zX (op:Bs) (a b:Int):Val :=
 if op=⟨#[43]⟩ then z3x (IntKind.i64.wrap (a+b))
 else if op=⟨#[45]⟩ then z3x (IntKind.i64.wrap (a - b))
 else if op=⟨#[42]⟩ then z3x (IntKind.i64.wrap (a * b))
 else if op=⟨#[60]⟩ then sJ (decide (a < b))
 else if op=⟨#[61]⟩ then sJ (decide (a=b))
 else if b=0 then v0
 else if op=⟨#[47]⟩ then z3x (IntKind.i64.wrap (a.tdiv b))
 else z3x (a.tmod b)
section
variable (T:Table) (e:Ex) (s:Scope)
end
theorem yJ {α:Type} (s:List (Bs×α)) (k n:Bs) (x:α):zK (qT s k x) n=if n=k then some x else zK s n:=by
 induction s with
 | nil=>simp [qT,zK]
 | cons p s c=>
  obtain ⟨q,y⟩:=p;simp only [qT];split
  ·subst_vars;simp only [zK];split <;> rfl
  ·simp only [zK,c]
   by_cases a:n=q
   ·subst a
    rename_i b;rw [if_pos rfl,if_pos rfl,if_neg (fun e=>b e.symm)]
   ·rw [if_neg a,if_neg a]
section
variable {α:Type}
end
theorem j6c:vC sNo=false:=by decide
section
variable {P:Program} {n:Nat} {E:List (Nat×Value)} {D:List Deferred} {a:Act} {Φ Ψ:Fz} {K:List Res} {w:World}
variable {dst:Option Tmp} {ty:TypeId} {pos:String} {aft:Array Edge} {g:Option (Nat×Bool)}
variable {Kn:Value->World->Prop} {Qp:List PanicEntry->World->Prop}
def z9u:List (Int×Value)->Int->Option Value
 | [],_=>none
 | (k,v)::m,s=>if s=k then some v else z9u m s
def y8x:List (Int×Value)->Int->Value->List (Int×Value)
 | [],s,x=>[(s,x)]
 | (k,v)::m,s,x=>if s=k then (k,x)::m else (k,v)::y8x m s x
def sZ:List (Int×Value)->Int->Nat->Option (Nat×Value)
 | [],_,_=>none
 | (k,v)::m,s,i=>if s=k then some (i,v) else sZ m s (i+1)
theorem z2j:∀(es:List MapEntry) (m:List (Int×Value)) (s:Int) (i:Nat),es.map (fun e=>(e.key,e.val))=m.map (fun p=>(Value.int .i64 p.1,p.2)) ->
  Instr.findNow (.int .i64) (.int .i64 s) es i=some (sZ m s i)
 | [],[],_,_,_=>rfl
 | [],_::_,_,_,h=>by simp at h
 | _::_,[],_,_,h=>by simp at h
 | e::es,(k,v)::m,s,i,h=>by
  simp only [List.map_cons,List.cons.injEq,Prod.mk.injEq] at h;obtain ⟨⟨a,b⟩,c⟩:=h;simp only [Instr.findNow,a,Instr.sameNow,if_true,sZ];by_cases O:s=k
  ·subst O;simp [b]
  ·have hb:(s==k)=false:=by simpa using O
   simp only [hb,if_neg O];exact z2j es m s (i+1) c
theorem y5r:∀(m:List (Int×Value)) (s:Int) (i:Nat),(sZ m s i).map (·.2)=z9u m s
 | [],_,_=>rfl
 | (k,v)::m,s,i=>by
  simp only [sZ,z9u];split
  ·rfl
  ·exact y5r m s (i+1)
theorem z0f {kt:TypeId} (a:Under P kt (.int .i64)) (e:Bool) (v:Value) (j:Nat):(Instr.checkKey e (j+1) kt v).run P w=.ok () w:=by
 simp [Instr.checkKey,Sem.run_bind,a w]
theorem z3r {kt:TypeId} (a:Under P kt (.int .i64)) {es:Array MapEntry} {m:List (Int×Value)} (h:es.toList.map (fun e=>(e.key,e.val))=m.map (fun p=>(Value.int .i64 p.1,p.2))) (s:Int) :
  (Instr.findKey kt (.int .i64 s) es.toList).run P w=.ok (sZ m s 0) w:=by
 simp [Instr.findKey,Sem.run_bind,a w,z2j _ _ _ _ h]
theorem q4r {t kt et:TypeId} {b:Nat} {es:Array MapEntry} {clock:Nat} {m:List (Int×Value)} {z:Value} (d:Under P t (.map kt et)) (a:Under P kt (.int .i64)) (e:ZeroT P et z)
  (hb:w.heap[b]? = some (.map es clock)) (h:MapOkI es clock m) (s:Int) (ok:Bool) :
  (Instr.lookup t (.map (some b)) (.int .i64 s) ok).run P w=.ok (yA ok z (z9u m s)) w:=by
 have c:(getObj b).run P w=.ok (.map es clock) w:=by simp [getObj,Sem.run,hb]
 simp only [Instr.lookup,Sem.run_bind,d w,Result.andThen_ok,c,Sem.run_pure,z0f a,z3r a h.eq];have:=y5r m s 0;cases N:sZ m s 0 with
 | none=>rw [N] at this;simp only [Option.map_none] at this;rw [<- this];simp [e w,yA]
 | some p=>rw [N] at this;simp only [Option.map_some] at this;rw [<- this];simp [yA]
theorem gE (i:Nat) {t kt et:TypeId} {x y:Operand} {b:Nat} {m:List (Int×Value)} {z:Value} {s:Int} {ok:Bool} (g:Under P t (.map kt et)) (f:Under P kt (.int .i64)) (k:ZeroT P et z)
  (J:EnvR n E D a) (N:Sees Φ K w) (h:ev E x=some (.map (some b))) (j:ev E y=some (.int .i64 s)) (e:yU K i=some (.imp b m)):Ok P a (.lookup t x y ok) ty w (yA ok z (z9u m s)):=fun _ _ _ _=>by
 obtain ⟨es,clock,c,d⟩:=N.own _ (yR e);simp only [execOp,J.ev h,J.ev j]
 simp [Sem.run_bind,q4r g f k c d]
theorem z2g {t:TypeId} (N:Mem Φ K w) (k:∀b w',Mem Φ (.imp b []::K) w'->Kn (.map (some b)) w'):Oper.eff P ⟨dst,.makeMap t none,ty,pos,aft,g⟩ a w Kn Qp:=by
 unfold Oper.eff
 have:(execOp a.eval ⟨dst,.makeMap t none,ty,pos,aft,g⟩).run P w=.ok (.value (.map (some w.heap.size))) { w with heap:=w.heap.push (.map #[] 0) }:=by
  simp [execOp,Instr.makeMap]
 rw [this];refine k _ _ (N.more rfl rfl (fun b hb=>wN hb) ⟨#[],0,by simp,by simp,by simp,by simp⟩ (by simp [Res.foot]))
theorem j1w:∀(m:List (Int×Value)) (s:Int) (v:Value) (j:Nat),y8x m s v=match sZ m s j with | none=>m++[(s,v)] | some (i,_)=>m.set (i - j) (s,v)
 | [],_,_,_=>rfl
 | (k,x)::m,s,v,j=>by
  simp only [y8x,sZ];split
  ·subst_vars;simp
  ·have:=j1w m s v (j+1)
   rw [this]
   have a:∀(m:List (Int×Value)) (j i:Nat) (y:Value),sZ m s j=some (i,y)->j<=i:=by
    intro m
    induction m with
    | nil=>intro j i y h;simp [sZ] at h
    | cons p m b=>
     intro j i y h;obtain ⟨k,x⟩:=p;simp only [sZ] at h;split at h
     ·simp only [Option.some.injEq,Prod.mk.injEq] at h;omega
     ·have:=b (j+1) i y h;omega
   cases N:sZ m s (j+1) with
   | none=>simp
   | some p=>
    obtain ⟨i,y⟩:=p;have c:=a m (j+1) i y N;have e:i - j=(i - (j+1))+1:=by omega
    simp only [e,List.set_cons_succ]
theorem q2e:∀(m:List (Int×Value)) (s:Int) (j i:Nat) (y:Value),sZ m s j=some (i,y)->m[i - j]? = some (s,y)/\j<=i
 | [],_,_,_,_,h=>by simp [sZ] at h
 | (k,x)::m,s,j,i,y,h=>by
  simp only [sZ] at h;split at h
  ·simp only [Option.some.injEq,Prod.mk.injEq] at h
   obtain ⟨rfl,rfl⟩:=h;subst_vars;simp
  ·obtain ⟨a,b⟩:=q2e m s (j+1) i y h
   have e:i - j=(i - (j+1))+1:=by omega
   exact ⟨by rw [e];simpa using a,by omega⟩
theorem sW (i:Nat) {t kt et:TypeId} {x y z:Operand} {b:Nat} {m:List (Int×Value)} {s:Int} {v:Value} (X:Under P t (.map kt et)) (T:Under P kt (.int .i64))
  (J:EnvR n E D a) (N:Mem Φ K w) (F:ev E x=some (.map (some b))) (Y:ev E y=some (.int .i64 s)) (Z:ev E z=some v) (R:yU K i=some (.imp b m))
  (k:∀w',Mem Φ (wA K i (.imp b (y8x m s v))) w'->Kn undef w'):Oper.eff P ⟨dst,.mapUpdate t x y z,ty,pos,aft,g⟩ a w Kn Qp:=by
 obtain ⟨es,clock,hb,f⟩:=N.own _ (yR R);have U:(getObj b).run P w=.ok (.map es clock) w:=by simp [getObj,Sem.run,hb]
 have L:b < w.heap.size:=(Array.getElem?_eq_some_iff.1 hb).1;have u:∀o,(setObj b o).run P w=.ok () { w with heap:=w.heap.setIfInBounds b o }:=fun o=>by simp only [setObj,Sem.run,hb]
 have fin:∀es' clock',MapOkI es' clock' (y8x m s v)->Mem Φ (wA K i (.imp b (y8x m s v))) { w with heap:=w.heap.setIfInBounds b (.map es' clock') }:=fun es' clock' h=>
  N.upd R rfl rfl (fun c S M=>by simp only;rw [Array.getElem?_setIfInBounds_ne (fun e=>M (by simp [Res.foot,e]))]) ⟨es',clock',by simp [L],h⟩ (.inl rfl)
 unfold Oper.eff;simp only [execOp,J.ev F,J.ev Y,J.ev Z,Instr.mapUpdate,Sem.run_bind,X w,Result.andThen_ok,U,z0f T,z3r T f.eq];have d:=j1w m s v 0;cases C:sZ m s 0 with
 | none=>
  rw [C] at d;simp only at d;simp only [u,Result.andThen_ok,Sem.run_pure,kK];refine k _ (fin _ _ ⟨?_,?_,?_⟩)
  ·rw [d];simp [f.eq]
  ·intro e J
   simp only [Array.toList_push,List.mem_append,List.mem_singleton] at J;rcases J with J | rfl
   ·have:=f.old e J;omega
   ·simp
  ·simp only [Array.toList_push,List.map_append,List.map_cons,List.map_nil]
   rw [List.nodup_append];refine ⟨f.nodup,by simp,fun b hb c S V=>?_⟩;simp only [List.mem_singleton] at S;obtain ⟨e,J,rfl⟩:=List.mem_map.1 hb;have:=f.old e J;omega
 | some p=>
  obtain ⟨j,y⟩:=p;rw [C] at d;simp only [Nat.sub_zero] at d;obtain ⟨H,_⟩:=q2e m s 0 j y C;simp only [Nat.sub_zero] at H
  have l:es.toList[j]?.map (fun e=>(e.key,e.val))=some (Value.int .i64 s,y):=by
   rw [<- List.getElem?_map,f.eq,List.getElem?_map,H];rfl
  obtain ⟨e,A,G⟩:∃e,es[j]? = some e/\e.key=.int .i64 s:=by
   cases h:es[j]? with
   | none=>
    have h':es.toList[j]? = none:=by simpa using h
    rw [h'] at l;cases l
   | some e=>
    have h':es.toList[j]? = some e:=by simpa using h
    rw [h'] at l;simp only [Option.map_some,Option.some.injEq,Prod.mk.injEq] at l;exact ⟨e,rfl,l.1⟩
  have I:(Instr.keyThatStays (((es[j]?).map (·.key)).getD (.int .i64 s)) (.int .i64 s)).run P w=.ok (.int .i64 s) w:=by
   simp [A,G,Instr.keyThatStays,Instr.sameBits,wL]
  simp only [Sem.run_bind,I,u,Result.andThen_ok,Sem.run_pure,kK];have W:j < es.size:=(Array.getElem?_eq_some_iff.1 A).1;have B:(es.modify j fun e=>{ e with key:=Value.int .i64 s,val:=v }).toList=es.toList.modify j (fun e=>{ e with key:=Value.int .i64 s,val:=v }):=by simp
  refine k _ (fin _ _ ⟨?_,?_,?_⟩)
  ·rw [B,d]
   apply List.ext_getElem?;intro q;have hq:es.toList[q]?.map (fun e=>(e.key,e.val))=m[q]?.map (fun p=>(Value.int .i64 p.1,p.2)):=by rw [<- List.getElem?_map,f.eq,List.getElem?_map]
   simp only [List.getElem?_map,List.getElem?_modify,List.getElem?_set];by_cases r:j=q
   ·subst r
    have hml':j < m.length:=(List.getElem?_eq_some_iff.1 H).1;have h':es.toList[j]? = some e:=by simpa using A
    simp [h',hml']
   ·have hq':=hq
    simp only [Array.getElem?_toList] at hq'
    simp [r,hq']
  ·intro x F
   rw [B] at F;obtain ⟨q,hq⟩:=List.mem_iff_getElem?.1 F;rw [List.getElem?_modify] at hq;cases hz':es.toList[q]? with
   | none=>rw [hz'] at hq;simp at hq
   | some e'=>
    rw [hz'] at hq;have hb':=f.old e' (mgQ hz');have Q:=Option.some.inj hq;rw [<- Q];show (if j=q then _ else _:MapEntry).born < clock;by_cases r:j=q
    ·rw [if_pos r];exact hb'
    ·rw [if_neg r];exact hb'
  ·rw [B]
   have:(es.toList.modify j (fun e=>{ e with key:=Value.int .i64 s,val:=v })).map (·.born)=es.toList.map (·.born):=by
    apply List.ext_getElem?;intro q;simp only [List.getElem?_map,List.getElem?_modify];cases es.toList[q]? with
    | none=>simp
    | some e'=>simp;split <;> rfl
   rw [this];exact f.nodup
theorem mC (i:Nat) {t kt et:TypeId} {x y z:Operand} {b:Nat} {m:List (Int×Value)} {s:Int} {v:Value} (e:Under P t (.map kt et)) (d:Under P kt (.int .i64))
  (J:EnvR n E D a) (N:Mem Φ K w) (f:ev E x=some (.map (some b))) (h:ev E y=some (.int .i64 s)) (j:ev E z=some v) (c:yU K i=some (.imp b m))
  (k:∀w',Mem Φ (wA K i (.imp b (y8x m s v))) w'->Kn undef w'):Oper.eff P ⟨dst,.insert t x y z,ty,pos,aft,g⟩ a w Kn Qp :=
 show Oper.eff P ⟨dst,.mapUpdate t x y z,ty,pos,aft,g⟩ a w Kn Qp from sW i e d J N f h j c k
end
section
variable {P:Program} {n:Nat} {E:List (Nat×Value)} {D:List Deferred} {a:Act} {Φ:Fz} {K:List Res} {w:World}
variable {Kn:Value->World->Prop} {Qp:List PanicEntry->World->Prop} {dst:Option Tmp} {ty:TypeId} {pos:String} {aft:Array Edge} {g:Option (Nat×Bool)}
theorem uE {α β ε:Type} {f:FuncId} {xs:Array Operand} {ts:Array TypeId} {vs:List Value} {r:Except ε α} {X:α->β->Value} {Z:ε->Value} {F1:α->β->Fz} {d:Fz} {KO:α->β->List Res} {KE:List Res} {G:α->β->Prop}
  (J:EnvR n E D a) (o:evs E xs.toList=some vs) (m:∀args w,(callFunc f args).run P w=.ok (.enter f args) w)
  (l:Calls P f vs.toArray w (fun e w'=>Out r (fun x=>∃y,e=.returned (X x y)/\G x y/\Mem (F1 x y) (KO x y) w') (fun c=>e=.returned (Z c)/\Mem d KE w')))
  (k:∀x y w',r=.ok x->G x y->Mem (F1 x y) (KO x y) w'->Kn (X x y) w') (kp:∀c w',r=.error c->Mem d KE w'->Kn (Z c) w') :
  Oper.eff P ⟨dst,.call { callee:=.value (.func f),args:=xs,argTypes:=ts },ty,pos,aft,g⟩ a w Kn Qp:=by
 refine mQ J o m l (fun v w' h=>?_) (fun c w' h=>?_) (fun w' h=>?_)
 ·cases r with
  | ok x=>obtain ⟨y,b,i,j⟩:=h;cases b;exact k _ _ _ rfl i j
  | error c=>obtain ⟨b,i⟩:=h;cases b;exact kp _ _ rfl i
 ·cases r with
  | ok x=>obtain ⟨y,b,_⟩:=h;cases b
  | error c=>obtain ⟨b,i⟩:=h;cases b
 ·cases r with
  | ok x=>obtain ⟨y,b,_⟩:=h;cases b
  | error c=>obtain ⟨b,_⟩:=h;cases b
theorem qU {fn:Func} {R:Ending->World->Prop} {t u T b k i:Nat} {cs:List Value} {T0:TypeId} {x:Value} (J:EnvR n E [] a) (N:Sees Φ K w) (j:fn.results=#[.cell t T,.tmp u]) (c:get E t=some (.pointer (some ⟨b,0,none⟩)))
  (g:yU K i=some (.blk b (ob cs T0))) (f:AggT P T) (e:SizeT P T k) (hl:cs.length=k) (l:get E u=some x) (h:R (.returned (.tuple #[.agg cs.toArray,x])) w):bodyPost P fn R .ret a w:=by
 refine ⟨J.defs,_,?_,h⟩;have d:=q1a (P:=P) J N c g f e hl
 simp [results,j,Array.getD_eq_getD_getElem?,J.env t _ c,J.env u _ l,asAddr,d,Sem.run_bind,Result.andThen]
theorem q9f {fn:Func} {R:Ending->World->Prop} {t u d T b k i:Nat} {cs:List Value} {T0:TypeId} {x f:Value} (J:EnvR n E [] a) (N:Sees Φ K w) (o:fn.results=#[.cell t T,.tmp u,.tmp d]) (e:get E t=some (.pointer (some ⟨b,0,none⟩)))
  (m:yU K i=some (.blk b (ob cs T0))) (l:AggT P T) (j:SizeT P T k) (hl:cs.length=k) (p:get E u=some x) (c:get E d=some f) (h:R (.returned (.tuple #[.agg cs.toArray,x,f])) w):bodyPost P fn R .ret a w:=by
 refine ⟨J.defs,_,?_,h⟩;have g:=q1a (P:=P) J N e m l j hl
 simp [results,o,Array.getD_eq_getD_getElem?,J.env t _ e,J.env u _ p,J.env d _ c,asAddr,g,Sem.run_bind,Result.andThen]
end
section
variable {P:Program} {n:Nat} {E:List (Nat×Value)} {D:List Deferred} {a:Act} {Φ:Fz} {K:List Res} {w:World} {ty:TypeId}
theorem mY (i m:Nat) {x:Operand} {t e T:TypeId} {k:Nat} {v:Value} {cs:List Value} (J:EnvR n E D a) (O:Sees Φ K w) (h:ev E x=some v) (f:yU K i=some (.gs v T k cs)) (hl:cs.length=m * k) (b:0 < k) (g:Under P t (.slice e)) :
  Ok P a (.call { callee:=.builtin .len,args:=#[x],argTypes:=#[t] }) ty w (.int .i64 m):=by
 obtain ⟨p,m',c,rfl,d,_⟩:=O.gsForm f;have:m'=m:=Nat.eq_of_mul_eq_mul_right b (d.symm.trans hl);subst this;exact aH J h g
end
section
variable {P:Program} {n:Nat} {E:List (Nat×Value)} {D:List Deferred} {a:Act} {Φ Ψ:Fz} {K:List Res} {w:World}
variable {Kn:Value->World->Prop} {Qp:List PanicEntry->World->Prop} {dst:Option Tmp} {ty:TypeId} {pos:String} {aft:Array Edge} {g:Option (Nat×Bool)}
theorem cE {f:FuncId} {xs:Array Operand} {ts:Array TypeId} {vs:List Value} {c:List PanicEntry} {b:Fz} {KE:List Res}
  (J:EnvR n E D a) (j:evs E xs.toList=some vs) (i:∀args w,(callFunc f args).run P w=.ok (.enter f args) w)
  (d:Calls P f vs.toArray w (fun e w'=>e=.panicked c/\Mem b KE w')) (kp:∀w',Mem b KE w'->Qp c w') :
  Oper.eff P ⟨dst,.call { callee:=.value (.func f),args:=xs,argTypes:=ts },ty,pos,aft,g⟩ a w Kn Qp :=
 mQ J j i d (fun v w' h=>by cases h.1) (fun c w' h=>by cases h.1;exact kp _ h.2) (fun w' h=>by cases h.1)
end
theorem q9p (pre xs:List Value) (k:Nat) (vs:List Value):jP (pre++xs) (pre.length+k) vs=pre++jP xs k vs:=by
 rw [xN,xN,List.take_append,List.drop_append];simp only [show pre.length+k - pre.length=k from by omega,show pre.length+k+vs.length - pre.length=k+vs.length from by omega];rw [List.take_of_length_le (by omega),show pre.drop (pre.length+k+vs.length)=[] from List.drop_eq_nil_of_le (by omega)]
 simp
section
variable {P:Program} {n:Nat} {E:List (Nat×Value)} {D:List Deferred} {a:Act} {Φ:Fz} {K:List Res} {w:World}
variable {dst:Option Tmp} {ty:TypeId} {pos:String} {aft:Array Edge} {g:Option (Nat×Bool)} {Kn:Value->World->Prop} {Qp:List PanicEntry->World->Prop}
theorem q7o (i j:Nat) {x y:Operand} {T T0:TypeId} {b k:Nat} {v:Value} {pre cs vs:List Value} (J:EnvR n E D a) (N:Mem Φ K w)
  (l:ev E x=some (.pointer (some ⟨b,pre.length+j,none⟩))) (m:ev E y=some v) (h:yU K i=some (.blk b (ob (pre++cs) T0))) (e:v.cells.toList=vs) (d:SizeT P T k) (hl:vs.length=k)
  (c:vs.all Value.oneCell'=true) (f:Nat.ble (j+vs.length) cs.length=true)
  (kk:∀w',Mem Φ (wA K i (.blk b (ob (pre++jP cs j vs) T0))) w'->Kn undef w'):Oper.eff P ⟨dst,.store T x y,ty,pos,aft,g⟩ a w Kn Qp :=
 zQ i J N l m h e d hl c (by simp only [laQ,Nat.ble_eq] at f ⊢;omega) (by rw [q9p];exact kk)
theorem mJ (i j:Nat) {x:Operand} {T:TypeId} {b:Nat} {pre cs:List Value} {t:TypeId} {v:Value} {ty:TypeId} (J:EnvR n E D a) (N:Sees Φ K w)
  (f:ev E x=some (.pointer (some ⟨b,pre.length+j,none⟩))) (e:yU K i=some (.blk b (ob (pre++cs) t))) (c:nth cs j=some v) (d:Scalar P T):Ok P a (.load T x) ty w v :=
 yH i J N f e (by rw [tJ] at c ⊢;rw [List.getElem?_append_right (by omega),show pre.length+j - pre.length=j from by omega];exact c) d
end
section
variable {n:Nat} {D:List Deferred} {Φ Φ':Fz} {K K':List Res} {w:World} {A B:Act->World->Prop} {E E':List (Nat×Value)} {d:Nat} {S:World->Prop} {Qp:List PanicEntry->World->Prop} {cs vs:List Value} {R:Ending->World->Prop} {f:FuncId} {xs:Array Operand} {ts:Array TypeId} {T:TypeId} {x y:Operand} {v:Value} {a:Act}
theorem Mem.nq (N:Mem Φ K w) (h:K=K':=by first | (dsimp only [List.cons_append,List.nil_append];try rfl;all_goals fail) | rfl):Mem Φ K' w:=h▸N
theorem Mem.nm (N:Mem Φ K w) (h:K=K':=by first | (dsimp only [wA,z0a,cZ,uZ,jP,z1b,List.cons_append];try rfl;all_goals fail) | rfl):Mem Φ K' w:=h▸N
theorem oneM (h:vs.all Value.oneCell'=true:=by first | rfl | (repeat first | exact rfl | refine kC (by first | rfl | assumption | exact Sees.gsOne (i:=0) N.toSees rfl | exact Sees.gsOne (i:=1) N.toSees rfl | exact Sees.gsOne (i:=2) N.toSees rfl | exact Sees.gsOne (i:=3) N.toSees rfl | exact Sees.gsOne (i:=4) N.toSees rfl | exact Sees.gsOne (i:=5) N.toSees rfl | exact Sees.gsOne (i:=6) N.toSees rfl) ?_)):vs.all Value.oneCell'=true:=h
theorem qN (i j:Nat) {T0:TypeId} {b k:Nat} {pre:List Value} (kk:∀w,Mem Φ K' w->∀a,EnvR n E' D a->B a w) (J:EnvR n E D a:=by exact J) (N:Mem Φ K w:=by exact N) (e:AtE0 n D Φ K w A E E' (.store T x y) S B Qp:=by exact y7v) (l:SzT T k:=by infer_instance)
  (p:yU K i=some (.blk b (ob (pre++cs) T0)):=by rfl) (q:ev E' x=some (.pointer (some ⟨b,pre.length+j,none⟩)):=by rfl) (r:ev E' y=some v:=by rfl) (m:v.cells.toList=vs:=by exact y8c) (hl:vs.length=k:=by rfl)
  (d:vs.all Value.oneCell'=true:=by exact oneC) (o:Nat.ble (j+vs.length) cs.length=true:=by rfl) (c:wA K i (.blk b (ob (pre++jP cs j vs) T0))=K':=by exact nfK) (f:∀w,Mem Φ K' w->S w:=by intro w N;exact lnS):A a w :=
 e.h N.toSees (fun a ty pos aft g J=>q7o i j J N q r p m l.h hl d o fun w N=>⟨f w (c▸N),fun a J=>kk w (c▸N) a J⟩) a J
theorem aS (i:Nat) {T0:TypeId} {b off k:Nat} (kk:∀w,Mem Φ K' w->∀a,EnvR n E' D a->B a w) (J:EnvR n E D a:=by exact J) (N:Mem Φ K w:=by exact N) (e:AtE0 n D Φ K w A E E' (.store T x y) S B Qp:=by exact y7v) (j:SzT T k:=by infer_instance)
  (p:ev E' x=some (.pointer (some ⟨b,off,none⟩)):=by rfl) (q:ev E' y=some v:=by rfl) (o:yU K i=some (.blk b (ob cs T0)):=by rfl) (l:v.cells.toList=vs:=by exact y8c) (hl:vs.length=k:=by rfl)
  (d:vs.all Value.oneCell'=true:=by exact oneM) (m:Nat.ble (off+vs.length) cs.length=true:=by rfl) (c:wA K i (.blk b (ob (jP cs off vs) T0))=K':=by exact nfK) (f:∀w,Mem Φ K' w->S w:=by intro w N;exact lnS):A a w :=
 e.h N.toSees (fun a ty pos aft g J=>zQ i J N p q o l j.h hl d m fun w N=>⟨f w (c▸N),fun a J=>kk w (c▸N) a J⟩) a J
theorem qI {c0:List PanicEntry} {b:Fz} {KE:List Res} (l:∀args w,(callFunc f args).run Tryz.prog w=.ok (.enter f args) w) (kp:∀w,Mem b KE w->R (.panicked c0) w) {fn:Func} {Q0:Exit->Act->World->Prop} (hQ:∀e a w,bodyPost Tryz.prog fn R e a w->Q0 e a w:=by exact hQ) (J:EnvR n E D a:=by exact J) (N:Mem Φ K w:=by exact N) (i:AtE n D Φ K w A E E' d (.call { callee:=.value (.func f),args:=xs,argTypes:=ts }) S B Qp:=by exact nD) (m:evs E' xs.toList=some vs:=by rfl)
  (c:Calls Tryz.prog f vs.toArray w (fun e w'=>e=.panicked c0/\Mem b KE w')) (j:∀c w,(∀a,a.defers=[]->Q0 (.panic c) a w)->Qp c w:=by exact fun _ _ h=>h):A a w :=
 i.h N.toSees (fun a ty pos aft g J=>cE J m l c (fun w N=>j _ _ fun _ k=>hQ _ _ _ (zT k (kp w N)))) a J
theorem dA {α β ε:Type} {r:Except ε α} {X:α->β->Value} {Z:ε->Value} {F1:α->β->Fz} {b:Fz} {KO:α->β->List Res} {KE:List Res} {G:α->β->Prop} (m:∀args w,(callFunc f args).run Tryz.prog w=.ok (.enter f args) w) (k:∀x y w,r=.ok x->G x y->Mem (F1 x y) (KO x y) w->∀a,EnvR n ((d,X x y)::E') D a->B a w) (kp:∀c w,r=.error c->Mem b KE w->∀a,EnvR n ((d,Z c)::E') D a->B a w) (J:EnvR n E D a:=by exact J) (N:Mem Φ K w:=by exact N) (i:AtE n D Φ K w A E E' d (.call { callee:=.value (.func f),args:=xs,argTypes:=ts }) S B Qp:=by exact nD) (o:evs E' xs.toList=some vs:=by rfl)
  (c:Calls Tryz.prog f vs.toArray w (fun e w'=>Out r (fun x=>∃y,e=.returned (X x y)/\G x y/\Mem (F1 x y) (KO x y) w') (fun c=>e=.returned (Z c)/\Mem b KE w'))) (j:∀x y w,r=.ok x->G x y->Mem (F1 x y) (KO x y) w->S w:=by intro x y w hq hG N;exact lnG) (l:∀c w,r=.error c->Mem b KE w->S w:=by intro x w hq N;exact lnS):A a w :=
 i.h N.toSees (fun a ty pos aft g J=>uE J o m c (fun x y w hq hG N=>⟨j x y w hq hG N,fun a J=>k x y w hq hG N a J⟩) (fun c w hq N=>⟨l c w hq N,fun a J=>kp c w hq N a J⟩)) a J
end
section
variable {Φ:Fz}
theorem RTE.fm {cs:List Value} {x:TE} (h:RTE Φ cs x):∃p c q d r e,cs=[.int .i64 x.kind,.string x.name,.string x.op,.int .i64 x.num,.int .i64 x.site,.slice p x.args.length c,.slice q x.arms.length d,.slice r x.body.length e]/\I64 x.num/\I64 x.site /\
  SliceOf RAtom Φ 2 (.slice p x.args.length c) x.args/\SliceOf RTA Φ 10 (.slice q x.arms.length d) x.arms/\SliceOf RTE Φ 8 (.slice r x.body.length e) x.body /\
  x.args.length<=9223372036854775807/\(x.args≠[]->∃q,p=some q)/\x.arms.length<=9223372036854775807/\(x.arms≠[]->∃p,q=some p)/\x.body.length<=9223372036854775807/\(x.body≠[]->∃q,r=some q):=by
 obtain ⟨s,t,u,rfl,i,j,a,b,f⟩:=RTE.iff.1 h;obtain ⟨p,c,rfl,g,k⟩:=a.fm;obtain ⟨q,d,rfl,a2,l⟩:=b.fm;obtain ⟨r,e,rfl,a3,m⟩:=f.fm;exact ⟨p,c,q,d,r,e,rfl,i,j,a,b,f,g,k,a2,l,a3,m⟩
theorem RTA.fm {cs:List Value} {x:TA} (h:RTA Φ cs x):∃p c b,cs=.string x.con::.slice p x.vars.length c::b/\SliceOf RStr Φ 1 (.slice p x.vars.length c) x.vars/\RTE Φ b x.body/\x.vars.length<=9223372036854775807/\(x.vars≠[]->∃q,p=some q):=by
 obtain ⟨s,b,rfl,a,f⟩:=RTA.iff.1 h;obtain ⟨p,c,rfl,d,e⟩:=a.fm;exact ⟨p,c,b,rfl,a,f,d,e⟩
theorem RTFn.fm {cs:List Value} {x:TFn} (h:RTFn Φ cs x):∃p c b,cs=.string x.name::.bool x.chg::.slice p x.params.length c::b/\SliceOf RTPar Φ 2 (.slice p x.params.length c) x.params/\RTE Φ b x.body/\x.params.length<=9223372036854775807/\(x.params≠[]->∃q,p=some q):=by
 obtain ⟨s,b,rfl,a,f⟩:=h;obtain ⟨p,c,rfl,d,e⟩:=a.fm;exact ⟨p,c,b,rfl,a,f,d,e⟩
theorem RTCon.fm {cs:List Value} {x:TCon} (h:RTCon Φ cs x):∃p c,cs=[.string x.name,.string x.type,.slice p x.fields.length c]/\SliceOf RBoo Φ 1 (.slice p x.fields.length c) x.fields/\x.fields.length<=9223372036854775807/\(x.fields≠[]->∃q,p=some q):=by
 obtain ⟨s,rfl,a⟩:=h;obtain ⟨p,c,rfl,b,d⟩:=a.fm;exact ⟨p,c,rfl,a,b,d⟩
theorem RTrc.fm {cs:List Value} {x:Trc} (h:RTrc Φ cs x):∃p1 c p2 c2 a c3 b c4,cs=[.slice p1 x.cons.length c,.slice p2 x.inputs.length c2,.slice a x.funs.length c3,.slice b x.outputs.length c4]/\z2a (.slice p2 x.inputs.length c2) /\
  SliceOf RTCon Φ 3 (.slice p1 x.cons.length c) x.cons/\SliceOf RStr Φ 1 (.slice p2 x.inputs.length c2) x.inputs/\SliceOf RTFn Φ 11 (.slice a x.funs.length c3) x.funs/\SliceOf RStr Φ 1 (.slice b x.outputs.length c4) x.outputs /\
  x.cons.length<=9223372036854775807/\(x.cons≠[]->∃q,p1=some q)/\x.inputs.length<=9223372036854775807/\(x.inputs≠[]->∃q,p2=some q)/\x.funs.length<=9223372036854775807/\(x.funs≠[]->∃q,a=some q)/\x.outputs.length<=9223372036854775807/\(x.outputs≠[]->∃q,b=some q):=by
 obtain ⟨s,t,u,v,rfl,n,d,e,f,g⟩:=h;obtain ⟨p1,c,rfl,i,j⟩:=d.fm;obtain ⟨p2,c2,rfl,a2,k⟩:=e.fm;obtain ⟨a,c3,rfl,a3,l⟩:=f.fm;obtain ⟨b,c4,rfl,a4,m⟩:=g.fm;exact ⟨p1,c,p2,c2,a,c3,b,c4,rfl,n,d,e,f,g,i,j,a2,k,a3,l,a4,m⟩
end
section
variable {P:Program} {ops:Array Oper} {md:Region.Mode} {B:World->Prop} {kd:List Nat} {Qp:List PanicEntry->World->Prop} {D:List Deferred}
end
theorem EnvR.keep {n:Nat} {E0:List (Nat×Value)} {D:List Deferred} {a:Act} {o:Oper} {v:Value} (J:EnvR n E0 D a) (b:(match o.dst with | some d=>(get E0 d).isNone | none=>true)=true):EnvR n E0 D (a.put o.dst v):=by
 cases c:o.dst with
 | none=>exact J
 | some d=>
  rw [c] at b;refine ⟨by simp [Act.put,J.size],fun t u h=>?_,J.defs⟩;have:t≠d:=fun e=>by subst e;simp only [h] at b;cases b
  simp only [Act.put];rw [Array.getElem?_setIfInBounds_ne (Ne.symm this)];exact J.env t u h
theorem y9l {P:Program} {n:Nat} {E0:List (Nat×Value)} {D:List Deferred} {a:Act} {Φ:Fz} {K:List Res} {w:World} {id:Nat} {l:List Oper} {Q:Exit->Act->World->Prop} (kd:List Nat) (p:Plan) (K':List Res) (g:EnvR n E0 D a) (N:Mem Φ K w) (s:P.follows .mixedOrders=true) (f:tN l.toArray kd p=true) (k:∀r∈K',r∈K)
  (m:l.all (fun o=>match o.dst with | some d=>(get E0 d).isNone | none=>true)=true)
  (h:∀w,Mem Φ K w->zU P .any l.toArray (Sees Φ K') kd (fun c w=>∀a,EnvR n E0 D a->Q (.panic c) a w) (Q .normal) p a w):(Code.region id l.toArray true).wp P Q a w:=by
 have hm':=N.drew;have h:=h _ hm';simp only [tN,baQ,beq_iff_eq] at f;obtain ⟨⟨⟨O,b⟩,hl⟩,e⟩:=f;refine (wpIn_wide (n:=3)).1 (wpIn_region_any s (kS (r:=none) (Inv:=EnvR n E0 D) (kd:=kd) (B:=Sees Φ K') (Qp:=fun c w=>∀a,EnvR n E0 D a->Q (.panic c) a w) (Q:=Q .normal) (fun h=>absurd rfl h) (fun i o a v hi J=>J.keep ?_) (fun _ _ h=>h) (fun c a w J h=>h a J) _ _ _ _ g (fun _=>⟨hm'.fz,fun r q=>hm'.own r (k r q)⟩) ?_))
 ·have j:l[i]? = some o:=by simpa using hi
  exact List.all_eq_true.1 m o (mgQ j)
 ·have:=xR O p _ _ _ b e h
  rw [hl] at this;exact this
theorem pS {P:Program} {n m:Nat} {r:Option Nat} {E:List (Nat×Value)} {a:Act} {Φ:Fz} {K:List Res} {w:World} {id:Nat} {l:List Oper} {Q:Exit->Act->World->Prop} (kd:List Nat) (p:Plan) (K':List Res) (J:EnvR n E [] a) (N:Mem Φ K w) (t:P.follows .mixedOrders=true) (f:tN l.toArray kd p=true) (j:∀r∈K',r∈K)
  (q:l.all (fun o=>match o.op with | .defer _=>false | _=>true)=true)
  (h:∀w,Mem Φ K w->zU P .any l.toArray (Sees Φ K') kd (fun _ _=>False) (Q .normal) p a w):(Code.region id l.toArray true).wpIn (FO r) m P Q a w:=by
 have hm':=N.drew;have h:=h _ hm';simp only [tN,baQ,beq_iff_eq] at f;obtain ⟨⟨⟨O,b⟩,hl⟩,d⟩:=f;refine wpIn_region_any t (kS (Inv:=fun _=>True) (kd:=kd) (B:=Sees Φ K') (Qp:=fun _ _=>False) (Q:=Q .normal) (fun _ i o hi c k=>?_) (fun _ _ _ _ _ h=>h) (fun _ _ h=>h) (fun _ _ _ _ h=>h.elim) _ _ _ _ trivial (fun _=>⟨hm'.fz,fun r s=>hm'.own r (j r s)⟩) ?_)
 ·have g:l[i]? = some o:=by simpa using hi
  have e:=List.all_eq_true.1 q o (mgQ g);rw [k] at e;cases e
 ·have:=xR O p _ _ _ b d h
  rw [hl] at this;exact this
section
variable {P:Program} {Φ:Fz}
def Fires (P:Program) (y:Value) (vs:List Value) (w:World) (R:Ending->World->Prop):Prop :=
 (∃f fs cs,y=.func (.func f) (List.toArray fs) (List.toArray cs)/\(∀args w,(callFunc f args).run P w=.ok (.enter f args) w)/\Calls P f (fs++vs++cs).toArray w R) ∨
 (∃l,y=.func (.yield l) #[] #[]/\YieldAt Fence.wide 2 P l vs.toArray w R)
theorem Fires.mono {y:Value} {vs:List Value} {w:World} {R R':Ending->World->Prop} (h:Fires P y vs w R) (d:∀e w',R e w'->R' e w'):Fires P y vs w R':=by
 rcases h with ⟨f,fs,cs,a,b,c⟩ | ⟨l,a,fn,tmps,assign,body,b,c⟩
 ·exact .inl ⟨f,fs,cs,a,b,c.mono d⟩
 ·exact .inr ⟨l,a,fn,tmps,assign,body,b,c.mono d⟩
end
section
variable {P:Program} {n m:Nat} {E:List (Nat×Value)} {D:List Deferred} {a:Act} {w:World} {ops:Array Oper} {rest:List Oper} {Q:Exit->Act->World->Prop} {r:Option Nat} {d:Nat} {v:Value} {op:Op} {ty:TypeId} {pos:String} {aft:Array Edge}
theorem zZ (h:Q .normal a w):wpListIn (FO r) m P ops Q [] a w:=wpListIn_nil h
theorem oK {y:Operand} {xs:Array Operand} {vs:List Value} {ts:Array TypeId} {yv u:Value} {JJ:World->Prop} {Kn:Value->World->Prop} {Qp:List PanicEntry->World->Prop} {dst:Option Tmp} {g:Option (Nat×Bool)} (J:EnvR n E D a) (h:ev E y=some yv) (d:evs E xs.toList=some vs)
  (p:Fires P yv vs w (fun e w'=>e=.returned u/\JJ w')) (k:∀w',JJ w'->Kn u w'):Oper.effR P ⟨dst,.call { callee:=.value y,args:=xs,argTypes:=ts },ty,pos,aft,g⟩ a w Kn Qp:=by
 unfold Oper.effR;rcases p with ⟨f,fs,cs,rfl,o,m⟩ | ⟨l,rfl,fn,tmps,assign,body,i,j⟩
 ·have b:(execOp a.eval ⟨dst,.call { callee:=.value y,args:=xs,argTypes:=ts },ty,pos,aft,g⟩).run P w=.ok (.enter f (fs++vs++cs).toArray) w:=by
   simp only [execOp,resolve,Sem.run_bind,J.evsA d,J.ev h,Deferred.ofValue];have:=o (fs++vs++cs).toArray w;simp only [invoke]
   simpa [Sem.run_bind,Result.andThen] using this
  rw [b];refine m.mono fun e w' he'=>?_;obtain ⟨rfl,c⟩:=he';exact k _ c
 ·have b:(execOp a.eval ⟨dst,.call { callee:=.value y,args:=xs,argTypes:=ts },ty,pos,aft,g⟩).run P w=.ok (.round l fn tmps assign body) w:=by
   simp only [execOp,resolve,Sem.run_bind,J.evsA d,J.ev h,Deferred.ofValue]
   simp [invoke,Sem.run_bind,Result.andThen,i]
  rw [b];refine j.mono fun e w' he'=>?_;obtain ⟨rfl,c⟩:=he';exact k _ c
theorem d_fireg {kd:List Nat} {B:World->Prop} {Qp:List PanicEntry->World->Prop} {Q:Act->World->Prop} {p:Plan} {i:Nat} {ops:Array Oper} {j t:Nat} {b:Bool} (J:EnvR n E D a) (hi:ops[i]? = some ⟨some d,op,ty,pos,aft,some (j,b)⟩) (g:ops[j]?.bind (·.dst)=some t) (c:get E t=some (.bool b)) (k:yQ kd i=0) (f:Nat.blt d n=true)
  (h:Oper.effR P ⟨some d,op,ty,pos,aft,some (j,b)⟩ a w (fun v w'=>(dK .any kd ⟨some d,op,ty,pos,aft,some (j,b)⟩=true->B w')/\∀a,EnvR n ((d,v)::E) D a->zU P .any ops B kd Qp Q p a w') Qp):zU P .any ops B kd Qp Q (.e i p) a w:=by
 unfold zU vR;simp only [hi];rw [if_pos (pY J rfl g c),if_pos k];exact xB h (fun v w' c=>⟨c.1,c.2 _ (J.put f)⟩) (fun _ _ h=>h)
theorem in_stR {o:Oper} (J:EnvR n E D a) (i:o.dst=some d) (b:Nat.blt d n=true) (j:o.guard=none) (e:∀c,o.op≠.defer c)
  (h:Oper.effR P o a w (fun v w'=>∀a,EnvR n ((d,v)::E) D a->wpListIn (FO r) m P ops Q rest a w') (fun _ _=>False)):wpListIn (FO r) m P ops Q (o::rest) a w:=by
 refine wpListIn_plain j fun L f=>cB (fun _=>e) (xB h (fun v w' k=>f _ _ ?_) (fun c w' g=>g.elim));rw [i];exact k _ (J.put b)
theorem mS {o:Oper} {j t:Nat} {b:Bool} (J:EnvR n E D a) (l:o.dst=some d) (e:Nat.blt d n=true) (p:o.guard=some (j,b)) (q:ops[j]?.bind (·.dst)=some t) (g:get E t=some (.bool b)) (f:∀c,o.op≠.defer c)
  (h:Oper.effR P o a w (fun v w'=>∀a,EnvR n ((d,v)::E) D a->wpListIn (FO r) m P ops Q rest a w') (fun _ _=>False)):wpListIn (FO r) m P ops Q (o::rest) a w:=by
 refine wpListIn_step fun L i=>?_;rw [if_pos (pY J p q g)];refine cB (fun _=>f) (xB h (fun v w' g=>i _ _ ?_) (fun c w' k=>k.elim));rw [l];exact g _ (J.put e)
theorem tA {o:Oper} {j t:Nat} {b:Bool} {v:Value} (J:EnvR n E D a) (e:o.dst=some d) (g:o.guard=some (j,b)) (c:Nat.blt d n=true) (h:ops[j]?.bind (·.dst)=some t) (i:get E t=some v) (hb:y9c v b=true)
  (k:∀a,EnvR n ((d,undef)::E) D a->wpListIn (FO r) m P ops Q rest a w):wpListIn (FO r) m P ops Q (o::rest) a w:=by
 unfold wpListIn;rw [if_neg (by rw [uR J g h i hb];simp),e];exact ⟨fun f _=>FO.fn f,k _ (J.put c)⟩
theorem dG {v:Value} {Kn:Value->World->Prop} {Qp:List PanicEntry->World->Prop} {dst:Option Tmp} {g:Option (Nat×Bool)} (b:Ok P a op ty w v) (k:Kn v w):Oper.effR P ⟨dst,op,ty,pos,aft,g⟩ a w Kn Qp:=(pO b k).toR
theorem gJ {id:Nat} {c:Code} (h:c.wpIn (FO r) m P (Exit.inBlock id Q) a w):(Code.block id c).wpIn (FO r) m P Q a w:=wpIn_block h
theorem z9g {id:Nat} (h:Q (.exit id) a w):(Code.exit id).wpIn (FO r) m P Q a w:=wpIn_exit h
theorem pE (h:Q .normal a w):Code.skip.wpIn (FO r) m P Q a w:=wpIn_skip h
theorem xM {id:Nat} {l:List Oper} (h:wpListIn (FO r) m P l.toArray Q l a w):(Code.region id l.toArray false).wpIn (FO r) m P Q a w:=wpIn_region_lit h
theorem sqI {x y:Code} (h:∀L:Act->World->Prop,(∀a w,y.wpIn (FO r) m P Q a w->L a w)->x.wpIn (FO r) m P (Exit.then L Q) a w):(Code.seq x y).wpIn (FO r) m P Q a w:=wpIn_seq_k h
theorem mD {c:Operand} {x y:Code} (J:EnvR n E D a) (b:ev E c=some (.bool true)) (h:x.wpIn (FO r) m P Q a w):(Code.cond c x y).wpIn (FO r) m P Q a w:=wpIn_cond_true (J.ev b) h
theorem wP {c:Operand} {x y:Code} (J:EnvR n E D a) (b:ev E c=some (.bool false)) (h:y.wpIn (FO r) m P Q a w):(Code.cond c x y).wpIn (FO r) m P Q a w:=wpIn_cond_false (J.ev b) h
end
section
variable {P:Program} {Φ:Fz} {K:List Res} {w:World}
end
def aQ (ds:List Nat):List Deferred:=ds.map fun d=>{ target:=.collected d,args:=#[] }
def yV (ds:List Nat):List Res:=ds.map fun d=>.blk d (.deferred (some []))
section
variable {P:Program} {Φ:Fz} {K:List Res} {n:Nat} {E:List (Nat×Value)} {a:Act} {fn:Func} {R:Ending->World->Prop}
theorem Mem.mid {A B C:List Res} {w:World} (h:Mem Φ (A++(B++C)) w):Mem Φ (B++(A++C)) w:=h.perm (by
 rw [<- List.append_assoc,<- List.append_assoc];exact (List.perm_append_comm).append_right C)
theorem oO {tmps:Array Value} {u:FrameMode} (a:u≠.run):∀{ds:List Nat} {w:World},Mem Φ (yV ds++K) w->(∀w',Mem Φ K w'->mL P fn tmps R [] u w')->mL P fn tmps R (aQ ds) u w
 | [],w,N,h=>h w N
 | d::ds,w,N,h=>by
  have b:w.heap[d]? = some (.deferred (some [])):=N.own _ msQ;exact oN a b (oO a (N.putObj (i:=0) (o':=.deferred none) rfl).tail h)
theorem retXr {ds:List Nat} {w:World} (J:EnvR n E (aQ ds) a) (N:Mem Φ (yV ds++K) w) (h:∀w',Mem Φ K w'->∃x,(results fn a.tmps).run P w'=.ok x w'/\R (.returned x) w'):mL P fn a.tmps R a.defers .returning w:=by
 rw [J.defs];refine oO (by intro h;cases h) N fun w' hm'=>z0v ?_;exact h w' hm'
theorem retX {ds:List Nat} {w:World} (J:EnvR n E (aQ ds) a) (N:Mem Φ (yV ds++K) w) (h:∀w',Mem Φ K w'->∃x,(results fn a.tmps).run P w'=.ok x w'/\R (.returned x) w'):xU P fn R .ret a w:=retXr J N h
theorem retXN {ds:List Nat} {w:World} (J:EnvR n E (aQ ds) a) (N:Mem Φ (yV ds++K) w) (h:∀w',Mem Φ K w'->∃x,(results fn a.tmps).run P w'=.ok x w'/\R (.returned x) w'):xU P fn R .normal a w:=retXr J N h
theorem retX0 {ds:List Nat} {w:World} (J:EnvR n E (aQ ds) a) (b:fn.results=#[]) (N:Mem Φ (yV ds++K) w) (h:∀w',Mem Φ K w'->R (.returned (.tuple #[])) w'):xU P fn R .ret a w :=
 retX J N fun w' hm'=>⟨.tuple #[],by simp [results,b],h w' hm'⟩
theorem retX0N {ds:List Nat} {w:World} (J:EnvR n E (aQ ds) a) (b:fn.results=#[]) (N:Mem Φ (yV ds++K) w) (h:∀w',Mem Φ K w'->R (.returned (.tuple #[])) w'):xU P fn R .normal a w :=
 retXN J N fun w' hm'=>⟨.tuple #[],by simp [results,b],h w' hm'⟩
theorem retX1 {ds:List Nat} {w:World} {t:Nat} {v:Value} (J:EnvR n E (aQ ds) a) (b:fn.results=#[.tmp t]) (c:get E t=some v) (N:Mem Φ (yV ds++K) w) (h:∀w',Mem Φ K w'->R (.returned v) w'):xU P fn R .ret a w :=
 retX J N fun w' hm'=>⟨v,by simp [results,b,Array.getD_eq_getD_getElem?,J.env t v c],h w' hm'⟩
theorem retX2 {ds:List Nat} {w:World} {t u:Nat} {v x:Value} (J:EnvR n E (aQ ds) a) (b:fn.results=#[.tmp t,.tmp u]) (c:get E t=some v) (d:get E u=some x) (N:Mem Φ (yV ds++K) w) (h:∀w',Mem Φ K w'->R (.returned (.tuple #[v,x])) w'):xU P fn R .ret a w :=
 retX J N fun w' hm'=>⟨.tuple #[v,x],by simp [results,b,Array.getD_eq_getD_getElem?,J.env t v c,J.env u x d],h w' hm'⟩
theorem q4j {ds:List Nat} {w:World} {t T b:Nat} {v:Value} {T0:TypeId} (J:EnvR n E (aQ ds) a) (d:fn.results=#[.cell t T]) (e:get E t=some (.pointer (some ⟨b,0,none⟩))) (c:Scalar P T)
  (N:Mem Φ (yV ds++.blk b (ob [v] T0)::K) w) (h:∀w',Mem Φ K w'->R (.returned v) w'):xU P fn R .ret a w :=
 retX J N fun w' hm'=>⟨v,y9o (i:=0) J hm'.toSees d e rfl rfl c,h w' hm'.tail⟩
end
theorem any_mem {α:Type} [DecidableEq α] (x:α) (l:List α):(l.any fun y=>decide (y=x))=true↔x∈l:=by simp
instance (priority:=low) decMem {α:Type} [DecidableEq α] (x:α) (l:List α):Decidable (x∈l):=decidable_of_iff _ (any_mem x l)
mutual
def kJ:TE->Nat->Nat->Option Nat
 | .mk _ _ _ _ _ _ arms body,deep,n=>if n+1<=20000/\deep<=20000 then (sizeTs body (deep+1) (n+1)).bind (sizeTa arms (deep+1)) else none
def sizeTs:List TE->Nat->Nat->Option Nat
 | [],_,n=>some n
 | x::xs,deep,n=>(kJ x deep n).bind (sizeTs xs deep)
def sizeTa:List TA->Nat->Nat->Option Nat
 | [],_,n=>some n
 | .mk _ _ b::xs,deep,n=>(kJ b deep n).bind (sizeTa xs deep)
end
def pX:List TFn->Nat->Option Nat
 | [],n=>some n
 | f::fs,n=>(kJ f.body 1 n).bind (pX fs)
theorem z3v (e:TE) (deep n:Nat):kJ e deep n=if n+1<=20000/\deep<=20000 then (sizeTs e.body (deep+1) (n+1)).bind (sizeTa e.arms (deep+1)) else none:=by
 cases e;rfl
theorem tR (a:TA) (l:List TA) (deep n:Nat):sizeTa (a::l) deep n=(kJ a.body deep n).bind (sizeTa l deep):=by cases a;rfl
def nB (l:List TCon) (i:Nat) (c:TCon):Bool :=
 !((l.take i).any fun d=>decide (d.name=c.name))&&z0s c.name&&z0s c.type&&decide (c.fields.length<=16) &&
  ((match i with | 0=>false | i+1=>match l[i]? with | some d=>decide (d.type=c.type) | none=>false) || !((l.take i).any fun d=>decide (d.type=c.type)))
def mT (T:Trc) (n:Bs):Bool:=match T.funs.find? (fun f=>decide (f.name=n)) with | some f=>f.chg&&decide (f.params.length=0) | none=>false
def qC (T:Trc):Bool :=
 (List.range T.cons.length).all (fun i=>match T.cons[i]? with | some c=>nB T.cons i c | none=>false) &&
 (List.range T.inputs.length).all (fun i=>match T.inputs[i]? with | some n=>vC n && !(T.inputs.take i).contains n | none=>false) &&
 (List.range T.funs.length).all (fun i=>match T.funs[i]? with | some f=> !((T.funs.take i).any fun g=>decide (g.name=f.name))&&vC f.name&&decide (f.params.length<=16) | none=>false) &&
 T.outputs.all (mT T)
structure BS where
 list:List TPar
 kinds:List (Bs×Int)
 sites:List (Int×Int)
def vJ (mod:Bool):Int:=if mod then 2 else 1
def oB:List (Int×Int)->Int->Option Int
 | [],_=>none
 | (k,v)::l,x=>if k=x then some v else oB l x
def BS.bind (s:BS) (n:Bs) (mod:Bool):Option BS :=
 if vC n/\¬(∃p∈s.list,p.name=n)/\s.list.length < 2000 then some { s with list:=s.list++[⟨n,mod⟩],kinds:=qT s.kinds n (vJ mod) } else none
def BS.atom (s:BS) (a:Atom) (mod:Bool):Bool:=if a.name=sNo then !mod else decide (a.num=0)&&decide ((zK s.kinds a.name).getD 0=vJ mod)
def BS.atomL (s:BS):List Atom->List Bool->Bool
 | [],[]=>true
 | a::l,m::ms=>s.atom a m&&s.atomL l ms
 | _,_=>false
def BS.call (T:Trc) (s:BS) (e:TE) (chg:Bool):Bool:=match T.funs.find? (fun f=>decide (f.name=e.op)) with | some f=>decide (f.chg=chg)&&s.atomL e.args (f.params.map TPar.mod) | none=>false
def BS.site (s:BS) (e:TE) (n:Int):Option BS:=if oB s.sites e.site=none/\1<=e.site/\e.site<=20000 then some { s with sites:=s.sites++[(e.site,n)] } else none
def zB (e:TE) (name op num site args arms rest:Bool):Bool :=
 (name || decide (e.name=sNo))&&(op || decide (e.op=sNo))&&(num || decide (e.num=0))&&(site || decide (e.site=0)) &&
 (args || decide (e.args.length=0))&&(arms || decide (e.arms.length=0))&&decide (rest=decide (e.body.length=1))&&decide (e.body.length<=1)
def gP (s:Bs):Bool:=[⟨#[43]⟩,⟨#[45]⟩,⟨#[42]⟩,⟨#[47]⟩,⟨#[37]⟩,⟨#[60]⟩,⟨#[61]⟩].contains s
def wH (T:Trc) (n:Bs):Option Nat:=T.cons.findIdx? fun c=>decide (c.name=n)
def yY (T:Trc) (chg:Bool) (e:TE) (s:BS):Option BS :=
 if e.kind=1 then (if zB e true true false false true false true&&gP e.op&&s.atomL e.args [false,false] then some s else none)
 else if e.kind=2 then (if zB e true true false false true false true then (match (wH T e.op).bind fun i=>T.cons[i]? with | some c=>(if s.atomL e.args c.fields then some s else none) | none=>none) else none)
 else if e.kind=3 then (if zB e true true false false true false true&&s.call T e false then some s else none)
 else if e.kind=4 then (if zB e true true false true true false true&&s.call T e true then s.site e e.args.length else none)
 else if e.kind=5 then (if zB e true false false true true false true&&chg&&s.atomL e.args [true] then s.site e (-1) else none)
 else if e.kind=6 then (if zB e true false true false false false true&&decide (0<=e.num)&&decide (e.num < T.inputs.length) then some s else none)
 else if e.kind=8 then (if zB e false false false false true false false && !chg&&s.atomL e.args [false] then some s else none)
 else if e.kind=9 then (if zB e false false false false true false false&&chg&&s.atomL e.args [false] then some s else none)
 else if e.kind=10 then (if zB e false true false false true false false&&s.call T e chg then some s else none)
 else none
def mM (T:Trc) (first:Nat) (i:Nat) (a:TA):Bool:=match T.cons[first]?,T.cons[first+i]? with
 | some c,some d=>decide (d.name=a.con)&&decide (d.type=c.type)&&decide (a.vars.length=d.fields.length)
 | _,_=>false
def BS.binds (s:BS):List Bs->List Bool->Option BS
 | [],_=>some s
 | v::vs,m::ms=>(s.bind v m).bind fun s=>s.binds vs ms
 | _::_,[]=>none
def jN (T:Trc) (first n:Nat):Bool :=
 (match first with | 0=>true | k+1=>match T.cons[k]?,T.cons[k+1]? with | some c,some d=> !decide (c.type=d.type) | _,_=>false) &&
 (decide (first+n=T.cons.length) || match T.cons[first]?,T.cons[first+n]? with | some c,some d=> !decide (d.type=c.type) | _,_=>false)
mutual
def jH (T:Trc) (chg:Bool):TE->BS->Option BS
 | .mk k nm op num site args arms body,s=>
  (if k=7 then
   (if zB (.mk k nm op num site args arms body) false false false false true true false&&s.atomL args [false] then
    (match args,arms with
    | a::_,.mk c _ _::_=>if a.name=sNo then none else (match wH T c with
     | some first=>(armsT T chg first s.kinds 0 arms s).bind fun e=>if jN T first arms.length then some { e with kinds:=s.kinds } else none
     | none=>none)
    | _,_=>none)
   else none)
  else yY T chg (.mk k nm op num site args arms body) s).bind (restT T chg nm (decide (k=4∨k=6)) body)
def restT (T:Trc) (chg:Bool) (nm:Bs) (mod:Bool):List TE->BS->Option BS
 | [],s=>some s
 | x::xs,s=>(s.bind nm mod).bind fun s=>(jH T chg x s).bind (restT T chg nm mod xs)
def armsT (T:Trc) (chg:Bool) (first:Nat) (outer:List (Bs×Int)):Nat->List TA->BS->Option BS
 | _,[],s=>some s
 | i,.mk c vs b::xs,s=>if mM T first i (.mk c vs b) then (({ s with kinds:=outer }:BS).binds vs (match T.cons[first+i]? with | some d=>d.fields | none=>[])).bind fun s=>(jH T chg b s).bind (armsT T chg first outer (i+1) xs) else none
end
def aK (T:Trc) (f:TFn) (sites:List (Int×Int)):Option BS:=((⟨[],[],sites⟩:BS).binds (f.params.map TPar.name) (f.params.map TPar.mod)).bind (jH T f.chg f.body)
def wY (T:Trc):List TFn->List (Int×Int)->Option (List (Int×Int))
 | [],m=>some m
 | f::fs,m=>(aK T f m).bind fun s=>wY T fs s.sites
def zM (T:Trc):Bool :=
 decide (T.cons.length<=300)&&decide (T.inputs.length<=6)&&decide (T.funs.length<=400)&&decide (T.outputs.length<=6) &&
 (pX T.funs 0).isSome&&qC T&&(wY T T.funs []).isSome
abbrev Atoms:=List (Bs×Atom)
def cQ (e:TE) (i:Int):Option TE :=
 if i < 0 then none
 else if e.kind=7/\i < (e.arms.length:Int) then (e.arms[i.toNat]?).map TA.body
 else if i < (e.body.length:Int) then e.body[i.toNat]?
 else none
def yD:List TE->TE->List Int->Option (List TE×TE)
 | up,x,[]=>some (up,x)
 | up,x,i::p=>(cQ x i).bind fun y=>yD (up++[x]) y p
def wK (n:Bs) (l:List Atom):Nat:=(l.filter fun a=>decide (a.name=n/\¬a.name=sNo)).length
mutual
def xS (n:Bs):TE->Nat
 | .mk _ _ _ _ _ args arms body=>wK n args+usesTa n arms+usesTs n body
def usesTs (n:Bs):List TE->Nat
 | []=>0
 | x::xs=>xS n x+usesTs n xs
def usesTa (n:Bs):List TA->Nat
 | []=>0
 | .mk _ _ b::xs=>xS n b+usesTa n xs
end
mutual
def zA:TE->Nat
 | .mk _ _ _ _ _ _ arms body=>1+weightTa arms+weightTs body
def weightTs:List TE->Nat
 | []=>0
 | x::xs=>zA x+weightTs xs
def weightTa:List TA->Nat
 | []=>0
 | .mk _ _ b::xs=>zA b+weightTa xs
end
def tS (kind:Int) (args:List Atom):List Bs:=if kind=7 then (args.head?.map Atom.name).toList else []
mutual
def qK:TE->List Bs
 | .mk k _ _ _ _ args arms body=>tS k args++splitTa arms++splitTs body
def splitTs:List TE->List Bs
 | []=>[]
 | x::xs=>qK x++splitTs xs
def splitTa:List TA->List Bs
 | []=>[]
 | .mk _ _ b::xs=>qK b++splitTa xs
end
def pL (m:Atoms) (a:Atom):Atom:=if a.name=sNo then a else (zK m a.name).getD a
mutual
def zR (m:Atoms):TE->TE
 | .mk k nm op num site args arms body=>.mk k nm op num site (args.map (pL m)) (withTa m arms) (withTs m body)
def withTs (m:Atoms):List TE->List TE
 | []=>[]
 | x::xs=>zR m x::withTs m xs
def withTa (m:Atoms):List TA->List TA
 | []=>[]
 | .mk c vs b::xs=>.mk c vs (zR m b)::withTa m xs
end
structure FnS where
 prog:Trc
 fn:TFn
def FnS.uses (f:FnS) (n:Bs):Nat:=xS n f.fn.body
def FnS.put (f:FnS) (m:Atoms) (b:TE):Option TE:=if ∀p∈m,p.2.name≠sNo∨p.1∉qK f.fn.body then some (zR m b) else none
def atM:Nat->List TFn->List (Bs×Int)->List (Bs×Int)
 | _,[],m=>m
 | i,f::fs,m=>atM (i+1) fs (qT m f.name (i:Int))
def gL (T:Trc) (n:Bs):Nat:=((zK (atM 0 T.funs []) n).getD 0).toNat
def kL (T:Trc) (n:Bs):Option (List Bool):=if zM T=true then (wH T n).bind fun i=>(T.cons[i]?).map TCon.fields else none
def jQ (x:TE):TE:=x.body.headD x
def jW (x:TE) (i:Nat):Atom:=(x.args[i]?).getD ⟨sNo,0⟩
def FnS.fold (f:FnS) (x:TE):Option TE :=
 let v:=zX x.op (jW x 0).num (jW x 1).num
 if v.con=sNo then f.put [(x.name,⟨sNo,v.num⟩)] (jQ x)
 else match kL f.prog v.con with
  | some c=>if c.length=0 then some (.mk 2 x.name v.con 0 0 [] [] x.body) else none
  | none=>none
def FnS.fuse (f:FnS) (x:TE):List TE->Option TE
 | []=>none
 | y::ys=>if y.kind=5/\jW y 0=jW x 0 then f.put [(x.name,⟨y.name,0⟩)] (jQ x) else f.fuse x ys
def FnS.arm (f:FnS) (x:TE) (con:Bs) (args:List Atom):Option TE :=
 (x.arms.find? fun a=>decide (a.con=con/\a.vars.length=args.length)).bind fun a=>f.put ((a.vars.zip args).foldl (fun m p=>qT m p.1 p.2) []) a.body
def FnS.known (f:FnS) (x:TE):List (TE×Int)->Option TE
 | []=>none
 | (y,i)::ys=>
  if y.kind=2/\y.name=(jW x 0).name then f.arm x y.op y.args
  else if y.kind=7/\jW y 0=jW x 0 then (y.arms[i.toNat]?).bind fun a=>f.arm x a.con (a.vars.map fun v=>⟨v,0⟩)
  else f.known x ys
def FnS.forward (f:FnS) (x:TE):List TE->Option TE
 | []=>none
 | y::ys=>
  if y.kind=4/\y.name=(jW x 0).name then
   (f.prog.funs[gL f.prog y.op]?).bind fun g=>match g.params with
    | [p]=>if g.body.kind=9/\(jW g.body 0).name=p.name then f.put [(x.name,jW y 0)] (jQ x) else none
    | _=>none
  else f.forward x ys
def FnS.may (f:FnS) (rule:Int) (x:TE) (up:List TE):Bool :=
 if rule=1 then decide (x.kind=1/\(jW x 0).name=sNo/\(jW x 1).name=sNo)
 else if rule=2 then decide (1<=x.kind/\x.kind<=6/\f.uses x.name=0)
 else if rule=4 then decide (x.kind=7)
 else if rule=6 then decide (x.kind=3)
 else decide (x.kind=5/\0 < up.length)
def FnS.try5 (f:FnS) (rule:Int) (x:TE) (up:List TE) (path:List Int):Option TE :=
 if f.may rule x up then
  (if rule=1 then f.fold x
  else if rule=2 then some (jQ x)
  else if rule=3 then f.fuse x up.reverse
  else if rule=4 then f.known x (up.zip path).reverse
  else f.forward x up.reverse)
 else none
def zY:TE->List Int->TE->TE
 | _,[],y=>y
 | e,i::p,y=>
  if e.kind=7 then .mk e.kind e.name e.op e.num e.site e.args (match e.arms[i.toNat]? with | some a=>e.arms.set i.toNat (.mk a.con a.vars (zY a.body p y)) | none=>e.arms) e.body
  else .mk e.kind e.name e.op e.num e.site e.args e.arms (match e.body with | b::_=>[zY b p y] | []=>[])
mutual
def pU (n:Bs):TE->Bool
 | .mk k _ op _ _ _ arms body=>(decide (k=3∨k=4∨k=10)&&decide (op=n)) || callsNa n arms || callsNs n body
def callsNs (n:Bs):List TE->Bool
 | []=>false
 | x::xs=>pU n x || callsNs n xs
def callsNa (n:Bs):List TA->Bool
 | []=>false
 | .mk _ _ b::xs=>pU n b || callsNa n xs
end
def xY (T:Trc) (i:Nat):Bool:=match T.funs[i]? with
 | some f=> !T.outputs.contains f.name&&(List.range T.funs.length).all fun j=>decide (j=i) || (match T.funs[j]? with | some g=> !pU f.name g.body | none=>true)
 | none=>false
def jI (T:Trc) (i:Nat) (b:TE):Trc:=match T.funs[i]? with | some f=>{ T with funs:=T.funs.set i { f with body:=b } } | none=>T
def z8e (T:Trc) (i:Nat):Option FnS:=(T.funs[i]?).map (FnS.mk T)
def vF (T:Trc) (r:Rw):Except Int Trc :=
 if r.rule < 1∨7 < r.rule then .error 150
 else if r.fn < 0∨(T.funs.length:Int)<=r.fn then .error 3
 else if r.rule=7 then (if r.path≠[]∨r.num≠0∨xY T r.fn.toNat=false then .error 150 else .ok { T with funs:=T.funs.eraseIdx r.fn.toNat })
 else match z8e T r.fn.toNat with
  | none=>.error 3
  | some f=>match yD [] f.fn.body r.path with
   | none=>.error 151
   | some (up,x)=>if r.num≠0 then .error 150 else match f.try5 r.rule x up r.path with
    | none=>.error 150
    | some y=>.ok (jI T r.fn.toNat (zY f.fn.body r.path y))
structure Fnd where
 path:List Int
 up:List TE
 x:TE
mutual
def zF (p:List Int) (up:List TE):TE->List Fnd
 | .mk k nm op num site args arms body=>⟨p,up,.mk k nm op num site args arms body⟩::(belowTa p (up++[.mk k nm op num site args arms body]) 0 arms++belowTs p (up++[.mk k nm op num site args arms body]) 0 body)
def belowTs (p:List Int) (up:List TE):Int->List TE->List Fnd
 | _,[]=>[]
 | i,x::xs=>zF (p++[i]) up x++belowTs p up (i+1) xs
def belowTa (p:List Int) (up:List TE):Int->List TA->List Fnd
 | _,[]=>[]
 | i,.mk _ _ b::xs=>zF (p++[i]) up b++belowTa p up (i+1) xs
end
def jD (f:FnS) (i:Nat) (y:Fnd):List Rw:=([1,2,3,4,5].filter fun r=>(f.try5 r y.x y.up y.path).isSome).map fun r=>⟨r,i,y.path,0⟩
def qS (T:Trc) (i:Nat):List Rw:=match z8e T i with | some f=>(zF [] [] f.fn.body).flatMap (jD f i) | none=>[]
def jC (T:Trc):List Rw:=(List.range T.funs.length).flatMap (qS T)++((List.range T.funs.length).filter (xY T)).map fun i=>⟨7,i,[],0⟩
def qM (T:Trc):List Rw:=(jC T).take 500
def vK (T:Trc) (out:List Rw) (l:List Rw):Option (Trc×List Rw):=match l with
 | []=>none
 | r::_=>match vF T r with
  | .error _=>none
  | .ok U=>if out.length=500 then none else some (U,out++[r])
def nZ:Nat->Trc->List Rw->Nat->Trc×List Rw
 | 0,T,out,_=>(T,out)
 | g+1,T,out,i=>match vK T out (qS T i) with
  | some (U,o)=>nZ g U o i
  | none=>(T,out)
def z1f (n:Nat) (T:Trc) (out:List Rw):Trc×List Rw:=(List.range n).foldl (fun s i=>nZ 501 s.1 s.2 i) (T,out)
def y3y:Nat->Trc->List Rw->Trc×List Rw
 | 0,T,out=>(T,out)
 | g+1,T,out=>match z1f T.funs.length T out with
  | (U,o)=>match vK U o (jC U) with
   | some (V,q)=>y3y g V q
   | none=>(U,o)
def xL (T:Trc):Trc×List Rw:=y3y 502 T []
end Go.Sw
