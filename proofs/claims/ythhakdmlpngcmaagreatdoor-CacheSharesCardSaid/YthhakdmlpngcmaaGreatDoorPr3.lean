/- predicate.kinds, Touches. -/
import Derived.Test.YthhakdmlpngcmaaGreatDoorQe3
set_option linter.unusedVariables false
set_option linter.unusedSimpArgs false
namespace Go.Proofs.YthhakdmlpngcmaaGreatDoor
open Go.Proofs.Tryz
open Go Go.RowKit Gw
set_option maxRecDepth 100000
attribute [local irreducible] Gw.At Gw.Nx Gw.Ops
def MF(b5 b6:Nat):List (Int×A4):=[(1,.agg #[.func (.func 196) #[] #[],.func (.func 197) #[] #[]]),(2,.agg #[.func (.func 196) #[] #[],.func (.func 197) #[] #[]]),(3,.agg #[.func (.func 198) #[] #[],.func (.func 199) #[] #[]]),(4,.agg #[.func (.func 200) #[] #[],.func (.func 201) #[] #[]]),(5,.agg #[.func (.func 202) #[] #[],.func (.func 246) #[] #[I5 b5]]),(6,.agg #[.func (.func 205) #[] #[],.func (.func 246) #[] #[I5 b6]]),(7,.agg #[.func (.func 207) #[] #[],.func (.func 208) #[] #[]])]
variable{lm:List (Int×A4)}{k:Int}{v:A4}
theorem ZI{g m:Nat}(h:∀p,p∈lm↔p∈MF g m)(I:(lm.map (·.1)).Nodup)(G:(k,v)∈MF g m):Dp k lm=some v:=D7 I ((h _).2 G)
def HV(k:Int):Nat:=if k=1 then 196 else if k=2 then 196 else if k=3 then 198 else if k=4 then 200 else if k=5 then 202 else if k=6 then 205 else 207
theorem uB{g m:Nat}(h:∀p,p∈lm↔p∈MF g m)(G:(lm.map (·.1)).Nodup)(I:1<=k/\k<=7):∃pf,Dp k lm=some (.agg #[.func (.func (HV k)) #[] #[],pf]):=by
 obtain h9|h9|h9|h9|h9|h9|h9:k=1\/k=2\/k=3\/k=4\/k=5\/k=6\/k=7:=by omega
 all_goals subst h9
 all_goals exact ⟨_,ZI h G (by simp [MF,HV];rfl)⟩
theorem PH(v:A4)(g:v.oneCell'=true)(hc:v.cells=#[v]):BR prog 203 #[v] [] (fun r H'=>∃b,r= .func (.func 246) #[] #[I5 b]/\H'=[[(b,.cells #[v] 224 (0,0))]]):=by
 refine Se func203 ntmps203 [0] ?_;intro u R;refine A1<|Ze (F5 Y (cs:=#[v]) hc)<|AG fun b=>A5 Y<|A1<|Zv (Bg (vs:=[]) (us:=[_]) Y Y)<|A5 Y<|AJ<|AP V results203 Y (by exact ⟨b,V,V⟩)
theorem Nl:BR prog 151 #[] [] (fun v H'=>∃b es ck lm g m,v= .map (some b)/\Co (fun k:Int=>I4 k) es ck lm/\(∀p,p∈lm↔p∈MF g m)/\H'=[[(b,.map es ck)],[(g,.cells #[.func (.func 204) #[] #[]] 224 (0,0))],[(m,.cells #[.func (.func 206) #[] #[]] 224 (0,0))]]):=by
 refine Se func151 ntmps151 [] ?_;intro u R;refine A1<|A5 Y<|A1<|Ze (DX)<|AG fun mb=>Zv (BM (vs:=[(0,.func (.func 196) #[] #[]),(1,.func (.func 197) #[] #[])]) (cs:=#[.func (.func 196) #[] #[],.func (.func 197) #[] #[]]) Y (AY (pl:=#[(0,1),(1,1)]) Z3 Xs (fun _=>by kernel_rfl) AF))<|Ze (EF I1 Ys (EX _) (fun _ _=>trivial) (trivial) Y Y Y Wo) ?_;rintro _ _ ⟨rfl,kv,gm,p8,J,af,rfl⟩;refine Zv (BM (vs:=[(0,.func (.func 196) #[] #[]),(1,.func (.func 197) #[] #[])]) (cs:=#[.func (.func 196) #[] #[],.func (.func 197) #[] #[]]) Y (AY (pl:=#[(0,1),(1,1)]) Z3 Xs (fun _=>by kernel_rfl) AF))<|Ze (EF I1 Ys J (fun _ _=>trivial) (trivial) Y Y Y Wo) ?_;rintro _ _ ⟨rfl,l5,gq,p9,K,ax,rfl⟩;refine Zv (BM (vs:=[(0,.func (.func 198) #[] #[]),(1,.func (.func 199) #[] #[])]) (cs:=#[.func (.func 198) #[] #[],.func (.func 199) #[] #[]]) Y (AY (pl:=#[(0,1),(1,1)]) Z3 Xs (fun _=>by kernel_rfl) AF))<|Ze (EF I1 Ys K (fun _ _=>trivial) (trivial) Y Y Y Wo) ?_;rintro _ _ ⟨rfl,l8,gy,pg,O,bn,rfl⟩;refine Zv (BM (vs:=[(0,.func (.func 200) #[] #[]),(1,.func (.func 201) #[] #[])]) (cs:=#[.func (.func 200) #[] #[],.func (.func 201) #[] #[]]) Y (AY (pl:=#[(0,1),(1,1)]) Z3 Xs (fun _=>by kernel_rfl) AF))<|Ze (EF I1 Ys O (fun _ _=>trivial) (trivial) Y Y Y Wo) ?_;rintro _ _ ⟨rfl,l9,ic,pq,U,cu,rfl⟩;refine Zc [_] Y call203 Y V (PH (.func (.func 204) #[] #[]) V rfl) ?_;rintro _ _ ⟨_,⟨g,rfl,rfl⟩,rfl⟩;refine Zv (BM (vs:=[(0,.func (.func 202) #[] #[]),(1,.func (.func 246) #[] #[I5 g])]) (cs:=#[.func (.func 202) #[] #[],.func (.func 246) #[] #[I5 g]]) Y (AY (pl:=#[(0,1),(1,1)]) Z3 Xs (fun _=>by kernel_rfl) AF))<|Ze (EF I1 Ys U (fun _ _=>trivial) (trivial) Y Y Y Wo) ?_;rintro _ _ ⟨rfl,o8,j3,pz,W,cO,rfl⟩;refine Zc [_] Y call203 Y V (PH (.func (.func 206) #[] #[]) V rfl) ?_;rintro _ _ ⟨_,⟨m,rfl,rfl⟩,rfl⟩
 refine Zv (BM (vs:=[(0,.func (.func 205) #[] #[]),(1,.func (.func 246) #[] #[I5 m])]) (cs:=#[.func (.func 205) #[] #[],.func (.func 246) #[] #[I5 m]]) Y (AY (pl:=#[(0,1),(1,1)]) Z3 Xs (fun _=>by kernel_rfl) AF))<|Ze (EF I1 Ys W (fun _ _=>trivial) (trivial) Y Y Y Wo) ?_;rintro _ _ ⟨rfl,o9,j5,q9,X,d9,rfl⟩;refine Zv (BM (vs:=[(0,.func (.func 207) #[] #[]),(1,.func (.func 208) #[] #[])]) (cs:=#[.func (.func 207) #[] #[],.func (.func 208) #[] #[]]) Y (AY (pl:=#[(0,1),(1,1)]) Z3 Xs (fun _=>by kernel_rfl) AF))<|Ze (EF I1 Ys X (fun _ _=>trivial) (trivial) Y Y Y Wo) ?_;rintro _ _ ⟨rfl,I,G,ek,Z,dn,rfl⟩;refine Zm Y<|AW Y<|Zn [0] ?_;refine Zx<|AJ<|AP V results151 Y (by
  refine ⟨mb,I,G,ek,g,m,V,Z,fun p=>?_,V⟩;rw [dn,d9,cO,cu,bn,ax,af];simp only [MF,DB,Pc,OR,gx];constructor;· rintro (rfl|⟨rfl|⟨rfl|⟨rfl|⟨rfl|⟨rfl|⟨rfl,-⟩,-⟩,-⟩,-⟩,-⟩,-⟩)<;>simp
  · rintro (h|h|h|h|h|h|h)<;>subst h<;>simp)
theorem fQ(q:QM)(c:Chg)(Z:BK q){g m:B8}{s1 s2:List A9}(U:Ij g (bfQ q c) s1)(h2:Ij m (afQ q c) s2):BJ prog (HV q.kd) #[.agg (q.GS c g m (mQ q (bfQ q c)) (mQ q (afQ q c)))] [] (.bool (Ct q c)):=by
 have e1:=U.some_;have e2:=h2.some_
 have X:q.kd=1\/q.kd=2\/q.kd=3\/q.kd=4\/q.kd=5\/q.kd=6\/q.kd=7:=by have:=Z.2.2.2;omega
 have G:=bK q c g m (mQ q (bfQ q c)) (mQ q (afQ q c));have O:=TG q c g m (mQ q (bfQ q c)) (mQ q (afQ q c))
 have W:=xw q c g m (mQ q (bfQ q c)) (mQ q (afQ q c));have I:=xu q c g m (mQ q (bfQ q c)) (mQ q (afQ q c))
 have J:=xq q c g m (mQ q (bfQ q c)) (mQ q (afQ q c));have K:=xn q c g m (mQ q (bfQ q c)) (mQ q (afQ q c))
 rw [e1,e2]at G O I J K;rcases X with h|h|h|h|h|h|h
 · rw [show HV q.kd=196 by rw [h];rfl,show Ct q c=O1 q c by unfold Ct;rw [Ax A0]];exact G
 · rw [show HV q.kd=196 by rw [h];rfl,show Ct q c=O1 q c by unfold Ct;rw [Ax A0]];exact G
 · rw [show HV q.kd=198 by rw [h];rfl,show Ct q c=Uc q c by unfold Ct;rw [As A0,Ax A0]];exact O
 · rw [show HV q.kd=200 by rw [h];rfl,show Ct q c=decide (mQ q (bfQ q c)≠mQ q (afQ q c)) by unfold Ct;rw [As A0,As A0,Ax A0]];exact W
 · rw [show HV q.kd=202 by rw [h];rfl,show Ct q c=(Uc q c||decide (mQ q (bfQ q c)≠mQ q (afQ q c))) by unfold Ct;rw [As A0,As A0,As A0,Ax A0]];exact I
 · rw [show HV q.kd=205 by rw [h];rfl,show Ct q c=(Uc q c||decide (mQ q (bfQ q c)≠mQ q (afQ q c))) by unfold Ct;rw [As A0,As A0,As A0,Ax A0]];exact J
 · rw [show HV q.kd=207 by rw [h];rfl,show Ct q c=(O1 q c||decide (c.t=q.ot)) by unfold Ct;rw [As A0,As A0,As A0,As A0]];exact K
theorem mr(g:1<=k/\k<=7):∀(args:AK) (w:AD),(callFunc (HV k) args).run prog w= .ok (.enter (HV k) args) w:=by
 obtain h|h|h|h|h|h|h:k=1\/k=2\/k=3\/k=4\/k=5\/k=6\/k=7:=by omega
 all_goals (subst h;simp only [HV];first|exact call196|exact call198|exact call200|exact call202|exact call205|exact call207)
variable{q:QM}
theorem BK.kind(h:BK q):1<=q.kd/\q.kd<=7:=by have:=h.2.2.2;omega
theorem Kj(q:QM)(c:Chg):BJ prog 96 #[.agg q.A72,.agg c.A70] [] (.bool (decide (BK q)&&(decide c.ok&&Ct q c))):=by
 refine Se func96 ntmps96 [0,1] ?_;intro u R;refine A1<|Ze (Bx #[_,_,_,_,_,_,_])<|AG fun pq=>Ze (Bx #[_,_,_,_,_,_,_,_,_,_])<|AG fun pc=>A5 Y<|Zq<|BA (n:=18) (0::1::3::7::15::31::63::127::127::383::1023::2047::127::127::12543::32767::65535::131071::[]) 49298 AF AF V<|FG 0 V Wh (AB (cs:=#[_,_,_,_,_,_,_]) F1 CM Y B5 B0)<|Yw 1 3 V (Zu [_] Y call29 Y V (Jd q))<|Cp<|A3 2 V (AO Y)<|CU (t:=7) Y (fun g=>?_) (fun g=>?_);·
  rw [g];refine DO 3 V Wh (AB (cs:=#[_,_,_,_,_,_,_,_,_,_]) GF CC Y B5 B0)<|Yw 4 31 V (Zu [_] Y call94 Y V (VC c))<|Cp<|A3 5 V (AX Y Y)<|A3 6 V (AO Y)<|CU (t:=11) Y (fun h2=>?_) (fun h2=>?_);·
   rw [h2];refine An 8 V (AA (off:=0) CN V rfl AE Y)<|DO 9 V Wh (BF AH Y B0)<|DO 12 V Wh (AB (cs:=#[_,_,_,_,_,_,_]) F1 CM Y B5 B0)<|DO 13 V Wh (AB (cs:=#[_,_,_,_,_,_,_,_,_,_]) GF CC Y B5 B0)<|Zz (l:=[7])<|B7 [true,true,true] [(13,(_,_)),(12,(_,_)),(9,(_,_))] V rfl (Zw [] Y call151 Y V (Nl)) ?_ Bv Aj;rintro _ _ ⟨_,⟨mb,es,ck,lm,U,W,rfl,K,O,rfl⟩,rfl⟩;refine ⟨Zk (Zk (Zk (AZ))),?_⟩;have G:BK q:=HO g
   obtain ⟨pf,m⟩:=uB O K.keys G.kind;refine DO 10 rfl Wh (De I1 Ys Z3 K (fun _ _=>trivial) (trivial) ((by rw [m];exact rfl:_=Value.agg #[.func (.func (HV q.kd)) #[] #[],pf])) Y Y)<|An 11 rfl (XB Xs rfl isAgg257 Y rfl)<|Zz (l:=[14])<|B7 [true,false,false,true] [(10,(_,_)),(9,(_,_))] rfl rfl (Zw [_,_] Y call152 Y rfl (Jl q G.2.1 (by have:=G.2.2.2;omega) c)) ?_ Bv Aj;rintro _ _ ⟨_,⟨X,Z,s1,s2,rfl,I,J,rfl⟩,rfl⟩;refine BW<|Yw 15 65535 V (Zu [_] Y (mr G.kind) Y V (fQ q c G I J))<|Cp<|A3 16 V (AX Y Y)<|A3 17 V (Aq Y)<|Ag<|Zn [4] ?_;refine Zx<|AJ<|AP V results96 Y (by exact ⟨by simp [g,h2],V⟩)
  rw [h2];refine AN 7 V<|AN 8 V<|AN 9 V<|AN 10 V<|AN 11 V<|AN 12 V<|AN 13 V<|AN 14 V<|AN 15 V<|A3 16 V (AL Y Y)<|A3 17 V (Aq Y)<|Ag<|Zn [4] ?_;refine Zx<|AJ<|AP V results96 Y (by exact ⟨by simp [g,h2],V⟩)
 rw [g];refine AN 3 V<|AN 4 V<|A3 5 V (AL Y Y)<|A3 6 V (AO Y)<|AN 7 V<|AN 8 V<|AN 9 V<|AN 10 V<|AN 11 V<|AN 12 V<|AN 13 V<|AN 14 V<|AN 15 V<|A3 16 V (AL Y Y)<|A3 17 V (Aq Y)<|Ag<|Zn [4] ?_;refine Zx<|AJ<|AP V results96 Y (by exact ⟨by simp [g],V⟩)
def ivQ(n:Int):A4:=I4 n
theorem kZ(e:AM)(g c:Nat)(z:A4)(h:c<=maxLen):Bd 1 e (I6 g 0 c) 0 [] [(g,.cells (List.replicate c z).toArray e (0,0))]:=⟨rfl,.inr ⟨g,c,_,(0,0),rfl,rfl,C7 _,h,by simp,by simp,BC _⟩⟩
variable{rows:List AR}{i:Nat}{r:AR}
theorem mP(h:rows[i]?=some r):D5 q (rows.take (i+1))=D5 q (rows.take i)++[Bl r q.bq]:=by
 unfold D5;rw [Bn h,C0];rfl
theorem KP(q:QM)(rows:List AR):(D5 q rows).length=rows.length:=by unfold D5;rw [B6]
theorem xX(h:rows[i]?=some r):(D5 q rows)[i]?=some (Bl r q.bq):=by unfold D5;rw [DP,h];rfl
variable{M:List A9}
theorem gJ(hv:EB M v rows){v0:Int}{U:Bool}(st:Nat->Int×Bool)(h0:st 0=(v0,U))(G:Nat)(us:List A4)(K:∀(args:AK) (w:AD),(callFunc G args).run prog w= .ok (.enter G args) w)(hf:∀(i:Nat) (r:AR),rows[i]?=some r->BJ prog G (.agg #[.slice none 0 0,I4 (st i).1,.bool (st i).2]:: .agg r.A71::us).toArray [M] (.agg #[.slice none 0 0,I4 (st (i+1)).1,.bool (st (i+1)).2])):BJ prog 110 #[v,.agg #[.slice none 0 0,I4 v0,.bool U],.func (.func G) #[] us.toArray] [M] (.agg #[.slice none 0 0,I4 (st rows.length).1,.bool (st rows.length).2]):=by
 have ax:=mL;obtain ⟨p,cap,rfl,⟨hl,af⟩,hg⟩:=id hv;refine Se func110 ntmps110 [0,1,2] ?_;intro u R;refine A1<|Ze (Bx #[_,_,_])<|AG fun Z=>Ze (Al Ge #[_,_,_])<|AG fun re=>A6<|Zq<|A1<|Zm Y<|Zv (Ac C1 Y)<|Zm Y<|A6<|AQ<|Zb [11,2,4,6,9,10] ?_;refine BI (e0:=[(11,_)]) (fun m e H=>∃(i:Nat),m=rows.length -i/\(i<=rows.length)/\e=[(11,I4 (i:Int))]/\H=[[(Z,.cells #[.slice none 0 0,I4 (st i).1,.bool (st i).2] 61 (0,0))]]) (by exact ⟨0,rfl,C7 _,rfl,by rw [h0]⟩) Wp ?_;rintro _ _ _ ⟨i,rfl,hi,rfl,rfl⟩;refine A1<|Zv (Ay Y Y)<|A6<|Zq<|Aw Y (fun J=>?_) (fun J=>?_);·
  obtain ⟨r,W⟩:∃r,rows[i]?=some r:=⟨_,BT J⟩;obtain ⟨g,off,cur,T,zz,rfl,O,X,I⟩:=hg i r W;refine AC<|Zx<|Zq<|AQ<|A1<|BU (Ae C1 B3 Y Y A0)<|CS (cs:=[(g,.cells cur T zz)]) (by simp [O]) (AB (cs:=r.A71) D0 B3 Y A0 I) V rfl<|Ze (Al F0 #[_,_,_,_,_])<|AG fun rb=>Xe (Xw B3 r.A71)<|A6<|Zg<|Zm Y<|Zo Wh (AB (cs:=#[_,_,_]) Cd B9 Y B5 B0)<|Zo Wh (AB (cs:=#[_,_,_,_,_]) D0 B3 Y B5 B0)<|Xr [_,_] Y (K) Y rfl (hf i r W)<|Xe (BL B9 Y Y Hb Wu (by exact (rfl:_=(#[.slice none 0 0,I4 (st (i+1)).1,.bool (st (i+1)).2]:AK))) FA B5 (by exact BC _))<|Z0<|A8<|Zx<|Zg<|Ya (n:=1) Y Y<|Zm Y<|Z0<|Zn [11,2,4,6,9,10] ?_;refine Aa (e':=[(11,_)]) (by exact ⟨i+1,V,by omega,V,V⟩)
 have ei:i=rows.length:=by omega
 subst ei;refine BD<|Zt<|Zt<|AV<|Zx<|A1<|Zo Wh (AB (cs:=#[_,_,_]) Cd B9 Y B5 B0)<|Xe (Xw B9 _)<|A6<|AJ<|D6 V results110 Y Wh (Au Cd B9 Wn (V)) (by exact ⟨V,V⟩)
variable{p:B8}{cap:Nat}{ms:List Int}
theorem Tn(hc:FM M p (ms.map ivQ))(hl:ms.length<=maxLen)(af:ms.length<=cap){v0:Int}{W:Bool}(st:Nat->Int×Bool)(h0:st 0=(v0,W))(G:Nat)(us:List A4)(O:∀(args:AK) (w:AD),(callFunc G args).run prog w= .ok (.enter G args) w)(hf:∀(i:Nat) (x:Int),ms[i]?=some x->BJ prog G (.agg #[.slice none 0 0,I4 (st i).1,.bool (st i).2]::I4 x::us).toArray [M] (.agg #[.slice none 0 0,I4 (st (i+1)).1,.bool (st (i+1)).2])):BJ prog 112 #[.slice p ms.length cap,.agg #[.slice none 0 0,I4 v0,.bool W],.func (.func G) #[] us.toArray] [M] (.agg #[.slice none 0 0,I4 (st ms.length).1,.bool (st ms.length).2]):=by
 have ax:=mL;refine Se func112 ntmps112 [0,1,2] ?_;intro u R;refine A1<|Ze (Bx #[_,_,_])<|AG fun Z=>Ze (Al Ge #[_,_,_])<|AG fun re=>A6<|Zq<|A1<|Zm Y<|Zv (Ac DE Y)<|Zm Y<|A6<|AQ<|Zb [11,2,4,6,9,10] ?_;refine BI (e0:=[(11,_)]) (fun m e H=>∃(i:Nat),m=ms.length -i/\(i<=ms.length)/\e=[(11,I4 (i:Int))]/\H=[[(Z,.cells #[.slice none 0 0,I4 (st i).1,.bool (st i).2] 61 (0,0))]]) (by exact ⟨0,rfl,C7 _,rfl,by rw [h0]⟩) Wp ?_;rintro _ _ _ ⟨i,rfl,hi,rfl,rfl⟩;refine A1<|Zv (Ay Y Y)<|A6<|Zq<|Aw Y (fun K=>?_) (fun K=>?_);·
  obtain ⟨x,X⟩:∃x,ms[i]?=some x:=⟨_,BT K⟩;obtain ⟨g,off,cur,T,zz,rfl,U,J⟩:=hc i (ivQ x) (by rw [DP,X];rfl);have I:cur[off+i]?=some (I4 x):=J
  refine AC<|Zx<|Zq<|AQ<|A1<|BU (CG DE AE Y Y cn)<|CS (cs:=[(g,.cells cur T zz)]) (by simp [U]) (BF AH Y I) rfl rfl<|A5 Y<|Zg<|Zm Y<|Zo Wh (AB (cs:=#[_,_,_]) Cd B9 Y B5 B0)<|Zm Y<|Xr [_,_] Y (O) Y rfl (hf i x X)<|Xe (BL B9 Y Y Hb Wu (by exact (rfl:_=(#[.slice none 0 0,I4 (st (i+1)).1,.bool (st (i+1)).2]:AK))) FA B5 (by exact BC _))<|Z0<|A8<|Zx<|Zg<|Ya (n:=1) Y Y<|Zm Y<|Z0<|Zn [11,2,4,6,9,10] ?_;refine Aa (e':=[(11,_)]) (by exact ⟨i+1,V,by omega,V,V⟩)
 have ei:i=ms.length:=by omega
 subst ei;refine BD<|Zt<|Zt<|AV<|Zx<|A1<|Zo Wh (AB (cs:=#[_,_,_]) Cd B9 Y B5 B0)<|Xe (Xw B9 _)<|A6<|AJ<|D6 V results112 Y Wh (Au Cd B9 Wn (V)) (by exact ⟨V,V⟩)
theorem Mo(hv:EB M v rows)(q:QM)(U:0<=q.bq/\q.bq<=3)(hb:rows.length<=1000000000000):BR prog 113 #[.agg q.A72,v] [M] (fun r H'=>∃s,Bd 1 3 r (D5 q rows).length ((D5 q rows).map ivQ) s/\H'=[s,M]):=by
 have cu:=mL;obtain ⟨p,cap,rfl,⟨hl,bn⟩,hg⟩:=id hv;refine Se func113 ntmps113 [0,1] ?_;intro u R;refine A1<|Ze (Bx #[_,_,_,_,_,_,_])<|AG fun bq=>A5 Y<|A1<|Zm Y<|Zv (Ac C1 Y)<|Ze (Gc (by_:=8) (l:=0) DE (V:Tryz.prog.info? 3=some Tryz.t3) V rfl V rfl Y Y ?_ ?_ ?_) ?_
 (focus (omega))
 (focus (omega))
 (focus (omega))
 rintro _ _ ⟨mk,rfl,rfl⟩;refine A5 Y<|Zq<|A1<|Zm Y<|Zv (Ac C1 Y)<|Zm Y<|A6<|AQ<|Zb [5,13,2,11,12] ?_;refine BI (e0:=[(5,_),(13,_)]) (fun m e H=>∃(i:Nat) (vo:A4) (O:List A9),m=rows.length -i/\(i<=rows.length/\Bd 1 3 vo i ((D5 q (rows.take i)).map ivQ) O)/\e=[(5,vo),(13,I4 (i:Int))]/\H=[O]) (by exact ⟨0,_,_,rfl,⟨C7 _,by rw [IF];exact kZ _ _ _ (I4 0) A0⟩,rfl,rfl⟩) Wp ?_;rintro _ _ _ ⟨i,vo,O,rfl,⟨hi,I⟩,rfl,rfl⟩;obtain ⟨qo,co,rfl⟩:=I.form;refine A1<|Zv (Ay Y Y)<|A6<|Zq<|Aw Y (fun K=>?_) (fun K=>?_);·
  obtain ⟨r,X⟩:∃r,rows[i]?=some r:=⟨_,BT K⟩;obtain ⟨g,off,cur,T,zz,rfl,W,Z,J⟩:=hg i r X;refine AC<|Zx<|Zq<|AQ<|A1<|BU (Ae C1 B3 Y Y A0)<|CS (cs:=[(g,.cells cur T zz)]) (by simp [W]) (AB (cs:=r.A71) D0 B3 Y A0 J) V rfl<|Ze (Al F0 #[_,_,_,_,_])<|AG fun rb=>Xe (Xw B3 r.A71)<|A6<|Zg<|Zm Y<|Zo Wh (AB (cs:=#[_,_,_,_,_]) D0 B3 Y B5 B0)<|Zh 5 CN V rfl AE Y<|Zl AH Y<|Xr [_,_] Y SO Y V (G8 r q.bq U)<|Ze (Ai (vs:=[_]) (cs:=[_]) DE AE HJ Y V rfl V rfl V)<|AG fun gb=>Ze (BV (by_:=8) (sz:=1) DE (V:Tryz.prog.info? 3=some Tryz.t3) V rfl V rfl Y (I) Y (Dl 1 gb 1 1 3 (0,0) [I4 (Bl r q.bq)] V) Wo Wo Ft A0 A0) ?_;rintro _ _ ⟨cO,G,rfl⟩;obtain ⟨ax,af,rfl⟩:=G.form;refine AW Y<|Zn [2,5,11,12,13] ?_;refine A8<|Zx<|Zg<|Ya (n:=1) Y Y<|Zm Y<|Z0<|Zn [5,13,2,11,12] ?_;refine Aa (e':=[(5,_),(13,_)]) (by exact ⟨i+1,_,_,rfl,⟨by omega,BZ G rfl (by rw [mP X,C0];rfl)⟩,rfl,rfl⟩)
 have ei:i=rows.length:=by omega
 subst ei;refine BD<|Zt<|Zt<|AV<|Zx<|A1<|Zm Y<|A5 Y<|AJ<|AP rfl results113 Y (by exact ⟨O,BZ I (KP q rows).symm (by rw [G3]),rfl⟩)
theorem NP(v:A4)(g:v.oneCell'=true)(hc:v.cells=#[v]):BR prog 115 #[v] [] (fun r H'=>∃b,r= .func (.func 174) #[] #[I5 b]/\H'=[[(b,.cells #[v] 224 (0,0))]]):=by
 refine Se func115 ntmps115 [0] ?_;intro u R;refine A1<|Ze (F5 Y (cs:=#[v]) hc)<|AG fun b=>A5 Y<|A1<|Zv (Bg (vs:=[]) (us:=[_]) Y Y)<|A5 Y<|AJ<|AP V results115 Y (by exact ⟨b,V,V⟩)
theorem oC(v n:Int)(f:Bool)(b g:Nat)(lt:Int->Int->Bool)(m:∀(args:AK) (w:AD),(callFunc g args).run prog w= .ok (.enter g args) w)(G:∀x y:Int,BJ prog g #[I4 x,I4 y] [] (.bool (lt x y))):BJ prog 174 #[.agg #[.slice none 0 0,I4 v,.bool f],I4 n,I5 b] [[(b,.cells #[.func (.func g) #[] #[]] 224 (0,0))]] (.agg #[.slice none 0 0,I4 (if !f||lt n v then n else v),.bool true]):=by
 refine Se func174 ntmps174 [0,1,2] ?_;intro u R;refine A1<|Ze (Bx #[_,_,_])<|AG fun J=>Ze (Al Ge #[_,_,_])<|AG fun K=>A6<|Zq<|A1<|Zh 2 E6 V rfl DM Y<|Zl Fk Y ?_;refine Zv (Bt Y)<|Zm Y<|Ah (t:=9) Y V (fun I=>?_) (fun I=>?_);·
  refine A7 Y V<|A7 Y V<|A7 Y V<|A7 Y V<|A7 Y V<|Zv (AX Y Y)<|A6<|DT Y<|Zg<|Zm Y<|Zh 1 E6 V rfl AE Y<|Xe (Zs AE Y Y V (hi:=by(simp;done))) ?_;refine Z0<|Zn [3,5] ?_;refine Zx<|A1<|Zh 2 E6 V rfl DM Y<|Xe (Zs DM Y Y V (hi:=by(simp;done))) ?_;refine A6<|A1<|Zo Wh (AB (cs:=#[_,_,_]) Cd B9 Y B5 B0) ?_;refine Xe (Xw B9 _) ?_;refine A6<|AJ<|D6 V results174 Y Wh (Au Cd B9 Wn (V)) (by exact ⟨by simp_all;rfl,V⟩)
 refine Yl isAgg224 Y ?_;refine Zf Y Y<|Yf 1 E6 V rfl AE Y<|Yl AH Y ?_;refine Xr [_,_] Y (m) Y V (G n v) ?_;refine Zv (AL Y Y)<|A6<|AU Y (fun h2=>?_) (fun h2=>?_);·
  refine Zg<|Zm Y<|Zh 1 E6 V rfl AE Y<|Xe (Zs AE Y Y V (hi:=by(simp;done))) ?_;refine Z0<|Zn [3,5] ?_;refine Zx<|A1<|Zh 2 E6 V rfl DM Y<|Xe (Zs DM Y Y V (hi:=by(simp;done))) ?_;refine A6<|A1<|Zo Wh (AB (cs:=#[_,_,_]) Cd B9 Y B5 B0) ?_;refine Xe (Xw B9 _) ?_;refine A6<|AJ<|D6 V results174 Y Wh (Au Cd B9 Wn (V)) (by exact ⟨by simp_all;rfl,V⟩)
 refine AC<|Zx<|A1<|Zh 2 E6 V rfl DM Y<|Xe (Zs DM Y Y V (hi:=by(simp;done))) ?_;refine Z0<|Zn [3,5] ?_;refine Zx<|A1<|Zo Wh (AB (cs:=#[_,_,_]) Cd B9 Y B5 B0) ?_;refine Xe (Xw B9 _) ?_;refine A6<|AJ<|D6 V results174 Y Wh (Au Cd B9 Wn (V)) (by exact ⟨by simp_all;rfl,V⟩)
theorem gD(x y:Int):BJ prog 116 #[I4 x,I4 y] [] (.bool (decide (x<y))):=by
 refine Se func116 ntmps116 [0,1] ?_;intro u R;refine A1<|A5 Y<|A1<|Zm Y<|Zm Y<|Zv (EH Y Y)<|A5 Y<|AJ<|AP V results116 Y (by exact ⟨by rfl,V⟩)
theorem gB(x y:Int):BJ prog 117 #[I4 x,I4 y] [] (.bool (decide (y<x))):=by
 refine Se func117 ntmps117 [0,1] ?_;intro u R;refine A1<|A5 Y<|A1<|Zm Y<|Zm Y<|Zv (Ed Y Y)<|A5 Y<|AJ<|AP V results117 Y (by exact ⟨by rfl,V⟩)
theorem gG(v:Int)(f:Bool)(r:AR)(h:-9223372036854775807<=v/\v<=9223372036854775806):BJ prog 111 #[.agg #[.slice none 0 0,I4 v,.bool f],.agg r.A71] [] (.agg #[.slice none 0 0,I4 (v+1),.bool f]):=by
 refine Se func111 ntmps111 [0,1] ?_;intro u R;refine A1<|Ze (Bx #[_,_,_])<|AG fun m=>Ze (Bx #[_,_,_,_,_])<|AG fun G=>Ze (Al Ge #[_,_,_])<|AG fun g=>A6<|A1<|Zh 1 E6 V rfl AE Y<|Zl AH Y<|Yi Y Y<|Zh 1 E6 V rfl AE Y<|Xe (Zs AE Y Y V (hi:=by(simp;done)))<|A6<|A1<|Zo Wh (AB (cs:=#[_,_,_]) Cd B9 Y B5 B0)<|Xe (Xw B9 _)<|A6<|AJ<|D6 V results111 Y Wh (Au Cd B9 Wn (V)) (by exact ⟨V,V⟩)
theorem gF(v n:Int)(f:Bool)(h:-9223372036854775807<=v+n/\v+n<=9223372036854775806):BJ prog 114 #[.agg #[.slice none 0 0,I4 v,.bool f],I4 n] [] (.agg #[.slice none 0 0,I4 (v+n),.bool f]):=by
 refine Se func114 ntmps114 [0,1] ?_;intro u R;refine A1<|Ze (Bx #[_,_,_])<|AG fun m=>Ze (Al Ge #[_,_,_])<|AG fun g=>A6<|A1<|Zh 1 E6 V rfl AE Y<|Zl AH Y<|Zm Y<|Yi Y Y<|Zh 1 E6 V rfl AE Y<|Xe (Zs AE Y Y V (hi:=by(simp;done)))<|A6<|A1<|Zo Wh (AB (cs:=#[_,_,_]) Cd B9 Y B5 B0)<|Xe (Xw B9 _)<|A6<|AJ<|D6 V results114 Y Wh (Au Cd B9 Wn (V)) (by exact ⟨V,V⟩)
def z8(r:AR):A4:= .agg r.A71
theorem tL{g:List (Int×A4)}{I:Int}(J:(lm.map (·.1)).Nodup)(m:(g.map (·.1)).Nodup)(G:∀p,p∈g↔p=(I,v)\/(p∈lm/\p.1≠I))(k:Int):Dp k g=if k=I then some v else Dp k lm:=by
 split
 · rename_i h
   rw [h];exact D7 m ((G _).2 (.inl V))
 · rename_i h
   cases hg:Dp k lm with
   |some x=>exact D7 m ((G _).2 (.inr ⟨QD hg,h⟩))
   |none=>
    cases hg2:Dp k g with
    |none=>rfl
    |some x=>
     rcases (G _).1 (QD hg2)with e|⟨e,_⟩
     · injection e with e1 e2;exact absurd e1 h
     · rw [D7 J e]at hg;cases hg
variable{others:List AR}{x:AR}
theorem VX(h:others[i]?=some x)(k:Int):Dc q (others.take (i+1)) k=(Dc q (others.take i) k).or (if x.t=q.ot/\x.k=k then some x else none):=by
 unfold Dc;rw [Bn h,List.find?_append];congr 1;simp only [List.find?_cons,List.find?_nil];split<;>simp_all
def UH(q:QM)(others:List AR)(lm:List (Int×A4)):Prop:=∀k,Dp k lm=(Dc q others k).map z8
theorem Sq(h:others[i]?=some x)(G:UH q (others.take i) lm)(g:¬x.t=q.ot\/(Dc q (others.take i) x.k).isSome=true):UH q (others.take (i+1)) lm:=by
 intro k;rw [G k,VX h k];cases hg:Dc q (others.take i) k with
 |some y=>rfl
 |none=>
  rw [As];· rfl
  · rintro ⟨m,rfl⟩
    rcases g with g|g
    · exact g m
    · rw [hg]at g;cases g
theorem lS{g:List (Int×A4)}(h:others[i]?=some x)(J:UH q (others.take i) lm)(U:x.t=q.ot)(G:(Dc q (others.take i) x.k).isSome=false)(K:(lm.map (·.1)).Nodup)(m:(g.map (·.1)).Nodup)(O:∀p,p∈g↔p=(x.k,z8 x)\/(p∈lm/\p.1≠x.k)):UH q (others.take (i+1)) g:=by
 intro k;rw [tL K m O k,VX h k];split
 · rename_i hk
   have:Dc q (others.take i) k=none:=by
    rw [hk];cases hg:Dc q (others.take i) x.k with
    |none=>rfl
    |some y=>rw [hg]at G;cases G
   rw [this,Ax ⟨U,hk.symm⟩];rfl
 · rename_i hk
   rw [J k,As (fun I=>hk I.2.symm)];cases Dc q (others.take i) k<;>rfl
variable{y:AR}
theorem VY(g:UH q others lm)(k:Int)(m:y=(Dc q others k).getD ⟨0,0,⟨0,0,0⟩⟩):(Dp k lm).getD (.agg #[I4 (⟨0,0,⟨0,0,0⟩⟩:AR).t,I4 (⟨0,0,⟨0,0,0⟩⟩:AR).k,I4 (⟨0,0,⟨0,0,0⟩⟩:AR).v.a,I4 (⟨0,0,⟨0,0,0⟩⟩:AR).v.b,I4 (⟨0,0,⟨0,0,0⟩⟩:AR).v.c])= .agg y.A71/\(Dp k lm).isSome=(Dc q others k).isSome:=by
 rw [g k,m];cases Dc q others k<;>exact ⟨rfl,rfl⟩
theorem VW(g:y=(Dc q others k).getD ⟨0,0,⟨0,0,0⟩⟩)(h:(Dc q others k).isSome=true):Dc q others k=some y:=by
 rw [g];cases hp:Dc q others k with
 |none=>rw [hp]at h;cases h
 |some x=>rfl
variable{s:List A9}
theorem LM{sz:Nat}{e:AM}{n c k:Nat}{xs:List A4}(h:Bd sz e (.slice p n c) k xs s):FM s p xs:=by
 intro j u G;obtain ⟨J,⟨_,rfl,_⟩|⟨g,cap,cur,z,hv,rfl,_,_,_,m,_⟩⟩:=h
 · have:xs=[]:=Ln A0
   subst this;cases G
 · injection hv with h1 h2 h3
   subst h1;refine ⟨g,0,cur,e,z,V,by simp,?_⟩;have I:=(C4.1 G).1
   rw [<-m,HI,Ax A0,HQ]at G;rwa [D3]
theorem QG(h:rows[i]?=some r):Io q (rows.take (i+1)) others=Io q (rows.take i) others++Il q others r:=by
 unfold Io;rw [Bn h,P2,nn]
theorem VZ(h:Dc q others (Bl r q.bq)=some y):Il q others r=[r,y]:=by unfold Il;rw [h]
theorem lT(h:Dc q others (Bl r q.bq)=none):Il q others r=[]:=by unfold Il;rw [h]
theorem rY(q:QM)(others:List AR)(r:AR):(Il q others r).length<=2:=by unfold Il;split<;>simp
theorem TR(q:QM)(rows others:List AR):(Io q rows others).length<=2*rows.length:=by
 induction rows with
 |nil=>simp [Io]
 |cons r rows ih=>
  have:=rY q others r;unfold Io at*;rw [HW,Bm,E3];omega
variable{vo:A4}
set_option maxHeartbeats 1000000 in
theorem ZN(hv:EB M v rows)(ho:EB M vo others)(q:QM)(gy:0<=q.bq/\q.bq<=3)(hb:rows.length<=100000000000):BR prog 118 #[.agg q.A72,v,vo] [M] (fun r H'=>∃s,Bd 5 80 r (Io q rows others).length (Af (Io q rows others)) s/\H'=[s,M]):=by
 have sw:=mL;obtain ⟨p,cap,rfl,⟨hl,r9⟩,hg⟩:=id hv;obtain ⟨po,p8,rfl,⟨sj,p9⟩,j3⟩:=id ho;refine Se func118 ntmps118 [0,1,2] ?_;intro u R;refine A1<|Ze (Bx #[_,_,_,_,_,_,_])<|AG fun bq=>A5 Y<|A1<|Ze (DX)<|AG fun mb=>A5 Y<|Zq<|A1<|Zm Y<|Zv (Ac C1 Y)<|Zm Y<|A6<|AQ<|Zb [19,1,3,6,7,17,18] ?_;refine BI (e0:=[(19,_)]) (fun m e H=>∃(i:Nat) (es:Array MapEntry) (ck:Nat) (lm:List (Int×A4)),m=others.length -i/\(i<=others.length/\Co (fun k:Int=>I4 k) es ck lm/\UH q (others.take i) lm)/\e=[(19,I4 (i:Int))]/\H=[[(mb,.map es ck)]]) (by exact ⟨0,#[],0,[],V,⟨C7 _,EX _,fun k=>rfl⟩,V,V⟩) Wp ?_;rintro _ _ _ ⟨i,es,ck,lm,rfl,⟨hi,W,U⟩,rfl,rfl⟩;refine A1<|Zv (Ay Y Y)<|A6<|Zq<|Aw Y (fun G=>?_) (fun G=>?_);·
  obtain ⟨x,hx⟩:∃x,others[i]?=some x:=⟨_,BT G⟩;obtain ⟨g1,q9,Z,T1,l9,rfl,j5,pq,ax⟩:=j3 i x hx;refine AC<|Zx<|Zq<|AQ<|A1<|BU (Ae C1 B3 Y Y A0)<|CS (cs:=[(g1,.cells Z T1 l9)]) (by simp [j5]) (AB (cs:=x.A71) D0 B3 Y A0 ax) V rfl<|Ze (Al F0 #[_,_,_,_,_])<|AG fun bx=>Xe (Xw B3 x.A71)<|A6<|Zq ?_;obtain ⟨y0,dn⟩:∃y,y=(Dc q (others.take i) x.k).getD ⟨0,0,⟨0,0,0⟩⟩:=⟨_,rfl⟩;refine Zg<|Zm Y<|Zh 1 G1 V rfl AE Y<|Zl AH Y<|Zo Wh (EU I1 underlying300 F0 W (fun _ _=>trivial) (trivial) (VY U x.k dn) Y Y)<|Zm Y<|Zd Y V<|Zd Y V<|Ze (Al F0 #[_,_,_,_,_])<|AG fun bt=>Xe (Xw B3 y0.A71)<|AW Y<|Zn [1,3,6,7,9,11,17,18,19] ?_;refine Zx<|Zq ?_;obtain ⟨y0,dn⟩:∃y,y=(Dc q (others.take i) x.k).getD ⟨0,0,⟨0,0,0⟩⟩:=⟨_,rfl⟩;refine Zg<|Zh 0 G1 V rfl AE Y<|Zl AH Y<|Zh 6 CN V rfl AE Y<|Zl AH Y<|Zv (CP Y Y)<|Zm Y<|Ao (t:=35) Y V (fun h1=>?_) (fun h1=>?_);·
   refine Zf Y Y<|Yg (Bt Y)<|Zv (AX Y Y)<|A6<|AU Y (fun h2=>?_) (fun h2=>?_);·
    refine Zg<|Zm Y<|Zh 1 G1 V rfl AE Y<|Zl AH Y<|Zo Wh (AB (cs:=#[_,_,_,_,_]) D0 B3 Y B5 B0)<|Ze (FH I1 underlying300 W (fun _ _=>trivial) (trivial) Y Y Y Wo) ?_;rintro _ _ ⟨rfl,qw,ql,l8,I,l5,rfl⟩;have gq:UH q (others.take (i+1)) l8:=lS hx U h1 (by simpa using h2) W.keys I.keys l5
    refine Z0<|Zn [1,3,6,7,17,18,19] ?_;refine A8<|Zx<|Zg<|Ya (n:=1) Y Y<|Zm Y<|Z0<|Zn [19,1,3,6,7,17,18] ?_;refine Aa (e':=[(19,_)]) (by exact ⟨i+1,_,_,_,V,⟨by omega,I,gq⟩,V,V⟩)
   refine AC<|A8<|Zx<|Zg<|Ya (n:=1) Y Y<|Zm Y<|Z0<|Zn [19,1,3,6,7,17,18] ?_;refine Aa (e':=[(19,_)]) (by exact ⟨i+1,es,ck,lm,rfl,⟨by omega,W,Sq hx U (by first|exact .inl A0|exact .inr (by simpa using h2))⟩,rfl,rfl⟩)
  refine A7 Y V<|A7 Y V<|Zv (AL Y Y)<|A6<|D9 Y<|AC<|A8<|Zx<|Zg<|Ya (n:=1) Y Y<|Zm Y<|Z0<|Zn [19,1,3,6,7,17,18] ?_;refine Aa (e':=[(19,_)]) (by exact ⟨i+1,es,ck,lm,rfl,⟨by omega,W,Sq hx U (by first|exact .inl A0|exact .inr (by simpa using h2))⟩,rfl,rfl⟩)
 have ei:i=others.length:=by omega
 subst ei;rw [G3]at U;refine BD<|Zt<|Zt<|AV<|Zx<|Zq<|A1<|Zo Wh (AB (cs:=#[_,_,_,_,_,_,_]) F1 CM Y B5 B0)<|Zm Y<|Zc [_,_] Y call113 Y V (Mo hv q gy A0) ?_;rintro _ _ ⟨_,⟨sm,d9,rfl⟩,rfl⟩;obtain ⟨gm,cm,rfl⟩:=d9.form;refine Zv (Ac DE Y)<|Zm Y<|A6<|AQ<|Bc ?_;have ic:FM sm gm ((D5 q rows).map ivQ):=LM d9
 have pg:=KP q rows;refine Zb [6,48,1,7,46,47] ?_;refine BI (e0:=[(6,_),(48,_)]) (fun m e H=>∃(i:Nat) (w:A4) (so:List A9),m=rows.length -i/\(i<=rows.length/\Bd 5 80 w (Io q (rows.take i) others).length (Af (Io q (rows.take i) others)) so)/\e=[(6,w),(48,I4 (i:Int))]/\H=[so]) (by exact ⟨0,.slice none 0 0,[],rfl,⟨C7 _,by rw [IF];exact Bj 5 _⟩,rfl,rfl⟩) Wp ?_;rintro _ _ _ ⟨i,w,so,rfl,⟨hi,g⟩,rfl,rfl⟩;obtain ⟨qo,co,rfl⟩:=g.form;have qz:(Io q (rows.take i) others).length<=2*i:=Q1 (TR _ _ _) (by rw [CD];omega)
 refine A1<|Zv (Ay Y Y)<|A6<|Zq<|Aw Y (fun G=>?_) (fun G=>?_);·
  obtain ⟨r,hr⟩:∃r,rows[i]?=some r:=⟨_,BT A0⟩;obtain ⟨g2,ek,J,T2,o8,rfl,I,bn⟩:=ic i (ivQ (Bl r q.bq)) (by rw [DP,xX hr];rfl);have cO:J[ek+i]?=some (I4 (Bl r q.bq)):=bn
  obtain ⟨X,O⟩:∃y,y=(Dc q others (Bl r q.bq)).getD ⟨0,0,⟨0,0,0⟩⟩:=⟨_,rfl⟩;refine AC<|Zx<|Zq<|AQ<|A1<|Zm Y<|BU (CG DE AE Y Y cn)<|CS (cs:=[(g2,.cells J T2 o8)]) (by simp [I]) (BF AH Y cO) rfl rfl<|Za Y<|A5 Y<|A1<|Zm Y<|Zm Y<|Zo Wh (EU I1 underlying300 F0 W (fun _ _=>trivial) (trivial) (VY U (Bl r q.bq) O) Y Y)<|Zm Y<|Zd Y rfl<|Zd Y rfl<|Ze (Al F0 #[_,_,_,_,_])<|AG fun qb=>Xe (Xw B3 X.A71)<|AW Y<|Zn [1,6,7,12,14,15,46,47,48] ?_;refine Zx<|A1<|Zm Y<|A6<|AU Y (fun h5=>?_) (fun h5=>?_);·
   obtain ⟨g3,qa,af,T3,o9,rfl,kv,pz,cu⟩:=hg i r hr;refine BA (n:=9) (0::0::0::6::14::0::62::127::255::[]) 192 AF AF V<|A3 0 V (AO Y)<|A3 1 V (AO Y)<|A3 2 V (AO Y)<|A3 3 V (Ae C1 B3 Y Y A0)<|Cc (b:=g3) (x:= .cells af T3 o9) (D':=31) 4 V rfl V (by simp [kv]) (AB (cs:=r.A71) D0 B3 Y A0 cu) ?_;refine FG 5 V Wh (AB (cs:=#[_,_,_,_,_]) D0 B3 Y B5 B0)<|Yw 6 127 V (Ai (vs:=[_,_]) (cs:=[_,_,_,_,_,_,_,_,_,_]) C1 B3 F0 Y V rfl V rfl V)<|AG fun gb=>Yw 7 255 V (BV (by_:=40) (sz:=5) C1 (V:Tryz.prog.info? 80=some Tryz.t80) V rfl V rfl Y (g) Y (Dl 5 gb 2 2 80 (0,0) [I4 r.t,I4 r.k,I4 r.v.a,I4 r.v.b,I4 r.v.c,I4 X.t,I4 X.k,I4 X.v.a,I4 X.v.b,I4 X.v.c] V) Wo Wo Ft A0 A0) ?_;rintro _ _ ⟨sJ,K,rfl⟩;obtain ⟨qx,qj,rfl⟩:=K.form;refine A3 8 V (Aq Y)<|Ag<|A8<|Zx<|Zg<|Ya (n:=1) Y Y<|Zm Y<|Z0<|Zn [6,48,1,7,46,47] ?_;refine Aa (e':=[(6,_),(48,_)]) (by exact ⟨i+1,_,_,rfl,⟨by omega,BZ K (by rw [QG hr,VZ (VW O h5),Bm];rfl) (by rw [QG hr,VZ (VW O h5),Bo];rfl)⟩,rfl,rfl⟩)
  refine AC<|A8<|Zx<|Zg<|Ya (n:=1) Y Y<|Zm Y<|Z0<|Zn [6,48,1,7,46,47] ?_;refine Aa (e':=[(6,_),(48,_)]) (by exact ⟨i+1,_,so,rfl,⟨by omega,by rw [QG hr,lT (qk.1 (by simpa using h5)),D2];exact g⟩,rfl,rfl⟩)
 have ei:i=rows.length:=by omega
 subst ei;rw [G3]at g⊢;refine BD<|Zt<|Zt<|AV<|Zx<|A1<|Zm Y<|A5 Y<|AJ<|AP V results118 Y (by exact ⟨so,g,V⟩)
def IY(q:QM)(rows others:List AR):CB:=if BK q then FR q rows others else CB.none
theorem zK(h:¬BK q):IY q rows others=⟨[],0,false⟩:=As h
theorem PE(h:BK q):IY q rows others=FR q rows others:=Ax h
theorem pZ(h:BK q)(k:q.kd=3):IY q rows others=⟨[],rows.length,false⟩:=by rw [PE h];unfold FR;rw [Ax k]
theorem pT(h:BK q)(k:q.kd=4):IY q rows others=⟨[],Lh (D5 q rows),false⟩:=by rw [PE h];unfold FR;rw [As A0,Ax k]
theorem pS(h:BK q)(k:q.kd=5):IY q rows others=EY (fun a b=>decide (a<b)) (D5 q rows):=by rw [PE h];unfold FR;rw [As A0,As A0,Ax k]
theorem pP(h:BK q)(k:q.kd=6):IY q rows others=EY (fun a b=>decide (b<a)) (D5 q rows):=by rw [PE h];unfold FR;rw [As A0,As A0,As A0,Ax k]
theorem pN(h:BK q)(k:q.kd=7):IY q rows others=⟨Io q rows others,0,false⟩:=by rw [PE h];unfold FR;rw [As A0,As A0,As A0,As A0,Ax k]
theorem pa(h:BK q)(g:¬q.kd=3)(m:¬q.kd=4)(G:¬q.kd=5)(I:¬q.kd=6)(J:¬q.kd=7):IY q rows others=⟨rows,0,false⟩:=by rw [PE h];unfold FR;rw [As g,As m,As G,As I,As J]
theorem kM{x:Int}(h:ms[i]?=some x):Lh (ms.take (i+1))=Lh (ms.take i)+x:=by unfold Lh;rw [Bn h,bm];rfl
theorem Rj(B:Int):∀(ms:List Int),(∀m∈ms,-B<=m/\m<=B)->-(ms.length*B)<=Jt ms/\Jt ms<=ms.length*B
 |[],_=>by simp [Jt]
 |m::ms,h=>by
  have G:=h m B4;have h2:=Rj B ms (fun y g=>h y (E7 _ g))
  have I:((m::ms).length:Int)*B=ms.length*B+B:=by rw [E3];push_cast;rw [Int.add_mul,Int.one_mul]
  simp only [Jt];omega
theorem j4(h:∀m∈ms,-1000000000<=m/\m<=1000000000)(I:ms.length<=1000000000)(i:Nat):-1000000000000000000<=Lh (ms.take i)/\Lh (ms.take i)<=1000000000000000000:=by
 have G:=Rj 1000000000 (ms.take i) (fun m g=>h m (On g));have h2:(ms.take i).length<=1000000000:=by rw [CD];omega
 unfold Lh;rw [Ms];omega
theorem o7{lt:Int->Int->Bool}{x:Int}(h:ms[i]?=some x):EY lt (ms.take (i+1))=⟨(EY lt (ms.take i)).rows,if !(EY lt (ms.take i)).fnd||lt x (EY lt (ms.take i)).val then x else(EY lt (ms.take i)).val,true⟩:=by unfold EY;rw [Bn h,bm];rfl
theorem Vz(lt:Int->Int->Bool)(ms:List Int):∀r:CB,(ms.foldl (fun r n=>⟨r.rows,if !r.fnd||lt n r.val then n else r.val,true⟩:CB->Int->CB) r).rows=r.rows:=by
 induction ms with
 |nil=>intro r;rfl
 |cons m ms ih=>intro r;rw [Up,ih]
theorem gY(hv:EB M v rows)(G:rows.length<=1000000000):BJ prog 110 #[v,.agg #[.slice none 0 0,I4 0,.bool false],.func (.func 111) #[] #[]] [M] (.agg #[.slice none 0 0,I4 (rows.length:Int),.bool false]):=
 gJ hv (fun i=>((i:Int),false)) rfl 111 [] call111 (fun i r m=>by
  have g:=(C4.1 m).1;have:=gG (i:Int) false r A0
  exact Qp this)
theorem qB(hc:FM s p (ms.map ivQ))(K:ms.length<=1000000000)(g:ms.length<=cap)(G:∀m∈ms,-1000000000<=m/\m<=1000000000):BJ prog 112 #[.slice p ms.length cap,.agg #[.slice none 0 0,I4 0,.bool false],.func (.func 114) #[] #[]] [s] (.agg #[.slice none 0 0,I4 (Lh ms),.bool false]):=by
 have O:=mL;have h:=Tn hc A0 g (fun i=>(Lh (ms.take i),false)) rfl 114 [] call114 (fun i x I=>by
  have U:=j4 G K i;have h2:=G x (DQ I)
  have J:=gF (Lh (ms.take i)) x false A0;show BJ _ _ _ _ (.agg #[.slice none 0 0,I4 (Lh (ms.take (i+1))),.bool false])
  rw [kM I];exact Qp J)
 rwa [G3]at h
theorem aX(hc:FM s p (ms.map ivQ))(Z:ms.length<=1000000000)(I:ms.length<=cap)(b m:Nat)(lt:Int->Int->Bool)(G:∀(args:AK) (w:AD),(callFunc m args).run prog w= .ok (.enter m args) w)(J:∀x y:Int,BJ prog m #[I4 x,I4 y] [] (.bool (lt x y))):BJ prog 112 #[.slice p ms.length cap,.agg #[.slice none 0 0,I4 0,.bool false],.func (.func 174) #[] #[I5 b]] [s,[(b,.cells #[.func (.func m) #[] #[]] 224 (0,0))]] (.agg #[.slice none 0 0,I4 (EY lt ms).val,.bool (EY lt ms).fnd]):=by
 have U:=mL;refine oJ ?_;have h:=Tn (M:=s++[(b,.cells #[.func (.func m) #[] #[]] 224 (0,0))]) (ms:=ms) (p:=p) (fun j u W=>by
  obtain ⟨g,o,c,T,z,K,h2,O⟩:=hc j u W;exact ⟨g,o,c,T,z,K,Ek _ h2,O⟩) A0 I (fun i=>((EY lt (ms.take i)).val,(EY lt (ms.take i)).fnd)) V 174 [I5 b] call174 (fun i x X=>by
  show BJ _ _ _ _ (.agg #[.slice none 0 0,I4 (EY lt (ms.take (i+1))).val,.bool (EY lt (ms.take (i+1))).fnd]);rw [o7 X];exact ag (oC (EY lt (ms.take i)).val x (EY lt (ms.take i)).fnd b m lt G J))
 rwa [G3]at h
theorem jQ(h:∀r∈rows,-1000000000<=Bl r q.bq/\Bl r q.bq<=1000000000):∀m∈D5 q rows,-1000000000<=m/\m<=1000000000:=by
 intro m g;obtain ⟨r,G,rfl⟩:=C6.1 g;exact h r G
set_option maxHeartbeats 1000000 in
theorem nW(hv:EB M v rows)(ho:EB M vo others)(q:QM)(hb:rows.length<=1000000000)(hm:BK q->∀r∈rows,-1000000000<=Bl r q.bq/\Bl r q.bq<=1000000000):BR prog 59 #[.agg q.A72,v,vo] [M] (fun w H'=>∃rv s,w= .agg #[rv,I4 (IY q rows others).val,.bool (IY q rows others).fnd]/\Bd 5 80 rv (IY q rows others).rows.length (Af (IY q rows others).rows) s/\H'=[s,M]):=by
 have ax:=mL;refine Se func59 ntmps59 [0,1,2] ?_;intro u R;refine A1<|Ze (Bx #[_,_,_,_,_,_,_])<|AG fun bq=>Ze (Al Ge #[_,_,_])<|AG fun br=>A6<|Zq<|A1<|Zo Wh (AB (cs:=#[_,_,_,_,_,_,_]) F1 CM Y B5 B0)<|Xr [_] Y call29 Y V (Jd q)<|Zv (DD Y)<|A6<|AU Y (fun hq=>?_) (fun hq=>?_);·
  have g:¬BK q:=by simpa using hq
  refine Zq<|Bc<|Zg<|Zv (BM (vs:=[]) (cs:=#[_,_,_]) Y (AY (pl:=#[(0,1),(1,1),(2,1)]) Ge E6 (fun _=>by kernel_rfl) rfl))<|Xe (Xw B9 _)<|A6<|AJ<|Zt<|D6 rfl eL Y Wh (Au Cd B9 Wn (rfl)) (by exact ⟨.slice none 0 0,[],by rw [zK g];rfl,by rw [zK g];exact Bj 5 _,rfl⟩)
 have g:BK q:=by simpa using hq
 have G:0<=q.bq/\q.bq<=3:=by have:=g.2.2.2;omega
 have af:=jQ (hm g);refine AC<|Zx<|A1<|Ze (Al Ge #[_,_,_])<|AG fun bn=>A6<|Zq<|A1<|Zh 0 CN V rfl AE Y<|Zl AH Y<|A6<|AQ<|A1<|Zv (CP Y Y)<|A5 Y<|Aw Y (fun W=>?_) (fun W=>?_);·
  refine Zq<|Bc<|Zg<|Zm Y<|Zo Wh (Pa #[_,_,_] Cd B9 Y)<|Xr [_,_,_] Y call110 Y V (gY hv hb)<|Xe (Xw B9 _)<|Z0<|Zn [6] ?_;refine Zx<|AJ<|Ab<|Zt<|D6 rfl eL Y Wh (Au Cd B9 Wn (rfl)) (by exact ⟨.slice none 0 0,[],by rw [pZ g W];rfl,by rw [pZ g W];exact Bj 5 _,rfl⟩)
 refine A1<|Zv (CP Y Y)<|A5 Y<|Aw Y (fun X=>?_) (fun X=>?_);·
  refine Zq<|Bc<|BA (n:=6) (0::0::3::0::15::31::[]) 52 AF AF V<|FG 0 V Wh (AB (cs:=#[_,_,_,_,_,_,_]) F1 CM Y B5 B0)<|A3 1 V (AO Y)<|FG 3 V Wh (Pa #[_,_,_] Cd B9 Y)<|Zz (l:=[2])<|B7 [true,false] [(3,(_,_))] V rfl (Zw [_,_] Y call113 Y V (Mo hv q G A0)) ?_ Bv Aj;rintro _ _ ⟨_,⟨sm,m,rfl⟩,rfl⟩;refine ⟨Zk (AZ),?_⟩;obtain ⟨U,cm,rfl⟩:=m.form;have I:FM sm U ((D5 q rows).map ivQ):=LM m
  have O:=KP q rows;have K:=Ez m
  refine Yw 4 31 V (Zu [_,_,_] Y call112 Y V (qB I A0 A0 af))<|Cp<|Yw 5 63 V (Xw B9 _)<|Cp<|Ag<|Zn [6] ?_;refine Zx<|AJ<|Ab<|Zt<|D6 rfl eL Y Wh (Au Cd B9 Wn (rfl)) (by exact ⟨.slice none 0 0,[],by rw [pT g X];rfl,by rw [pT g X];exact Bj 5 _,rfl⟩)
 refine A1<|Zv (CP Y Y)<|AW Y<|Zn [1,2,3,6,7,13,26] ?_;refine Zx<|Aw Y (fun Z=>?_) (fun Z=>?_);·
  refine Zq<|Bc<|BA (n:=7) (0::0::3::0::7::31::63::[]) 116 AF AF V<|FG 0 V Wh (AB (cs:=#[_,_,_,_,_,_,_]) F1 CM Y B5 B0)<|A3 1 V (AO Y)<|FG 3 V Wh (Pa #[_,_,_] Cd B9 Y)<|Zz (l:=[2])<|B7 [true,false] [(3,(_,_))] V rfl (Zw [_,_] Y call113 Y V (Mo hv q G A0)) ?_ Bv Aj;rintro _ _ ⟨_,⟨sm,m,rfl⟩,rfl⟩;refine ⟨Zk (AZ),?_⟩;obtain ⟨U,cm,rfl⟩:=m.form;have I:FM sm U ((D5 q rows).map ivQ):=LM m
  have O:=KP q rows;have K:=Ez m
  refine Zz (l:=[4])<|B7 [true] [(3,(_,_))] V rfl (Zw [_] Y call115 Y V (NP (.func (.func 116) #[] #[]) V rfl)) ?_ Bv Aj;rintro _ _ ⟨_,⟨b9,rfl,rfl⟩,rfl⟩;refine BW<|Yw 5 63 V (Zu [_,_,_] Y call112 Y V (aX I A0 A0 b9 116 _ call116 gD))<|Cp<|Yw 6 127 V (Xw B9 _)<|Cp<|Ag<|Zx<|AJ<|Ab<|Zt<|D6 V eL Y Wh (Au Cd B9 Wn (V)) (by
   have e8:=Vz (fun a b=>decide (a<b)) (D5 q rows) CB.none;exact ⟨.slice none 0 0,[],by rw [pS g Z];rfl,by rw [pS g Z];rw [show(EY (fun a b=>decide (a<b)) (D5 q rows)).rows=[] from e8];exact Bj 5 _,rfl⟩)
 refine A1<|Zv (CP Y Y)<|A5 Y<|Aw Y (fun k6=>?_) (fun k6=>?_);·
  refine Zq<|Bc<|BA (n:=7) (0::0::3::0::7::31::63::[]) 116 AF AF V<|FG 0 V Wh (AB (cs:=#[_,_,_,_,_,_,_]) F1 CM Y B5 B0)<|A3 1 V (AO Y)<|FG 3 V Wh (Pa #[_,_,_] Cd B9 Y)<|Zz (l:=[2])<|B7 [true,false] [(3,(_,_))] V rfl (Zw [_,_] Y call113 Y V (Mo hv q G A0)) ?_ Bv Aj;rintro _ _ ⟨_,⟨sm,m,rfl⟩,rfl⟩;refine ⟨Zk (AZ),?_⟩;obtain ⟨U,cm,rfl⟩:=m.form;have I:FM sm U ((D5 q rows).map ivQ):=LM m
  have O:=KP q rows;have K:=Ez m
  refine Zz (l:=[4])<|B7 [true] [(3,(_,_))] V rfl (Zw [_] Y call115 Y V (NP (.func (.func 117) #[] #[]) V rfl)) ?_ Bv Aj;rintro _ _ ⟨_,⟨b9,rfl,rfl⟩,rfl⟩;refine BW<|Yw 5 63 V (Zu [_,_,_] Y call112 Y V (aX I A0 A0 b9 117 _ call117 gB))<|Cp<|Yw 6 127 V (Xw B9 _)<|Cp<|Ag<|Zx<|AJ<|Ab<|Zt<|D6 V eL Y Wh (Au Cd B9 Wn (V)) (by
   have e8:=Vz (fun a b=>decide (b<a)) (D5 q rows) CB.none;exact ⟨.slice none 0 0,[],by rw [pP g k6];rfl,by rw [pP g k6];rw [show(EY (fun a b=>decide (b<a)) (D5 q rows)).rows=[] from e8];exact Bj 5 _,rfl⟩)
 refine A1<|Zv (CP Y Y)<|A5 Y<|Aw Y (fun k7=>?_) (fun k7=>?_);·
  refine A1<|Zo Wh (AB (cs:=#[_,_,_,_,_,_,_]) F1 CM Y B5 B0)<|Zm Y<|Zm Y<|Zc [_,_,_] Y call118 Y V (ZN hv ho q G A0) ?_;rintro _ _ ⟨_,⟨sj,J,rfl⟩,rfl⟩;obtain ⟨gj,cj,rfl⟩:=J.form;refine Zv (BM (vs:=[(0,_)]) (cs:=#[_,_,_]) Y (AY (pl:=#[(0,1),(1,1),(2,1)]) Ge E6 (fun _=>by kernel_rfl) rfl))<|Xe (BL B9 Y Y (by(simp [Value.oneCell',Value.cells];done)) Wu B0 FA B1 (by exact BC _))<|A6<|AJ<|Ab<|Zt<|D6 rfl eL Y Wh (Au Cd B9 Wn (rfl)) (by exact ⟨.slice gj _ cj,sj,by rw [pN g k7];rfl,by rw [pN g k7];exact J,rfl⟩)
 refine AC<|A8<|Zx<|A1<|Zm Y<|Zc [_] Y call76 Y V (Gh hv A0) ?_;rintro _ _ ⟨_,⟨sj,J,rfl⟩,rfl⟩;obtain ⟨gj,cj,rfl⟩:=J.form;refine Zv (BM (vs:=[(0,_)]) (cs:=#[_,_,_]) Y (AY (pl:=#[(0,1),(1,1),(2,1)]) Ge E6 (fun _=>by kernel_rfl) rfl))<|Xe (BL B9 Y Y (by(simp [Value.oneCell',Value.cells];done)) Wu B0 FA B1 (by exact BC _))<|A6<|AJ<|D6 rfl eL Y Wh (Au Cd B9 Wn (rfl)) (by exact ⟨.slice gj _ cj,sj,by rw [pa g W X Z k6 k7];rfl,by rw [pa g W X Z k6 k7];exact J,rfl⟩)
theorem WZ(h:r.ok)(c:Int):-1000000000<=Bl r c/\Bl r c<=1000000000:=by
 obtain ⟨⟨g,h2,m⟩,G,I⟩:=h;unfold inV at g h2 m;unfold Bl;split;· omega
 · split
   · omega
   · split
     · omega
     · split<;>omega
variable{B:List A9}
theorem uX{A:List A9}(hv:EB A v rows)(I:EB B vo others)(q:QM)(m:rows.length<=1000000000)(G:BK q->∀r∈rows,-1000000000<=Bl r q.bq/\Bl r q.bq<=1000000000):BR prog 59 #[.agg q.A72,v,vo] [A,B] (fun w H'=>∃g s,w= .agg #[g,I4 (IY q rows others).val,.bool (IY q rows others).fnd]/\Bd 5 80 g (IY q rows others).rows.length (Af (IY q rows others).rows) s/\H'=[s,A,B]):=by
 refine Gx (nW (hv.mono (fun c hc=>Ek B hc)) (I.mono (fun c hc=>G2 A hc)) q m G) B4 ?_;rintro r H' ⟨g,s,rfl,h,rfl⟩;exact ⟨_,⟨g,s,V,h,V⟩,by simp⟩
theorem kR(v:A4)(p:Int)(rs:List AR)(s:List A9)(hv:RF v p rs s)(t c lo hi:Int)(hc:0<=c/\c<=3):BR prog 60 #[v,I4 t,I4 c,I4 lo,I4 hi] [s] (fun r H'=>∃g,Bd 5 80 r (Dr rs t c.toNat lo hi).length (Af (Dr rs t c.toNat lo hi)) g/\H'=[g,s]):=by
 have h:=YE v p rs s hv t c.toNat lo hi A0;rwa [show((c.toNat:Nat):Int)=c by omega]at h
theorem SS{rs:List AR}{t:Int}{c:Nat}{lo hi:Int}:(Dr rs t c lo hi).length<=rs.length/\∀r∈Dr rs t c lo hi,r∈rs:=by
 have h:=ES rs t c lo hi;exact ⟨by rw [h.length_eq];exact Of _ _,fun r g=>(Fc.1 (h.mem_iff.1 g)).1⟩
def Jw(c:Chg)(x:AR):Bool:=decide (x.t=c.t)&&decide (x.k=c.k)
def KZ(q:QM)(y x:AR):Bool:=decide (Bl y q.cl<Bl x q.cl)||(decide (Bl x q.cl=Bl y q.cl)&&decide (y.k<x.k))
def R6(pd:AR->Bool)(rows:List AR)(y:AR):List AR:=rows.take ((rows.findIdx? pd).getD rows.length)++[y]++rows.drop ((rows.findIdx? pd).getD rows.length)
def E9(q:QM)(c:Chg)(rows:List AR):List AR:=match afQ q c with
 |some y=>R6 (KZ q y) (rows.filter fun x=>!Jw c x) y
 |none=>rows.filter fun x=>!Jw c x
def Jz(lt:Int->Int->Bool)(b a:Bool)(o n:Int)(r:CB):CB×Bool:=
 if b&&(!r.fnd||!lt r.val o)then(⟨r.rows,n,r.fnd⟩,(a&&r.fnd)&&!lt r.val n)
 else if a then(⟨r.rows,if !r.fnd||lt n r.val then n else r.val,true⟩,true)else(r,true)
theorem uL(g:AR->Bool)(rows:List AR)(y:AR):(R6 g rows y).length=rows.length+1:=by
 unfold R6;simp only [Bm,CD,CH,F2];omega
theorem UU(q:QM)(c:Chg)(rows:List AR):(E9 q c rows).length<=rows.length+1:=by
 have h:=Of (fun x=>!Jw c x) rows;unfold E9;split;· rw [uL];omega
 · omega
theorem Mt(lt:Int->Int->Bool)(b a:Bool)(o n:Int)(r:CB):(Jz lt b a o n r).1.rows=r.rows:=by
 unfold Jz;split;· rfl
 · split<;>rfl
theorem gT{P:Program}{f:FuncId}{args:AK}{H:Hp}{Q:A4->Hp->Prop}(h:BR P f args H Q)(F:Hp):BR P f args (H++F) (fun v H'=>∃H1,Q v H1/\H'=H1++F):=fun u R w G=>
 Calls.mono (h u (F++R) w (by rw [<-CT];exact G)) fun e I m=>by
  rcases m with⟨v,H',rfl,g,h2⟩|⟨ch,H',rfl,g,h2⟩
  · exact .inl ⟨v,H'++F,rfl,⟨H',g,rfl⟩,by rw [CT];exact h2⟩
  · exact g.elim
theorem yE(g:AR->Bool)(rows:List AR):(R8 g rows<0/\(rows.findIdx? g).getD rows.length=rows.length)\/∃i:Nat,i<=rows.length/\R8 g rows=(i:Int)/\(rows.findIdx? g).getD rows.length=i:=by
 unfold R8;cases h:rows.findIdx? g with
 |none=>exact .inl ⟨by simp,rfl⟩
 |some i=>
  obtain ⟨m,_,_⟩:=an.1 h;exact .inr ⟨i,by omega,V,V⟩
theorem lQ(q:QM)(c:Chg)(G I:B8)(o n:Int)(x:AR)(m:Nat):BJ prog 243 #[.agg x.A71,I5 m] [[(m,.cells (q.GS c G I o n) 265 (0,0))]] (.bool (Jw c x)):=by
 refine Se func243 ntmps243 [0,1] ?_;intro u R;refine A1<|Ze (Bx #[_,_,_,_,_])<|AG fun J=>A5 Y<|A1<|Zh 0 G1 V rfl AE Y<|Zl AH Y<|Zh 7 EV V rfl CC Y<|Zv (Ap (off:=0) C3 V rfl AE Y)<|Zl AH Y<|Zv (CP Y Y)<|Zm Y<|Ao (t:=10) Y V (fun g=>?_) (fun g=>?_);·
  refine Yf 1 G1 V rfl AE Y<|Yl AH Y<|Yf 7 EV V rfl CC Y<|Yg (Ap (off:=1) C3 V rfl AE Y)<|Yl AH Y<|Yg (CP Y Y)<|Zv (AX Y Y)<|AW Y<|Zn [3] ?_;refine Zx<|AJ<|AP V results243 Y (by exact ⟨by simp [Jw,g],V⟩)
 refine A7 Y V<|A7 Y V<|A7 Y V<|A7 Y V<|A7 Y V<|A7 Y V<|Zv (AL Y Y)<|AW Y<|Zn [3] ?_;refine Zx<|AJ<|AP V results243 Y (by exact ⟨by simp [Jw,g],V⟩)
theorem WV{A:List A9}(hv:EB A v rows)(K:rows.length<=1000000000)(g:Nat)(us:List A4)(m:AR->Bool)(G:∀(args:AK) (w:AD),(callFunc g args).run prog w= .ok (.enter g args) w)(J:∀x:AR,BJ prog g (.agg x.A71::us).toArray [B] (.bool (m x))):BR prog 242 #[v,.func (.func g) #[] us.toArray] [A,B] (fun r H'=>∃s,Bd 5 80 r (rows.filter fun x=>!m x).length (Af (rows.filter fun x=>!m x)) s/\H'=[s,A,B]):=by
 obtain ⟨p,cap,rfl,_⟩:=id hv;refine Se func242 ntmps242 [0,1] ?_;intro u R;refine A1<|A5 Y<|A1<|Zm Y<|Zc [_] Y call76 Y V (Gh hv A0) ?_;rintro _ _ ⟨_,⟨s1,I,rfl⟩,rfl⟩;obtain ⟨W,O,rfl⟩:=I.form;refine Zm Y<|Zc [_,_] Y call277 Y V (aj I K g us m G J) ?_;rintro _ _ ⟨_,⟨s2,h2,rfl⟩,rfl⟩;obtain ⟨X,U,rfl⟩:=h2.form;refine A5 Y<|AJ<|AP V results242 Y (by exact ⟨_,h2,V⟩)
theorem Ud(G:Bd 5 80 v rows.length (Af rows) s)(hn:rows.length<=1000000000)(y:AR)(g:Nat)(us:List A4)(I:AR->Bool)(U:∀(args:AK) (w:AD),(callFunc g args).run prog w= .ok (.enter g args) w)(hf:∀x:AR,BJ prog g (.agg x.A71::us).toArray [B] (.bool (I x))):BR prog 244 #[v,.agg y.A71,.func (.func g) #[] us.toArray] [s,B] (fun r H'=>∃X s2,Bd 5 80 r (R6 I rows y).length (Af (R6 I rows y)) X/\H'=[X,s2,B]):=by
 have af:=mL;obtain ⟨p,cap,rfl⟩:=G.form;have hU:=DY G A0
 refine Se func244 ntmps244 [0,1,2] ?_;intro u R;refine A1<|Ze (Bx #[_,_,_,_,_])<|AG fun bx=>A5 Y<|A1<|Zm Y<|Zm Y<|Xr [_,_] Y call141 Y V (TY hU g us I U hf) ?_;obtain ⟨z9,O⟩:∃z,z=R8 I rows:=⟨_,rfl⟩;rw [<-O];have m:=yE I rows
 rw [<-O]at m;refine A5 Y<|Zb [7,0,4] ?_;refine CW (e0:=[(7,_)]) (H0:=[]) (fun e H=>∃(i:Nat),(i<=rows.length/\(rows.findIdx? I).getD rows.length=i)/\e=[(7,I4 (i:Int))]/\H=[]) Wp ?hx_1 ?hy_1
 case hx_1=>
  refine A1<|Zm Y<|Zv (EH Y Y)<|A6<|Aw Y (fun K=>?_) (fun K=>?_);·
   refine Zg<|Zm Y<|Zv (Ac C1 Y)<|AW Y<|Zn [7,0,4] ?_;refine Av (e':=[(7,_)]) (by exact ⟨rows.length,⟨CI _,by rcases m with⟨_,h⟩|⟨i,h1,h2,J⟩;exact h;omega⟩,rfl,rfl⟩)
  rcases m with⟨h9,_⟩|⟨i,h1,h2,J⟩
  · exact absurd h9 K
  subst h2;refine AC<|Zn [7,0,4] ?_;refine Av (e':=[(7,_)]) (by exact ⟨i,⟨h1,J⟩,V,V⟩)
 rintro _ _ ⟨i,⟨hi,W⟩,rfl,rfl⟩;refine A1<|Zm Y<|Zm Y<|Zo Wh (Pa #[_,_,_,_,_] D0 B3 Y)<|Ze (Ai (vs:=[_]) (cs:=[_,_,_,_,_]) C1 B3 F0 Y V rfl V rfl V)<|AG fun Z=>Zc [_,_,_] Y call278 Y V (ZZ G hn i hi y Z) ?_;rintro _ _ ⟨_,⟨s3,s4,J,rfl⟩,rfl⟩;obtain ⟨g3,c3,rfl⟩:=J.form;refine A5 Y<|AJ<|AP rfl results244 Y (by exact ⟨_,s4,by unfold R6;rw [W];exact J,rfl⟩)
theorem Xk(q:QM)(I:0<=q.cl/\q.cl<=3)(c:Chg)(J:B8)(o n:Int)(y:AR)(g:Nat):BR prog 245 #[.agg #[I4 q.kd,I4 q.tb,I4 q.cl,I4 q.lo,I4 q.hi,I4 q.bq,I4 q.ot,I4 c.t,I4 c.k,.bool c.had,I4 c.o.a,I4 c.o.b,I4 c.o.c,.bool c.has,I4 c.n.a,I4 c.n.b,I4 c.n.c,.pointer J,I5 g,I4 o,I4 n]] [[(g,.cells y.A71 80 (0,0))]] (fun r H'=>∃G m,r= .func (.func 279) #[] #[I5 G,I5 m]/\H'=[[(G,.cells #[I4 q.kd,I4 q.tb,I4 q.cl,I4 q.lo,I4 q.hi,I4 q.bq,I4 q.ot,I4 c.t,I4 c.k,.bool c.had,I4 c.o.a,I4 c.o.b,I4 c.o.c,.bool c.has,I4 c.n.a,I4 c.n.b,I4 c.n.c,.pointer J,I5 g,I4 o,I4 n] 265 (0,0))],[(m,.cells #[I4 (Bl y q.cl)] 3 (0,0))],[(g,.cells y.A71 80 (0,0))]]):=by
 refine Se func245 ntmps245 [0] ?_;intro u R;refine A1<|Ze (F5 Y (cs:=#[I4 q.kd,I4 q.tb,I4 q.cl,I4 q.lo,I4 q.hi,I4 q.bq,I4 q.ot,I4 c.t,I4 c.k,.bool c.had,I4 c.o.a,I4 c.o.b,I4 c.o.c,.bool c.has,I4 c.n.a,I4 c.n.b,I4 c.n.c,.pointer J,I5 g,I4 o,I4 n]) (GG q c J (some ⟨g,0,none⟩) o n))<|AG fun G=>A5 Y<|Zq<|BA (n:=10) (0::1::3::7::0::16::48::127::0::511::[]) 896 AF AF V<|A3 0 V (AA (off:=18) EV V rfl LI Y)<|BE 1 V O2 Y ?_;refine A3 2 V (Ak Y V)<|FG 3 V Wh (AB (cs:=#[_,_,_,_,_]) D0 B3 Y B5 B0) ?_;refine A3 4 V (AA (off:=0) EV V rfl CM Y)<|A3 5 V (Ap (off:=2) CN V rfl AE Y)<|BE 6 V AH Y ?_;refine Zz (l:=[7,8])<|B7 [false,false,false] [] V rfl (Zu [_,_] Y SO Y V (G8 y q.cl I)) ?_ (fun _ _ h=>h.elim) ?_;·
  rintro _ _ ⟨rfl,rfl⟩;refine BW<|Yw 8 511 V (Al HJ #[_])<|AG fun m=>Yw 9 1023 V (Zs AE Y Y V (hi:=by decide))<|Cp<|Ag<|Zx<|A1<|Zv (Bg (vs:=[]) (us:=[_,_]) Y Y)<|AW Y<|Zn [2] ?_;refine Zx<|AJ<|AP V results245 Y (by exact ⟨G,m,V,V⟩)
 refine B7 [true,true,true] [(6,(_,_)),(3,(_,_)),(1,(_,_))] V rfl (Al HJ #[_]) ?_ (fun _ _ h=>h.elim) Aj;rintro _ _ ⟨m,rfl,rfl⟩;refine BW<|Yw 7 511 V (Zu [_,_] Y SO Y V (G8 y q.cl I))<|Cp<|Yw 9 1023 V (Zs AE Y Y V (hi:=by decide))<|Cp<|Ag<|Zx<|A1<|Zv (Bg (vs:=[]) (us:=[_,_]) Y Y)<|AW Y<|Zn [2] ?_;refine Zx<|AJ<|AP V results245 Y (by exact ⟨G,m,V,V⟩)
theorem om(q:QM)(m:0<=q.cl/\q.cl<=3)(c:Chg)(K:B8)(o n:Int)(y:AR)(G I J:Nat)(x:AR):BJ prog 279 #[.agg x.A71,I5 I,I5 J] [[(I,.cells #[I4 q.kd,I4 q.tb,I4 q.cl,I4 q.lo,I4 q.hi,I4 q.bq,I4 q.ot,I4 c.t,I4 c.k,.bool c.had,I4 c.o.a,I4 c.o.b,I4 c.o.c,.bool c.has,I4 c.n.a,I4 c.n.b,I4 c.n.c,.pointer K,I5 G,I4 o,I4 n] 265 (0,0))],[(J,.cells #[I4 (Bl y q.cl)] 3 (0,0))],[(G,.cells y.A71 80 (0,0))]] (.bool (KZ q y x)):=by
 refine Se func279 ntmps279 [0,1,2] ?_;intro u R;refine A1<|Ze (Bx #[_,_,_,_,_])<|AG fun O=>A5 Y<|A1<|Zo Wh (AB (cs:=#[_,_,_,_,_]) D0 B3 Y B5 B0)<|Zh 0 EV V rfl CM Y<|Zv (Ap (off:=2) CN V rfl AE Y)<|Zl AH Y<|Xr [_,_] Y SO Y V (G8 x q.cl m)<|A5 Y<|Zq<|BA (n:=19) (0::0::3::7::15::15::63::127::255::511::255::1279::3327::7423::15615::32767::65535::131071::262143::[]) 0 AF AF V<|A3 0 V (AO Y)<|BE 1 V AH Y<|A3 2 V (Ed Y Y)<|A3 3 V (AO Y)<|DF (t:=14) Y (fun g=>?_) (fun g=>?_);·
  rw [DG g];refine AN 4 V<|AN 5 V<|AN 6 V<|AN 7 V<|AN 8 V<|AN 9 V<|AN 10 V<|AN 11 V<|AN 12 V<|AN 13 V<|AN 14 V<|AN 15 V<|AN 16 V<|A3 17 V (AX Y Y)<|A3 18 V (Aq Y)<|Ag<|Zn [4] ?_;refine Zx<|AJ<|AP V results279 Y (by exact ⟨by simp [KZ, *],V⟩)
 rw [Cl g];refine An 4 V (AO Y)<|DO 5 V Wh (BF AH Y B0)<|An 6 V (CP Y Y)<|An 7 V (AO Y)<|DF (t:=18) Y (fun h2=>?_) (fun h2=>?_);·
  rw [DG h2];refine An 8 V (AA (off:=1) G1 V rfl AE Y)<|DO 9 V Wh (BF AH Y B0)<|An 10 V (AA (off:=18) EV V rfl LI Y)<|DO 11 V Wh (BF O2 Y B0)<|An 12 V (Ak Y V)<|An 13 V (AA (off:=1) G1 V rfl AE Y)<|DO 14 V Wh (BF AH Y B0)<|An 15 V (Ed Y Y)<|An 16 V (AX Y Y)<|A3 17 V (AL Y Y)<|A3 18 V (Aq Y)<|Ag<|Zn [4] ?_;refine Zx<|AJ<|AP V results279 Y (by exact ⟨by simp [KZ, *],V⟩)
 rw [Cl h2];refine AN 8 V<|AN 9 V<|AN 10 V<|AN 11 V<|AN 12 V<|AN 13 V<|AN 14 V<|AN 15 V<|An 16 V (AL Y Y)<|A3 17 V (AL Y Y)<|A3 18 V (Aq Y)<|Ag<|Zn [4] ?_;refine Zx<|AJ<|AP V results279 Y (by exact ⟨by simp [KZ, *],V⟩)
theorem Qv(q:QM)(I:0<=q.cl/\q.cl<=3)(c:Chg)(J:B8)(o n:Int)(y:AR)(g:Nat):BR prog 245 #[.agg #[I4 q.kd,I4 q.tb,I4 q.cl,I4 q.lo,I4 q.hi,I4 q.bq,I4 q.ot,I4 c.t,I4 c.k,.bool c.had,I4 c.o.a,I4 c.o.b,I4 c.o.c,.bool c.has,I4 c.n.a,I4 c.n.b,I4 c.n.c,.pointer J,I5 g,I4 o,I4 n]] [[(g,.cells y.A71 80 (0,0))]] (fun r H'=>∃m G,r= .func (.func 279) #[] ([I5 m,I5 G]:List A4).toArray/\H'=[[(m,.cells #[I4 q.kd,I4 q.tb,I4 q.cl,I4 q.lo,I4 q.hi,I4 q.bq,I4 q.ot,I4 c.t,I4 c.k,.bool c.had,I4 c.o.a,I4 c.o.b,I4 c.o.c,.bool c.has,I4 c.n.a,I4 c.n.b,I4 c.n.c,.pointer J,I5 g,I4 o,I4 n] 265 (0,0))]++[(G,.cells #[I4 (Bl y q.cl)] 3 (0,0))]++[(g,.cells y.A71 80 (0,0))]]):=by
 refine Gx (Xk q I c J o n y g) V ?_;rintro r H' ⟨m,G,rfl,rfl⟩;exact ⟨_,⟨m,G,V,V⟩,by simp⟩
theorem bE(q:QM)(I:0<=q.cl/\q.cl<=3)(c:Chg)(J:B8)(o n:Int)(y:AR)(g m G:Nat)(x:AR):BJ prog 279 (.agg x.A71::([I5 m,I5 G]:List A4)).toArray [[(m,.cells #[I4 q.kd,I4 q.tb,I4 q.cl,I4 q.lo,I4 q.hi,I4 q.bq,I4 q.ot,I4 c.t,I4 c.k,.bool c.had,I4 c.o.a,I4 c.o.b,I4 c.o.c,.bool c.has,I4 c.n.a,I4 c.n.b,I4 c.n.c,.pointer J,I5 g,I4 o,I4 n] 265 (0,0))]++[(G,.cells #[I4 (Bl y q.cl)] 3 (0,0))]++[(g,.cells y.A71 80 (0,0))]] (.bool (KZ q y x)):=by
 refine Gx (om q I c J o n y g m G x) V ?_;rintro r H' ⟨rfl,rfl⟩;exact ⟨_,⟨V,V⟩,by simp⟩
set_option maxHeartbeats 1000000 in
theorem dY(q:QM)(c:Chg)(g m:B8)(o n:Int)(G:0<=q.cl/\q.cl<=3){r:CB}{rv:A4}{sr:List A9}(hr:Bd 5 80 rv r.rows.length (Af r.rows) sr)(hn:r.rows.length<=100000000){s2:List A9}(h2:Ij m (afQ q c) s2):BR prog 197 #[.agg (q.GS c g m o n),.agg #[rv,I4 r.val,.bool r.fnd]] [sr,s2] (fun w H'=>∃I s',w= .tuple #[.agg #[I,I4 r.val,.bool r.fnd],.bool true]/\Bd 5 80 I (E9 q c r.rows).length (Af (E9 q c r.rows)) s'/\H'=[s']):=by
 have ax:=mL;obtain ⟨pv,cv,rfl⟩:=hr.form;have hU:=DY hr A0
 have af:(r.rows.filter fun x=>!Jw c x).length<=r.rows.length:=Of _ _;refine Se func197 ntmps197 [0,1] ?_;intro u R;refine A1<|Ze (F5 Y (cs:=(q.GS c g m o n)) (GG q c g m o n))<|AG fun U=>Ze (Bx #[.slice pv r.rows.length cv,I4 r.val,.bool r.fnd])<|AG fun br=>Ze (Al Ge #[_,_,_])<|AG fun b3=>A5 Y<|A1<|Zh 0 E6 V rfl DA Y<|Zl GP Y ?_;refine Zv (Bg (vs:=[]) (us:=[_]) Y Y)<|Zc [_,_] Y call242 Y V (WV (B:=[(U,.cells (q.GS c g m o n) 265 (0,0))]) hU A0 243 [I5 U] (Jw c) call243 (fun x=>lQ q c g m o n x U)) ?_;rintro _ _ ⟨_,⟨s3,W,rfl⟩,rfl⟩;obtain ⟨g3,c3,rfl⟩:=W.form;refine Zh 0 E6 V rfl DA Y<|Xe (Zs DA Y Y V (hi:=by(simp;done))) ?_;refine A6<|Zb [2,3,4] ?_;refine CW (e0:=[(2,_)]) (H0:=[[(br,.cells #[.slice g3 (r.rows.filter fun x=>!Jw c x).length c3,I4 r.val,.bool r.fnd] 61 (0,0))],s3,s2]) (fun e H=>∃(w:A4) (K:List A9),(Bd 5 80 w (E9 q c r.rows).length (Af (E9 q c r.rows)) K)/\e=[]/\H=[[(br,.cells #[w,I4 r.val,.bool r.fnd] 61 (0,0))],K]) Wp ?hx_1 ?hy_1
 case hx_1=>
  refine A1<|Zh 18 EV V rfl LI Y<|Zl O2 Y ?_;refine Zv (Fu W0 Y Y)<|A6<|AU Y (fun X=>?_) (fun X=>?_);·
   obtain ⟨y,J⟩:∃y,afQ q c=some y:=ie.1 (by rw [<-h2.some_];exact X);rw [J]at h2;obtain ⟨O,rfl,rfl⟩:=h2;refine BA (n:=11) (0::1::0::4::12::28::0::64::255::511::1023::[]) 1408 AF AF V<|A3 0 V (AA (off:=0) E6 V rfl DA Y)<|BE 1 V GP Y ?_;refine A3 2 V (AA (off:=18) EV V rfl LI Y)<|BE 3 V O2 Y ?_;refine A3 4 V (Ak Y V)<|Cc (b:=O) (x:= .cells y.A71 80 (0,0)) (D':=63) 5 V rfl V B4 (Pa y.A71 D0 B3 Y) ?_;refine FG 6 V Wh (AB cH a8 Y B5 (by exact BN V)) ?_;refine Zz (l:=[7])<|B7 [false,true,true,true] [(5,(_,_)),(3,(_,_)),(1,(_,_))] V rfl (Zw [_] Y call245 Y V (Qv q G c g o n y O)) ?_ Bv Aj;rintro _ _ ⟨_,⟨Z,b9,rfl,rfl⟩,rfl⟩;refine ⟨Ev (by simp [*]) (Zk (Zk (AZ))),?_⟩;refine Zz (l:=[8])<|B7 [false,false,false] [] V rfl (Zw [_,_,_] Y call244 Y V (Ud W A0 y 279 [I5 Z,I5 b9] (KZ q y) call279 (fun x=>bE q G c g o n y O Z b9 x))) ?_ Bv Aj;rintro _ _ ⟨_,⟨s5,s6,h5,rfl⟩,rfl⟩;refine ⟨AZ,?_⟩;obtain ⟨g5,c5,rfl⟩:=h5.form;refine A3 9 V (AA (off:=0) E6 V rfl DA Y)<|Zz (l:=[10])<|B7 [] [] V rfl (Zs DA Y Y V (hi:=by(simp;done))) ?_ (fun _ _ h=>h.elim) Aj;rintro _ _ ⟨rfl,rfl⟩;refine BW<|Ag<|Zn [3,4] ?_;refine Av (e':=[]) (by exact ⟨_,s5,by unfold E9;rw [J];exact h5,rfl,rfl⟩)
  have J:afQ q c=none:=by have h9:=h2.some_;rw [X]at h9;exact qk.1 (by rw [<-h9];decide)
  refine AC<|Zn [3,4] ?_;refine Av (e':=[]) (by exact ⟨_,s3,by unfold E9;rw [J];exact W,rfl,rfl⟩)
 rintro _ _ ⟨w,K,h4,rfl,rfl⟩;obtain ⟨p4,c4,rfl⟩:=h4.form;refine A1<|Zo Wh (AB (cs:=#[_,_,_]) Cd B9 Y B5 (by exact BN V)) ?_;refine Xe (BL B9 Y Y Hb Wu (by exact EI rfl) FA B1 (by exact BC _)) ?_;refine A5 Y<|AJ<|CL V results197 Y Wh (Au Cd B9 Wn (V)) Y (by exact ⟨_,K,V,h4,V⟩)
theorem Yn(q:QM)(c:Chg)(J g:B8)(o n:Int){r:CB}(K:B8)(I m:Nat)(hv:-4000000000000000000<=r.val/\r.val<=4000000000000000000):BJ prog 199 #[.agg (q.GS c J g o n),.agg #[.slice K I m,I4 r.val,.bool r.fnd]] [] (.tuple #[.agg #[.slice K I m,I4 (if g.isSome then r.val+1 else r.val -1),.bool r.fnd],.bool true]):=by
 refine Se func199 ntmps199 [0,1] ?_;intro u R;refine A1<|Ze (F5 Y (cs:=(q.GS c J g o n)) (GG q c J g o n))<|AG fun U=>Ze (Bx #[.slice K I m,I4 r.val,.bool r.fnd])<|AG fun W=>Ze (Al Ge #[_,_,_])<|AG fun O=>A5 Y<|Zq<|A1<|Zh 18 EV V rfl LI Y<|Zl O2 Y ?_;refine Zv (Fu W0 Y Y)<|A6<|AU Y (fun G=>?_) (fun G=>?_);·
  refine Zg<|Zh 1 E6 V rfl AE Y<|Zl AH Y ?_;refine Yi Y Y<|Zh 1 E6 V rfl AE Y<|Xe (Zs AE Y Y V (hi:=by(simp;done))) ?_;refine A6<|A1<|Zo Wh (AB (cs:=#[_,_,_]) Cd B9 Y B5 B0) ?_;refine Xe (Xw B9 _) ?_;refine AW Y<|Zn [4,5] ?_;refine Zx<|AJ<|CL rfl results199 Y Wh (Au Cd B9 Wn (rfl)) Y (by exact ⟨by rw [G];rfl,rfl⟩)
 refine Zg<|Zh 1 E6 V rfl AE Y<|Zl AH Y ?_
 (refine BU (FP Y Y (IntWalk.i64_in _ ?_)) ?_;(focus (omega)))
 refine Zh 1 E6 V rfl AE Y<|Xe (Zs AE Y Y V (hi:=by(simp;done))) ?_;refine A6<|A1<|Zo Wh (AB (cs:=#[_,_,_]) Cd B9 Y B5 B0) ?_;refine Xe (Xw B9 _) ?_;refine AW Y<|Zn [4,5] ?_;refine Zx<|AJ<|CL rfl results199 Y Wh (Au Cd B9 Wn (rfl)) Y (by exact ⟨by rw [G];rfl,rfl⟩)
theorem lJ(q:QM)(c:Chg)(G I:B8)(o n:Int){r:CB}(J:B8)(m g:Nat)(hv:-4000000000000000000<=r.val/\r.val<=4000000000000000000)(W:(-1000000000<=o/\o<=1000000000)/\-1000000000<=n/\n<=1000000000):BJ prog 201 #[.agg (q.GS c G I o n),.agg #[.slice J m g,I4 r.val,.bool r.fnd]] [] (.tuple #[.agg #[.slice J m g,I4 (r.val+(n -o)),.bool r.fnd],.bool true]):=by
 refine Se func201 ntmps201 [0,1] ?_;intro u R;refine A1<|Ze (F5 Y (cs:=(q.GS c G I o n)) (GG q c G I o n))<|AG fun O=>Ze (Bx #[.slice J m g,I4 r.val,.bool r.fnd])<|AG fun U=>Ze (Al Ge #[_,_,_])<|AG fun K=>A5 Y<|A1<|Zh 1 E6 V rfl AE Y<|Zl AH Y ?_;refine Zh 20 EV V rfl AE Y<|Zl AH Y ?_;refine Zh 19 EV V rfl AE Y<|Zl AH Y ?_
 (refine BU (FP Y Y (IntWalk.i64_in _ ?_)) ?_;(focus (omega)))
 refine Yi Y Y<|Zh 1 E6 V rfl AE Y<|Xe (Zs AE Y Y V (hi:=by(simp;done))) ?_;refine Z0<|Zn [3,4] ?_;refine Zx<|A1<|Zo Wh (AB (cs:=#[_,_,_]) Cd B9 Y B5 B0) ?_;refine Xe (Xw B9 _) ?_;refine A5 Y<|AJ<|CL V results201 Y Wh (Au Cd B9 Wn (V)) Y (by exact ⟨V,V⟩)
end Go.Proofs.YthhakdmlpngcmaaGreatDoor
