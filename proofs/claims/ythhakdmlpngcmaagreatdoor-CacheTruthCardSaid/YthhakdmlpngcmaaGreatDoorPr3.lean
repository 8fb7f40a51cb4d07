/- predicate.kinds, Touches. -/
import Derived.Test.YthhakdmlpngcmaaGreatDoorQe3
set_option linter.unusedVariables false
set_option linter.unusedSimpArgs false
namespace Go.Proofs.YthhakdmlpngcmaaGreatDoor
open Go.Proofs.Tryz
open Go Go.RowKit Gw
set_option maxRecDepth 100000
attribute [local irreducible] Gw.At Gw.Nx Gw.Ops
def M7(b5 b6:Nat):List (Int×A4):=[(1,.agg #[.func (.func 196) #[] #[],.func (.func 197) #[] #[]]),(2,.agg #[.func (.func 196) #[] #[],.func (.func 197) #[] #[]]),(3,.agg #[.func (.func 198) #[] #[],.func (.func 199) #[] #[]]),(4,.agg #[.func (.func 200) #[] #[],.func (.func 201) #[] #[]]),(5,.agg #[.func (.func 202) #[] #[],.func (.func 246) #[] #[I1 b5]]),(6,.agg #[.func (.func 205) #[] #[],.func (.func 246) #[] #[I1 b6]]),(7,.agg #[.func (.func 207) #[] #[],.func (.func 208) #[] #[]])]
variable{lm:List (Int×A4)}{k:Int}{v:A4}
theorem ZT{g m:Nat}(h:∀p,p∈lm↔p∈M7 g m)(I:(lm.map (·.1)).Nodup)(G:(k,v)∈M7 g m):Dq k lm=some v:=D8 I ((h _).2 G)
def He(k:Int):Nat:=if k=1 then 196 else if k=2 then 196 else if k=3 then 198 else if k=4 then 200 else if k=5 then 202 else if k=6 then 205 else 207
theorem uT{g m:Nat}(h:∀p,p∈lm↔p∈M7 g m)(G:(lm.map (·.1)).Nodup)(I:1<=k/\k<=7):∃pf,Dq k lm=some (.agg #[.func (.func (He k)) #[] #[],pf]):=by
 obtain h9|h9|h9|h9|h9|h9|h9:k=1\/k=2\/k=3\/k=4\/k=5\/k=6\/k=7:=by omega
 all_goals subst h9
 all_goals exact ⟨_,ZT h G (by simp [M7,He];rfl)⟩
theorem PN(v:A4)(g:v.oneCell'=true)(hc:v.cells=#[v]):BS prog 203 #[v] [] (fun r H'=>∃b,r= .func (.func 246) #[] #[I1 b]/\H'=[[(b,.cells #[v] 224 (0,0))]]):=by
 refine Se func203 ntmps203 [0] ?_;intro u R;refine A1<|Ze (F8 Y (cs:=#[v]) hc)<|AG fun b=>A5 Y<|A1<|Zv (Bf (vs:=[]) (us:=[_]) Y Y)<|A5 Y<|AJ<|AP V results203 Y (by exact ⟨b,V,V⟩)
theorem Nr:BS prog 151 #[] [] (fun v H'=>∃b es ck lm g m,v= .map (some b)/\Ck (fun k:Int=>I0 k) es ck lm/\(∀p,p∈lm↔p∈M7 g m)/\H'=[[(b,.map es ck)],[(g,.cells #[.func (.func 204) #[] #[]] 224 (0,0))],[(m,.cells #[.func (.func 206) #[] #[]] 224 (0,0))]]):=by
 refine Se func151 ntmps151 [] ?_;intro u R;refine A1<|A5 Y<|A1<|Ze (DV)<|AG fun mb=>Zv (BM (vs:=[(0,.func (.func 196) #[] #[]),(1,.func (.func 197) #[] #[])]) (cs:=#[.func (.func 196) #[] #[],.func (.func 197) #[] #[]]) Y (AZ (pl:=#[(0,1),(1,1)]) ZD Ys (fun _=>by kernel_rfl) AF))<|Ze (EF I8 Z1 (EZ _) (fun _ _=>trivial) (trivial) Y Y Y Wo) ?_;rintro _ _ ⟨rfl,kv,gm,p8,J,af,rfl⟩;refine Zv (BM (vs:=[(0,.func (.func 196) #[] #[]),(1,.func (.func 197) #[] #[])]) (cs:=#[.func (.func 196) #[] #[],.func (.func 197) #[] #[]]) Y (AZ (pl:=#[(0,1),(1,1)]) ZD Ys (fun _=>by kernel_rfl) AF))<|Ze (EF I8 Z1 J (fun _ _=>trivial) (trivial) Y Y Y Wo) ?_;rintro _ _ ⟨rfl,l5,gq,p9,K,ax,rfl⟩;refine Zv (BM (vs:=[(0,.func (.func 198) #[] #[]),(1,.func (.func 199) #[] #[])]) (cs:=#[.func (.func 198) #[] #[],.func (.func 199) #[] #[]]) Y (AZ (pl:=#[(0,1),(1,1)]) ZD Ys (fun _=>by kernel_rfl) AF))<|Ze (EF I8 Z1 K (fun _ _=>trivial) (trivial) Y Y Y Wo) ?_;rintro _ _ ⟨rfl,l8,gy,pg,O,bn,rfl⟩;refine Zv (BM (vs:=[(0,.func (.func 200) #[] #[]),(1,.func (.func 201) #[] #[])]) (cs:=#[.func (.func 200) #[] #[],.func (.func 201) #[] #[]]) Y (AZ (pl:=#[(0,1),(1,1)]) ZD Ys (fun _=>by kernel_rfl) AF))<|Ze (EF I8 Z1 O (fun _ _=>trivial) (trivial) Y Y Y Wo) ?_;rintro _ _ ⟨rfl,l9,ic,pq,U,cu,rfl⟩;refine Zc [_] Y call203 Y V (PN (.func (.func 204) #[] #[]) V rfl) ?_;rintro _ _ ⟨_,⟨g,rfl,rfl⟩,rfl⟩;refine Zv (BM (vs:=[(0,.func (.func 202) #[] #[]),(1,.func (.func 246) #[] #[I1 g])]) (cs:=#[.func (.func 202) #[] #[],.func (.func 246) #[] #[I1 g]]) Y (AZ (pl:=#[(0,1),(1,1)]) ZD Ys (fun _=>by kernel_rfl) AF))<|Ze (EF I8 Z1 U (fun _ _=>trivial) (trivial) Y Y Y Wo) ?_;rintro _ _ ⟨rfl,o8,j3,pz,W,cO,rfl⟩;refine Zc [_] Y call203 Y V (PN (.func (.func 206) #[] #[]) V rfl) ?_;rintro _ _ ⟨_,⟨m,rfl,rfl⟩,rfl⟩
 refine Zv (BM (vs:=[(0,.func (.func 205) #[] #[]),(1,.func (.func 246) #[] #[I1 m])]) (cs:=#[.func (.func 205) #[] #[],.func (.func 246) #[] #[I1 m]]) Y (AZ (pl:=#[(0,1),(1,1)]) ZD Ys (fun _=>by kernel_rfl) AF))<|Ze (EF I8 Z1 W (fun _ _=>trivial) (trivial) Y Y Y Wo) ?_;rintro _ _ ⟨rfl,o9,j5,q9,X,d9,rfl⟩;refine Zv (BM (vs:=[(0,.func (.func 207) #[] #[]),(1,.func (.func 208) #[] #[])]) (cs:=#[.func (.func 207) #[] #[],.func (.func 208) #[] #[]]) Y (AZ (pl:=#[(0,1),(1,1)]) ZD Ys (fun _=>by kernel_rfl) AF))<|Ze (EF I8 Z1 X (fun _ _=>trivial) (trivial) Y Y Y Wo) ?_;rintro _ _ ⟨rfl,I,G,ek,Z,dn,rfl⟩;refine Zm Y<|AW Y<|Zn [0] ?_;refine Zx<|AJ<|AP V results151 Y (by
  refine ⟨mb,I,G,ek,g,m,V,Z,fun p=>?_,V⟩;rw [dn,d9,cO,cu,bn,ax,af];simp only [M7,DB,Pr,P0,iv];constructor;· rintro (rfl|⟨rfl|⟨rfl|⟨rfl|⟨rfl|⟨rfl|⟨rfl,-⟩,-⟩,-⟩,-⟩,-⟩,-⟩)<;>simp
  · rintro (h|h|h|h|h|h|h)<;>subst h<;>simp)
theorem gM(q:QM)(c:Chg)(Z:BI q){g m:B8}{s1 s2:List A9}(U:Il g (bfQ q c) s1)(h2:Il m (afQ q c) s2):BJ prog (He q.kd) #[.agg (q.GW c g m (mQ q (bfQ q c)) (mQ q (afQ q c)))] [] (.bool (Cn q c)):=by
 have e1:=U.some_;have e2:=h2.some_
 have X:q.kd=1\/q.kd=2\/q.kd=3\/q.kd=4\/q.kd=5\/q.kd=6\/q.kd=7:=by have:=Z.2.2.2;omega
 have G:=bZ q c g m (mQ q (bfQ q c)) (mQ q (afQ q c));have O:=TR q c g m (mQ q (bfQ q c)) (mQ q (afQ q c))
 have W:=yO q c g m (mQ q (bfQ q c)) (mQ q (afQ q c));have I:=yN q c g m (mQ q (bfQ q c)) (mQ q (afQ q c))
 have J:=yM q c g m (mQ q (bfQ q c)) (mQ q (afQ q c));have K:=yL q c g m (mQ q (bfQ q c)) (mQ q (afQ q c))
 rw [e1,e2]at G O I J K;rcases X with h|h|h|h|h|h|h
 · rw [show He q.kd=196 by rw [h];rfl,show Cn q c=O6 q c by unfold Cn;rw [As A0]];exact G
 · rw [show He q.kd=196 by rw [h];rfl,show Cn q c=O6 q c by unfold Cn;rw [As A0]];exact G
 · rw [show He q.kd=198 by rw [h];rfl,show Cn q c=Um q c by unfold Cn;rw [An A0,As A0]];exact O
 · rw [show He q.kd=200 by rw [h];rfl,show Cn q c=decide (mQ q (bfQ q c)≠mQ q (afQ q c)) by unfold Cn;rw [An A0,An A0,As A0]];exact W
 · rw [show He q.kd=202 by rw [h];rfl,show Cn q c=(Um q c||decide (mQ q (bfQ q c)≠mQ q (afQ q c))) by unfold Cn;rw [An A0,An A0,An A0,As A0]];exact I
 · rw [show He q.kd=205 by rw [h];rfl,show Cn q c=(Um q c||decide (mQ q (bfQ q c)≠mQ q (afQ q c))) by unfold Cn;rw [An A0,An A0,An A0,As A0]];exact J
 · rw [show He q.kd=207 by rw [h];rfl,show Cn q c=(O6 q c||decide (c.t=q.ot)) by unfold Cn;rw [An A0,An A0,An A0,An A0]];exact K
theorem nU(g:1<=k/\k<=7):∀(args:AM) (w:AD),(callFunc (He k) args).run prog w= .ok (.enter (He k) args) w:=by
 obtain h|h|h|h|h|h|h:k=1\/k=2\/k=3\/k=4\/k=5\/k=6\/k=7:=by omega
 all_goals (subst h;simp only [He];first|exact call196|exact call198|exact call200|exact call202|exact call205|exact call207)
variable{q:QM}
theorem BI.kind(h:BI q):1<=q.kd/\q.kd<=7:=by have:=h.2.2.2;omega
theorem Kg(q:QM)(c:Chg):BJ prog 96 #[.agg q.A95,.agg c.A93] [] (.bool (decide (BI q)&&(decide c.ok&&Cn q c))):=by
 refine Se func96 ntmps96 [0,1] ?_;intro u R;refine A1<|Ze (Bx #[_,_,_,_,_,_,_])<|AG fun pq=>Ze (Bx #[_,_,_,_,_,_,_,_,_,_])<|AG fun pc=>A5 Y<|Zq<|Aw (n:=18) (0::1::3::7::15::31::63::127::127::383::1023::2047::127::127::12543::32767::65535::131071::[]) 49298 AF AF V<|FF 0 V Wh (AB (cs:=#[_,_,_,_,_,_,_]) F1 CM Y B5 Ax)<|Yw 1 3 V (Zu [_] Y call29 Y V (Iy q))<|D0<|A3 2 V (AO Y)<|Ce (t:=7) Y (fun g=>?_) (fun g=>?_);·
  rw [g];refine DP 3 V Wh (AB (cs:=#[_,_,_,_,_,_,_,_,_,_]) GP CA Y B5 Ax)<|Yw 4 31 V (Zu [_] Y call94 Y V (VO c))<|D0<|A3 5 V (AX Y Y)<|A3 6 V (AO Y)<|Ce (t:=11) Y (fun h2=>?_) (fun h2=>?_);·
   rw [h2];refine B1 8 V (AA (off:=0) CI V rfl AE Y)<|DP 9 V Wh (BD AH Y Ax)<|DP 12 V Wh (AB (cs:=#[_,_,_,_,_,_,_]) F1 CM Y B5 Ax)<|DP 13 V Wh (AB (cs:=#[_,_,_,_,_,_,_,_,_,_]) GP CA Y B5 Ax)<|Zz (l:=[7])<|B7 [true,true,true] [(13,(_,_)),(12,(_,_)),(9,(_,_))] V rfl (Zw [] Y call151 Y V (Nr)) ?_ Bp Ah;rintro _ _ ⟨_,⟨mb,es,ck,lm,U,W,rfl,K,O,rfl⟩,rfl⟩;refine ⟨Zk (Zk (Zk (AY))),?_⟩;have G:BI q:=HN g
   obtain ⟨pf,m⟩:=uT O K.keys G.kind;refine DP 10 rfl Wh (Dp I8 Z1 ZD K (fun _ _=>trivial) (trivial) ((by rw [m];exact rfl:_=Value.agg #[.func (.func (He q.kd)) #[] #[],pf])) Y Y)<|B1 11 rfl (XP Ys rfl isAgg257 Y rfl)<|Zz (l:=[14])<|B7 [true,false,false,true] [(10,(_,_)),(9,(_,_))] rfl rfl (Zw [_,_] Y call152 Y rfl (Ji q G.2.1 (by have:=G.2.2.2;omega) c)) ?_ Bp Ah;rintro _ _ ⟨_,⟨X,Z,s1,s2,rfl,I,J,rfl⟩,rfl⟩;refine Bk<|Yw 15 65535 V (Zu [_] Y (nU G.kind) Y V (gM q c G I J))<|D0<|A3 16 V (AX Y Y)<|A3 17 V (Aq Y)<|Ag<|Zn [4] ?_;refine Zx<|AJ<|AP V results96 Y (by exact ⟨by simp [g,h2],V⟩)
  rw [h2];refine AN 7 V<|AN 8 V<|AN 9 V<|AN 10 V<|AN 11 V<|AN 12 V<|AN 13 V<|AN 14 V<|AN 15 V<|A3 16 V (AL Y Y)<|A3 17 V (Aq Y)<|Ag<|Zn [4] ?_;refine Zx<|AJ<|AP V results96 Y (by exact ⟨by simp [g,h2],V⟩)
 rw [g];refine AN 3 V<|AN 4 V<|A3 5 V (AL Y Y)<|A3 6 V (AO Y)<|AN 7 V<|AN 8 V<|AN 9 V<|AN 10 V<|AN 11 V<|AN 12 V<|AN 13 V<|AN 14 V<|AN 15 V<|A3 16 V (AL Y Y)<|A3 17 V (Aq Y)<|Ag<|Zn [4] ?_;refine Zx<|AJ<|AP V results96 Y (by exact ⟨by simp [g],V⟩)
def ivQ(n:Int):A4:=I0 n
theorem lS(e:AK)(g c:Nat)(z:A4)(h:c<=maxLen):Bc 1 e (I2 g 0 c) 0 [] [(g,.cells (List.replicate c z).toArray e (0,0))]:=⟨rfl,.inr ⟨g,c,_,(0,0),rfl,rfl,C7 _,h,by simp,by simp,BC _⟩⟩
variable{rows:List AU}{i:Nat}{r:AU}
theorem nJ(h:rows[i]?=some r):D5 q (rows.take (i+1))=D5 q (rows.take i)++[Bj r q.bq]:=by
 unfold D5;rw [Bl h,C0];rfl
theorem KN(q:QM)(rows:List AU):(D5 q rows).length=rows.length:=by unfold D5;rw [B6]
theorem y8(h:rows[i]?=some r):(D5 q rows)[i]?=some (Bj r q.bq):=by unfold D5;rw [DQ,h];rfl
variable{M:List A9}
theorem iE(hv:Di M v rows){v0:Int}{U:Bool}(st:Nat->Int×Bool)(h0:st 0=(v0,U))(G:Nat)(us:List A4)(K:∀(args:AM) (w:AD),(callFunc G args).run prog w= .ok (.enter G args) w)(hf:∀(i:Nat) (r:AU),rows[i]?=some r->BJ prog G (.agg #[.slice none 0 0,I0 (st i).1,.bool (st i).2]:: .agg r.A94::us).toArray [M] (.agg #[.slice none 0 0,I0 (st (i+1)).1,.bool (st (i+1)).2])):BJ prog 110 #[v,.agg #[.slice none 0 0,I0 v0,.bool U],.func (.func G) #[] us.toArray] [M] (.agg #[.slice none 0 0,I0 (st rows.length).1,.bool (st rows.length).2]):=by
 have ax:=mL;obtain ⟨p,cap,rfl,⟨hl,af⟩,hg⟩:=id hv;refine Se func110 ntmps110 [0,1,2] ?_;intro u R;refine A1<|Ze (Bx #[_,_,_])<|AG fun Z=>Ze (Al GS #[_,_,_])<|AG fun re=>A6<|Zq<|A1<|Zm Y<|Zv (Ab C1 Y)<|Zm Y<|A6<|AR<|Zb [11,2,4,6,9,10] ?_;refine BF (e0:=[(11,_)]) (fun m e H=>∃(i:Nat),m=rows.length -i/\(i<=rows.length)/\e=[(11,I0 (i:Int))]/\H=[[(Z,.cells #[.slice none 0 0,I0 (st i).1,.bool (st i).2] 61 (0,0))]]) (by exact ⟨0,rfl,C7 _,rfl,by rw [h0]⟩) Wp ?_;rintro _ _ _ ⟨i,rfl,hi,rfl,rfl⟩;refine A1<|Zv (Ay Y Y)<|A6<|Zq<|Av Y (fun J=>?_) (fun J=>?_);·
  obtain ⟨r,W⟩:∃r,rows[i]?=some r:=⟨_,BT J⟩;obtain ⟨g,off,cur,T,zz,rfl,O,X,I⟩:=hg i r W;refine AC<|Zx<|Zq<|AR<|A1<|BZ (Ad C1 B3 Y Y A0)<|CS (cs:=[(g,.cells cur T zz)]) (by simp [O]) (AB (cs:=r.A94) Cp B3 Y A0 I) V rfl<|Ze (Al EV #[_,_,_,_,_])<|AG fun rb=>Xe (Xw B3 r.A94)<|A6<|Zg<|Zm Y<|Zo Wh (AB (cs:=#[_,_,_]) CN B9 Y B5 Ax)<|Zo Wh (AB (cs:=#[_,_,_,_,_]) Cp B3 Y B5 Ax)<|Xr [_,_] Y (K) Y rfl (hf i r W)<|Xe (BL B9 Y Y Hi Wu (by exact (rfl:_=(#[.slice none 0 0,I0 (st (i+1)).1,.bool (st (i+1)).2]:AM))) Fi B5 (by exact BC _))<|Z0<|A8<|Zx<|Zg<|Ya (n:=1) Y Y<|Zm Y<|Z0<|Zn [11,2,4,6,9,10] ?_;refine Aa (e':=[(11,_)]) (by exact ⟨i+1,V,by omega,V,V⟩)
 have ei:i=rows.length:=by omega
 subst ei;refine Az<|Zt<|Zt<|AV<|Zx<|A1<|Zo Wh (AB (cs:=#[_,_,_]) CN B9 Y B5 Ax)<|Xe (Xw B9 _)<|A6<|AJ<|D7 V results110 Y Wh (Au CN B9 Wn (V)) (by exact ⟨V,V⟩)
variable{p:B8}{cap:Nat}{ms:List Int}
theorem U1(hc:FP M p (ms.map ivQ))(hl:ms.length<=maxLen)(af:ms.length<=cap){v0:Int}{W:Bool}(st:Nat->Int×Bool)(h0:st 0=(v0,W))(G:Nat)(us:List A4)(O:∀(args:AM) (w:AD),(callFunc G args).run prog w= .ok (.enter G args) w)(hf:∀(i:Nat) (x:Int),ms[i]?=some x->BJ prog G (.agg #[.slice none 0 0,I0 (st i).1,.bool (st i).2]::I0 x::us).toArray [M] (.agg #[.slice none 0 0,I0 (st (i+1)).1,.bool (st (i+1)).2])):BJ prog 112 #[.slice p ms.length cap,.agg #[.slice none 0 0,I0 v0,.bool W],.func (.func G) #[] us.toArray] [M] (.agg #[.slice none 0 0,I0 (st ms.length).1,.bool (st ms.length).2]):=by
 have ax:=mL;refine Se func112 ntmps112 [0,1,2] ?_;intro u R;refine A1<|Ze (Bx #[_,_,_])<|AG fun Z=>Ze (Al GS #[_,_,_])<|AG fun re=>A6<|Zq<|A1<|Zm Y<|Zv (Ab DG Y)<|Zm Y<|A6<|AR<|Zb [11,2,4,6,9,10] ?_;refine BF (e0:=[(11,_)]) (fun m e H=>∃(i:Nat),m=ms.length -i/\(i<=ms.length)/\e=[(11,I0 (i:Int))]/\H=[[(Z,.cells #[.slice none 0 0,I0 (st i).1,.bool (st i).2] 61 (0,0))]]) (by exact ⟨0,rfl,C7 _,rfl,by rw [h0]⟩) Wp ?_;rintro _ _ _ ⟨i,rfl,hi,rfl,rfl⟩;refine A1<|Zv (Ay Y Y)<|A6<|Zq<|Av Y (fun K=>?_) (fun K=>?_);·
  obtain ⟨x,X⟩:∃x,ms[i]?=some x:=⟨_,BT K⟩;obtain ⟨g,off,cur,T,zz,rfl,U,J⟩:=hc i (ivQ x) (by rw [DQ,X];rfl);have I:cur[off+i]?=some (I0 x):=J
  refine AC<|Zx<|Zq<|AR<|A1<|BZ (CG DG AE Y Y de)<|CS (cs:=[(g,.cells cur T zz)]) (by simp [U]) (BD AH Y I) rfl rfl<|A5 Y<|Zg<|Zm Y<|Zo Wh (AB (cs:=#[_,_,_]) CN B9 Y B5 Ax)<|Zm Y<|Xr [_,_] Y (O) Y rfl (hf i x X)<|Xe (BL B9 Y Y Hi Wu (by exact (rfl:_=(#[.slice none 0 0,I0 (st (i+1)).1,.bool (st (i+1)).2]:AM))) Fi B5 (by exact BC _))<|Z0<|A8<|Zx<|Zg<|Ya (n:=1) Y Y<|Zm Y<|Z0<|Zn [11,2,4,6,9,10] ?_;refine Aa (e':=[(11,_)]) (by exact ⟨i+1,V,by omega,V,V⟩)
 have ei:i=ms.length:=by omega
 subst ei;refine Az<|Zt<|Zt<|AV<|Zx<|A1<|Zo Wh (AB (cs:=#[_,_,_]) CN B9 Y B5 Ax)<|Xe (Xw B9 _)<|A6<|AJ<|D7 V results112 Y Wh (Au CN B9 Wn (V)) (by exact ⟨V,V⟩)
theorem Mr(hv:Di M v rows)(q:QM)(U:0<=q.bq/\q.bq<=3)(hb:rows.length<=1000000000000):BS prog 113 #[.agg q.A95,v] [M] (fun r H'=>∃s,Bc 1 3 r (D5 q rows).length ((D5 q rows).map ivQ) s/\H'=[s,M]):=by
 have cu:=mL;obtain ⟨p,cap,rfl,⟨hl,bn⟩,hg⟩:=id hv;refine Se func113 ntmps113 [0,1] ?_;intro u R;refine A1<|Ze (Bx #[_,_,_,_,_,_,_])<|AG fun bq=>A5 Y<|A1<|Zm Y<|Zv (Ab C1 Y)<|Ze (Gh (by_:=8) (l:=0) DG (V:Tryz.prog.info? 3=some Tryz.t3) V rfl V rfl Y Y ?_ ?_ ?_) ?_
 (focus (omega))
 (focus (omega))
 (focus (omega))
 rintro _ _ ⟨mk,rfl,rfl⟩;refine A5 Y<|Zq<|A1<|Zm Y<|Zv (Ab C1 Y)<|Zm Y<|A6<|AR<|Zb [5,13,2,11,12] ?_;refine BF (e0:=[(5,_),(13,_)]) (fun m e H=>∃(i:Nat) (vo:A4) (O:List A9),m=rows.length -i/\(i<=rows.length/\Bc 1 3 vo i ((D5 q (rows.take i)).map ivQ) O)/\e=[(5,vo),(13,I0 (i:Int))]/\H=[O]) (by exact ⟨0,_,_,rfl,⟨C7 _,by rw [J0];exact lS _ _ _ (I0 0) A0⟩,rfl,rfl⟩) Wp ?_;rintro _ _ _ ⟨i,vo,O,rfl,⟨hi,I⟩,rfl,rfl⟩;obtain ⟨qo,co,rfl⟩:=I.form;refine A1<|Zv (Ay Y Y)<|A6<|Zq<|Av Y (fun K=>?_) (fun K=>?_);·
  obtain ⟨r,X⟩:∃r,rows[i]?=some r:=⟨_,BT K⟩;obtain ⟨g,off,cur,T,zz,rfl,W,Z,J⟩:=hg i r X;refine AC<|Zx<|Zq<|AR<|A1<|BZ (Ad C1 B3 Y Y A0)<|CS (cs:=[(g,.cells cur T zz)]) (by simp [W]) (AB (cs:=r.A94) Cp B3 Y A0 J) V rfl<|Ze (Al EV #[_,_,_,_,_])<|AG fun rb=>Xe (Xw B3 r.A94)<|A6<|Zg<|Zm Y<|Zo Wh (AB (cs:=#[_,_,_,_,_]) Cp B3 Y B5 Ax)<|Zh 5 CI V rfl AE Y<|Zl AH Y<|Xr [_,_] Y RM Y V (GD r q.bq U)<|Ze (Ai (vs:=[_]) (cs:=[_]) DG AE HI Y V rfl V rfl V)<|AG fun gb=>Ze (BV (by_:=8) (sz:=1) DG (V:Tryz.prog.info? 3=some Tryz.t3) V rfl V rfl Y (I) Y (Db 1 gb 1 1 3 (0,0) [I0 (Bj r q.bq)] V) Wo Wo G0 A0 A0) ?_;rintro _ _ ⟨cO,G,rfl⟩;obtain ⟨ax,af,rfl⟩:=G.form;refine AW Y<|Zn [2,5,11,12,13] ?_;refine A8<|Zx<|Zg<|Ya (n:=1) Y Y<|Zm Y<|Z0<|Zn [5,13,2,11,12] ?_;refine Aa (e':=[(5,_),(13,_)]) (by exact ⟨i+1,_,_,rfl,⟨by omega,Ba G rfl (by rw [nJ X,C0];rfl)⟩,rfl,rfl⟩)
 have ei:i=rows.length:=by omega
 subst ei;refine Az<|Zt<|Zt<|AV<|Zx<|A1<|Zm Y<|A5 Y<|AJ<|AP rfl results113 Y (by exact ⟨O,Ba I (KN q rows).symm (by rw [GC]),rfl⟩)
theorem NR(v:A4)(g:v.oneCell'=true)(hc:v.cells=#[v]):BS prog 115 #[v] [] (fun r H'=>∃b,r= .func (.func 174) #[] #[I1 b]/\H'=[[(b,.cells #[v] 224 (0,0))]]):=by
 refine Se func115 ntmps115 [0] ?_;intro u R;refine A1<|Ze (F8 Y (cs:=#[v]) hc)<|AG fun b=>A5 Y<|A1<|Zv (Bf (vs:=[]) (us:=[_]) Y Y)<|A5 Y<|AJ<|AP V results115 Y (by exact ⟨b,V,V⟩)
theorem oW(v n:Int)(f:Bool)(b g:Nat)(lt:Int->Int->Bool)(m:∀(args:AM) (w:AD),(callFunc g args).run prog w= .ok (.enter g args) w)(G:∀x y:Int,BJ prog g #[I0 x,I0 y] [] (.bool (lt x y))):BJ prog 174 #[.agg #[.slice none 0 0,I0 v,.bool f],I0 n,I1 b] [[(b,.cells #[.func (.func g) #[] #[]] 224 (0,0))]] (.agg #[.slice none 0 0,I0 (if !f||lt n v then n else v),.bool true]):=by
 refine Se func174 ntmps174 [0,1,2] ?_;intro u R;refine A1<|Ze (Bx #[_,_,_])<|AG fun J=>Ze (Al GS #[_,_,_])<|AG fun K=>A6<|Zq<|A1<|Zh 2 DS V rfl DM Y<|Zl Fc Y ?_;refine Zv (Br Y)<|Zm Y<|Aj (t:=9) Y V (fun I=>?_) (fun I=>?_);·
  refine A7 Y V<|A7 Y V<|A7 Y V<|A7 Y V<|A7 Y V<|Zv (AX Y Y)<|A6<|DR Y<|Zg<|Zm Y<|Zh 1 DS V rfl AE Y<|Xe (Zs AE Y Y V (hi:=by(simp;done))) ?_;refine Z0<|Zn [3,5] ?_;refine Zx<|A1<|Zh 2 DS V rfl DM Y<|Xe (Zs DM Y Y V (hi:=by(simp;done))) ?_;refine A6<|A1<|Zo Wh (AB (cs:=#[_,_,_]) CN B9 Y B5 Ax) ?_;refine Xe (Xw B9 _) ?_;refine A6<|AJ<|D7 V results174 Y Wh (Au CN B9 Wn (V)) (by exact ⟨by simp_all;rfl,V⟩)
 refine Yl isAgg224 Y ?_;refine Zf Y Y<|Yf 1 DS V rfl AE Y<|Yl AH Y ?_;refine Xr [_,_] Y (m) Y V (G n v) ?_;refine Zv (AL Y Y)<|A6<|AQ Y (fun h2=>?_) (fun h2=>?_);·
  refine Zg<|Zm Y<|Zh 1 DS V rfl AE Y<|Xe (Zs AE Y Y V (hi:=by(simp;done))) ?_;refine Z0<|Zn [3,5] ?_;refine Zx<|A1<|Zh 2 DS V rfl DM Y<|Xe (Zs DM Y Y V (hi:=by(simp;done))) ?_;refine A6<|A1<|Zo Wh (AB (cs:=#[_,_,_]) CN B9 Y B5 Ax) ?_;refine Xe (Xw B9 _) ?_;refine A6<|AJ<|D7 V results174 Y Wh (Au CN B9 Wn (V)) (by exact ⟨by simp_all;rfl,V⟩)
 refine AC<|Zx<|A1<|Zh 2 DS V rfl DM Y<|Xe (Zs DM Y Y V (hi:=by(simp;done))) ?_;refine Z0<|Zn [3,5] ?_;refine Zx<|A1<|Zo Wh (AB (cs:=#[_,_,_]) CN B9 Y B5 Ax) ?_;refine Xe (Xw B9 _) ?_;refine A6<|AJ<|D7 V results174 Y Wh (Au CN B9 Wn (V)) (by exact ⟨by simp_all;rfl,V⟩)
theorem gu(x y:Int):BJ prog 116 #[I0 x,I0 y] [] (.bool (decide (x<y))):=by
 refine Se func116 ntmps116 [0,1] ?_;intro u R;refine A1<|A5 Y<|A1<|Zm Y<|Zm Y<|Zv (EI Y Y)<|A5 Y<|AJ<|AP V results116 Y (by exact ⟨by rfl,V⟩)
theorem gZ(x y:Int):BJ prog 117 #[I0 x,I0 y] [] (.bool (decide (y<x))):=by
 refine Se func117 ntmps117 [0,1] ?_;intro u R;refine A1<|A5 Y<|A1<|Zm Y<|Zm Y<|Zv (Ef Y Y)<|A5 Y<|AJ<|AP V results117 Y (by exact ⟨by rfl,V⟩)
theorem iB(v:Int)(f:Bool)(r:AU)(h:-9223372036854775807<=v/\v<=9223372036854775806):BJ prog 111 #[.agg #[.slice none 0 0,I0 v,.bool f],.agg r.A94] [] (.agg #[.slice none 0 0,I0 (v+1),.bool f]):=by
 refine Se func111 ntmps111 [0,1] ?_;intro u R;refine A1<|Ze (Bx #[_,_,_])<|AG fun m=>Ze (Bx #[_,_,_,_,_])<|AG fun G=>Ze (Al GS #[_,_,_])<|AG fun g=>A6<|A1<|Zh 1 DS V rfl AE Y<|Zl AH Y<|Yi Y Y<|Zh 1 DS V rfl AE Y<|Xe (Zs AE Y Y V (hi:=by(simp;done)))<|A6<|A1<|Zo Wh (AB (cs:=#[_,_,_]) CN B9 Y B5 Ax)<|Xe (Xw B9 _)<|A6<|AJ<|D7 V results111 Y Wh (Au CN B9 Wn (V)) (by exact ⟨V,V⟩)
theorem iA(v n:Int)(f:Bool)(h:-9223372036854775807<=v+n/\v+n<=9223372036854775806):BJ prog 114 #[.agg #[.slice none 0 0,I0 v,.bool f],I0 n] [] (.agg #[.slice none 0 0,I0 (v+n),.bool f]):=by
 refine Se func114 ntmps114 [0,1] ?_;intro u R;refine A1<|Ze (Bx #[_,_,_])<|AG fun m=>Ze (Al GS #[_,_,_])<|AG fun g=>A6<|A1<|Zh 1 DS V rfl AE Y<|Zl AH Y<|Zm Y<|Yi Y Y<|Zh 1 DS V rfl AE Y<|Xe (Zs AE Y Y V (hi:=by(simp;done)))<|A6<|A1<|Zo Wh (AB (cs:=#[_,_,_]) CN B9 Y B5 Ax)<|Xe (Xw B9 _)<|A6<|AJ<|D7 V results114 Y Wh (Au CN B9 Wn (V)) (by exact ⟨V,V⟩)
def zT(r:AU):A4:= .agg r.A94
theorem uG{g:List (Int×A4)}{I:Int}(J:(lm.map (·.1)).Nodup)(m:(g.map (·.1)).Nodup)(G:∀p,p∈g↔p=(I,v)\/(p∈lm/\p.1≠I))(k:Int):Dq k g=if k=I then some v else Dq k lm:=by
 split
 · rename_i h
   rw [h];exact D8 m ((G _).2 (.inl V))
 · rename_i h
   cases hg:Dq k lm with
   |some x=>exact D8 m ((G _).2 (.inr ⟨QJ hg,h⟩))
   |none=>
    cases hg2:Dq k g with
    |none=>rfl
    |some x=>
     rcases (G _).1 (QJ hg2)with e|⟨e,_⟩
     · injection e with e1 e2;exact absurd e1 h
     · rw [D8 J e]at hg;cases hg
variable{others:List AU}{x:AU}
theorem Vk(h:others[i]?=some x)(k:Int):Dc q (others.take (i+1)) k=(Dc q (others.take i) k).or (if x.t=q.ot/\x.k=k then some x else none):=by
 unfold Dc;rw [Bl h,List.find?_append];congr 1;simp only [List.find?_cons,List.find?_nil];split<;>simp_all
def UT(q:QM)(others:List AU)(lm:List (Int×A4)):Prop:=∀k,Dq k lm=(Dc q others k).map zT
theorem TD(h:others[i]?=some x)(G:UT q (others.take i) lm)(g:¬x.t=q.ot\/(Dc q (others.take i) x.k).isSome=true):UT q (others.take (i+1)) lm:=by
 intro k;rw [G k,Vk h k];cases hg:Dc q (others.take i) k with
 |some y=>rfl
 |none=>
  rw [An];· rfl
  · rintro ⟨m,rfl⟩
    rcases g with g|g
    · exact g m
    · rw [hg]at g;cases g
theorem mI{g:List (Int×A4)}(h:others[i]?=some x)(J:UT q (others.take i) lm)(U:x.t=q.ot)(G:(Dc q (others.take i) x.k).isSome=false)(K:(lm.map (·.1)).Nodup)(m:(g.map (·.1)).Nodup)(O:∀p,p∈g↔p=(x.k,zT x)\/(p∈lm/\p.1≠x.k)):UT q (others.take (i+1)) g:=by
 intro k;rw [uG K m O k,Vk h k];split
 · rename_i hk
   have:Dc q (others.take i) k=none:=by
    rw [hk];cases hg:Dc q (others.take i) x.k with
    |none=>rfl
    |some y=>rw [hg]at G;cases G
   rw [this,As ⟨U,hk.symm⟩];rfl
 · rename_i hk
   rw [J k,An (fun I=>hk I.2.symm)];cases Dc q (others.take i) k<;>rfl
variable{y:AU}
theorem Vl(g:UT q others lm)(k:Int)(m:y=(Dc q others k).getD ⟨0,0,⟨0,0,0⟩⟩):(Dq k lm).getD (.agg #[I0 (⟨0,0,⟨0,0,0⟩⟩:AU).t,I0 (⟨0,0,⟨0,0,0⟩⟩:AU).k,I0 (⟨0,0,⟨0,0,0⟩⟩:AU).v.a,I0 (⟨0,0,⟨0,0,0⟩⟩:AU).v.b,I0 (⟨0,0,⟨0,0,0⟩⟩:AU).v.c])= .agg y.A94/\(Dq k lm).isSome=(Dc q others k).isSome:=by
 rw [g k,m];cases Dc q others k<;>exact ⟨rfl,rfl⟩
theorem Vj(g:y=(Dc q others k).getD ⟨0,0,⟨0,0,0⟩⟩)(h:(Dc q others k).isSome=true):Dc q others k=some y:=by
 rw [g];cases hp:Dc q others k with
 |none=>rw [hp]at h;cases h
 |some x=>rfl
variable{s:List A9}
theorem LH{sz:Nat}{e:AK}{n c k:Nat}{xs:List A4}(h:Bc sz e (.slice p n c) k xs s):FP s p xs:=by
 intro j u G;obtain ⟨J,⟨_,rfl,_⟩|⟨g,cap,cur,z,hv,rfl,_,_,_,m,_⟩⟩:=h
 · have:xs=[]:=Lz A0
   subst this;cases G
 · injection hv with h1 h2 h3
   subst h1;refine ⟨g,0,cur,e,z,V,by simp,?_⟩;have I:=(C4.1 G).1
   rw [<-m,HH,As A0,HR]at G;rwa [D4]
theorem QN(h:rows[i]?=some r):Ip q (rows.take (i+1)) others=Ip q (rows.take i) others++Io q others r:=by
 unfold Ip;rw [Bl h,PB,oA]
theorem Vm(h:Dc q others (Bj r q.bq)=some y):Io q others r=[r,y]:=by unfold Io;rw [h]
theorem mJ(h:Dc q others (Bj r q.bq)=none):Io q others r=[]:=by unfold Io;rw [h]
theorem sZ(q:QM)(others:List AU)(r:AU):(Io q others r).length<=2:=by unfold Io;split<;>simp
theorem Te(q:QM)(rows others:List AU):(Ip q rows others).length<=2*rows.length:=by
 induction rows with
 |nil=>simp [Ip]
 |cons r rows ih=>
  have:=sZ q others r;unfold Ip at*;rw [HW,BW,E4];omega
variable{vo:A4}
set_option maxHeartbeats 1000000 in
theorem ZY(hv:Di M v rows)(ho:Di M vo others)(q:QM)(gy:0<=q.bq/\q.bq<=3)(hb:rows.length<=100000000000):BS prog 118 #[.agg q.A95,v,vo] [M] (fun r H'=>∃s,Bc 5 80 r (Ip q rows others).length (Ae (Ip q rows others)) s/\H'=[s,M]):=by
 have sw:=mL;obtain ⟨p,cap,rfl,⟨hl,r9⟩,hg⟩:=id hv;obtain ⟨po,p8,rfl,⟨sj,p9⟩,j3⟩:=id ho;refine Se func118 ntmps118 [0,1,2] ?_;intro u R;refine A1<|Ze (Bx #[_,_,_,_,_,_,_])<|AG fun bq=>A5 Y<|A1<|Ze (DV)<|AG fun mb=>A5 Y<|Zq<|A1<|Zm Y<|Zv (Ab C1 Y)<|Zm Y<|A6<|AR<|Zb [19,1,3,6,7,17,18] ?_;refine BF (e0:=[(19,_)]) (fun m e H=>∃(i:Nat) (es:Array MapEntry) (ck:Nat) (lm:List (Int×A4)),m=others.length -i/\(i<=others.length/\Ck (fun k:Int=>I0 k) es ck lm/\UT q (others.take i) lm)/\e=[(19,I0 (i:Int))]/\H=[[(mb,.map es ck)]]) (by exact ⟨0,#[],0,[],V,⟨C7 _,EZ _,fun k=>rfl⟩,V,V⟩) Wp ?_;rintro _ _ _ ⟨i,es,ck,lm,rfl,⟨hi,W,U⟩,rfl,rfl⟩;refine A1<|Zv (Ay Y Y)<|A6<|Zq<|Av Y (fun G=>?_) (fun G=>?_);·
  obtain ⟨x,hx⟩:∃x,others[i]?=some x:=⟨_,BT G⟩;obtain ⟨g1,q9,Z,T1,l9,rfl,j5,pq,ax⟩:=j3 i x hx;refine AC<|Zx<|Zq<|AR<|A1<|BZ (Ad C1 B3 Y Y A0)<|CS (cs:=[(g1,.cells Z T1 l9)]) (by simp [j5]) (AB (cs:=x.A94) Cp B3 Y A0 ax) V rfl<|Ze (Al EV #[_,_,_,_,_])<|AG fun bx=>Xe (Xw B3 x.A94)<|A6<|Zq ?_;obtain ⟨y0,dn⟩:∃y,y=(Dc q (others.take i) x.k).getD ⟨0,0,⟨0,0,0⟩⟩:=⟨_,rfl⟩;refine Zg<|Zm Y<|Zh 1 Fo V rfl AE Y<|Zl AH Y<|Zo Wh (EW I8 underlying300 EV W (fun _ _=>trivial) (trivial) (Vl U x.k dn) Y Y)<|Zm Y<|Zd Y V<|Zd Y V<|Ze (Al EV #[_,_,_,_,_])<|AG fun bt=>Xe (Xw B3 y0.A94)<|AW Y<|Zn [1,3,6,7,9,11,17,18,19] ?_;refine Zx<|Zq ?_;obtain ⟨y0,dn⟩:∃y,y=(Dc q (others.take i) x.k).getD ⟨0,0,⟨0,0,0⟩⟩:=⟨_,rfl⟩;refine Zg<|Zh 0 Fo V rfl AE Y<|Zl AH Y<|Zh 6 CI V rfl AE Y<|Zl AH Y<|Zv (CO Y Y)<|Zm Y<|Ao (t:=35) Y V (fun h1=>?_) (fun h1=>?_);·
   refine Zf Y Y<|Yg (Br Y)<|Zv (AX Y Y)<|A6<|AQ Y (fun h2=>?_) (fun h2=>?_);·
    refine Zg<|Zm Y<|Zh 1 Fo V rfl AE Y<|Zl AH Y<|Zo Wh (AB (cs:=#[_,_,_,_,_]) Cp B3 Y B5 Ax)<|Ze (FJ I8 underlying300 W (fun _ _=>trivial) (trivial) Y Y Y Wo) ?_;rintro _ _ ⟨rfl,qw,ql,l8,I,l5,rfl⟩;have gq:UT q (others.take (i+1)) l8:=mI hx U h1 (by simpa using h2) W.keys I.keys l5
    refine Z0<|Zn [1,3,6,7,17,18,19] ?_;refine A8<|Zx<|Zg<|Ya (n:=1) Y Y<|Zm Y<|Z0<|Zn [19,1,3,6,7,17,18] ?_;refine Aa (e':=[(19,_)]) (by exact ⟨i+1,_,_,_,V,⟨by omega,I,gq⟩,V,V⟩)
   refine AC<|A8<|Zx<|Zg<|Ya (n:=1) Y Y<|Zm Y<|Z0<|Zn [19,1,3,6,7,17,18] ?_;refine Aa (e':=[(19,_)]) (by exact ⟨i+1,es,ck,lm,rfl,⟨by omega,W,TD hx U (by first|exact .inl A0|exact .inr (by simpa using h2))⟩,rfl,rfl⟩)
  refine A7 Y V<|A7 Y V<|Zv (AL Y Y)<|A6<|DI Y<|AC<|A8<|Zx<|Zg<|Ya (n:=1) Y Y<|Zm Y<|Z0<|Zn [19,1,3,6,7,17,18] ?_;refine Aa (e':=[(19,_)]) (by exact ⟨i+1,es,ck,lm,rfl,⟨by omega,W,TD hx U (by first|exact .inl A0|exact .inr (by simpa using h2))⟩,rfl,rfl⟩)
 have ei:i=others.length:=by omega
 subst ei;rw [GC]at U;refine Az<|Zt<|Zt<|AV<|Zx<|Zq<|A1<|Zo Wh (AB (cs:=#[_,_,_,_,_,_,_]) F1 CM Y B5 Ax)<|Zm Y<|Zc [_,_] Y call113 Y V (Mr hv q gy A0) ?_;rintro _ _ ⟨_,⟨sm,d9,rfl⟩,rfl⟩;obtain ⟨gm,cm,rfl⟩:=d9.form;refine Zv (Ab DG Y)<|Zm Y<|A6<|AR<|Be ?_;have ic:FP sm gm ((D5 q rows).map ivQ):=LH d9
 have pg:=KN q rows;refine Zb [6,48,1,7,46,47] ?_;refine BF (e0:=[(6,_),(48,_)]) (fun m e H=>∃(i:Nat) (w:A4) (so:List A9),m=rows.length -i/\(i<=rows.length/\Bc 5 80 w (Ip q (rows.take i) others).length (Ae (Ip q (rows.take i) others)) so)/\e=[(6,w),(48,I0 (i:Int))]/\H=[so]) (by exact ⟨0,.slice none 0 0,[],rfl,⟨C7 _,by rw [J0];exact Bi 5 _⟩,rfl,rfl⟩) Wp ?_;rintro _ _ _ ⟨i,w,so,rfl,⟨hi,g⟩,rfl,rfl⟩;obtain ⟨qo,co,rfl⟩:=g.form;have qz:(Ip q (rows.take i) others).length<=2*i:=R0 (Te _ _ _) (by rw [CD];omega)
 refine A1<|Zv (Ay Y Y)<|A6<|Zq<|Av Y (fun G=>?_) (fun G=>?_);·
  obtain ⟨r,hr⟩:∃r,rows[i]?=some r:=⟨_,BT A0⟩;obtain ⟨g2,ek,J,T2,o8,rfl,I,bn⟩:=ic i (ivQ (Bj r q.bq)) (by rw [DQ,y8 hr];rfl);have cO:J[ek+i]?=some (I0 (Bj r q.bq)):=bn
  obtain ⟨X,O⟩:∃y,y=(Dc q others (Bj r q.bq)).getD ⟨0,0,⟨0,0,0⟩⟩:=⟨_,rfl⟩;refine AC<|Zx<|Zq<|AR<|A1<|Zm Y<|BZ (CG DG AE Y Y de)<|CS (cs:=[(g2,.cells J T2 o8)]) (by simp [I]) (BD AH Y cO) rfl rfl<|Za Y<|A5 Y<|A1<|Zm Y<|Zm Y<|Zo Wh (EW I8 underlying300 EV W (fun _ _=>trivial) (trivial) (Vl U (Bj r q.bq) O) Y Y)<|Zm Y<|Zd Y rfl<|Zd Y rfl<|Ze (Al EV #[_,_,_,_,_])<|AG fun qb=>Xe (Xw B3 X.A94)<|AW Y<|Zn [1,6,7,12,14,15,46,47,48] ?_;refine Zx<|A1<|Zm Y<|A6<|AQ Y (fun h5=>?_) (fun h5=>?_);·
   obtain ⟨g3,qa,af,T3,o9,rfl,kv,pz,cu⟩:=hg i r hr;refine Aw (n:=9) (0::0::0::6::14::0::62::127::255::[]) 192 AF AF V<|A3 0 V (AO Y)<|A3 1 V (AO Y)<|A3 2 V (AO Y)<|A3 3 V (Ad C1 B3 Y Y A0)<|CV (b:=g3) (x:= .cells af T3 o9) (D':=31) 4 V rfl V (by simp [kv]) (AB (cs:=r.A94) Cp B3 Y A0 cu) ?_;refine FF 5 V Wh (AB (cs:=#[_,_,_,_,_]) Cp B3 Y B5 Ax)<|Yw 6 127 V (Ai (vs:=[_,_]) (cs:=[_,_,_,_,_,_,_,_,_,_]) C1 B3 EV Y V rfl V rfl V)<|AG fun gb=>Yw 7 255 V (BV (by_:=40) (sz:=5) C1 (V:Tryz.prog.info? 80=some Tryz.t80) V rfl V rfl Y (g) Y (Db 5 gb 2 2 80 (0,0) [I0 r.t,I0 r.k,I0 r.v.a,I0 r.v.b,I0 r.v.c,I0 X.t,I0 X.k,I0 X.v.a,I0 X.v.b,I0 X.v.c] V) Wo Wo G0 A0 A0) ?_;rintro _ _ ⟨sJ,K,rfl⟩;obtain ⟨qx,qj,rfl⟩:=K.form;refine A3 8 V (Aq Y)<|Ag<|A8<|Zx<|Zg<|Ya (n:=1) Y Y<|Zm Y<|Z0<|Zn [6,48,1,7,46,47] ?_;refine Aa (e':=[(6,_),(48,_)]) (by exact ⟨i+1,_,_,rfl,⟨by omega,Ba K (by rw [QN hr,Vm (Vj O h5),BW];rfl) (by rw [QN hr,Vm (Vj O h5),Bo];rfl)⟩,rfl,rfl⟩)
  refine AC<|A8<|Zx<|Zg<|Ya (n:=1) Y Y<|Zm Y<|Z0<|Zn [6,48,1,7,46,47] ?_;refine Aa (e':=[(6,_),(48,_)]) (by exact ⟨i+1,_,so,rfl,⟨by omega,by rw [QN hr,mJ (ri.1 (by simpa using h5)),DA];exact g⟩,rfl,rfl⟩)
 have ei:i=rows.length:=by omega
 subst ei;rw [GC]at g⊢;refine Az<|Zt<|Zt<|AV<|Zx<|A1<|Zm Y<|A5 Y<|AJ<|AP V results118 Y (by exact ⟨so,g,V⟩)
def Hg(q:QM)(rows others:List AU):C9:=if BI q then FW q rows others else C9.none
theorem zq(h:¬BI q):Hg q rows others=⟨[],0,false⟩:=An h
theorem NP(h:BI q):Hg q rows others=FW q rows others:=As h
theorem r8(h:BI q)(k:q.kd=3):Hg q rows others=⟨[],rows.length,false⟩:=by rw [NP h];unfold FW;rw [As k]
theorem r3(h:BI q)(k:q.kd=4):Hg q rows others=⟨[],Le (D5 q rows),false⟩:=by rw [NP h];unfold FW;rw [An A0,As k]
theorem qu(h:BI q)(k:q.kd=5):Hg q rows others=Ea (fun a b=>decide (a<b)) (D5 q rows):=by rw [NP h];unfold FW;rw [An A0,An A0,As k]
theorem qq(h:BI q)(k:q.kd=6):Hg q rows others=Ea (fun a b=>decide (b<a)) (D5 q rows):=by rw [NP h];unfold FW;rw [An A0,An A0,An A0,As k]
theorem qn(h:BI q)(k:q.kd=7):Hg q rows others=⟨Ip q rows others,0,false⟩:=by rw [NP h];unfold FW;rw [An A0,An A0,An A0,An A0,As k]
theorem rB(h:BI q)(g:¬q.kd=3)(m:¬q.kd=4)(G:¬q.kd=5)(I:¬q.kd=6)(J:¬q.kd=7):Hg q rows others=⟨rows,0,false⟩:=by rw [NP h];unfold FW;rw [An g,An m,An G,An I,An J]
theorem lD{x:Int}(h:ms[i]?=some x):Le (ms.take (i+1))=Le (ms.take i)+x:=by unfold Le;rw [Bl h,cD];rfl
theorem Rx(B:Int):∀(ms:List Int),(∀m∈ms,-B<=m/\m<=B)->-(ms.length*B)<=Jq ms/\Jq ms<=ms.length*B
 |[],_=>by simp [Jq]
 |m::ms,h=>by
  have G:=h m B4;have h2:=Rx B ms (fun y g=>h y (E7 _ g))
  have I:((m::ms).length:Int)*B=ms.length*B+B:=by rw [E4];push_cast;rw [Int.add_mul,Int.one_mul]
  simp only [Jq];omega
theorem jS(h:∀m∈ms,-1000000000<=m/\m<=1000000000)(I:ms.length<=1000000000)(i:Nat):-1000000000000000000<=Le (ms.take i)/\Le (ms.take i)<=1000000000000000000:=by
 have G:=Rx 1000000000 (ms.take i) (fun m g=>h m (P2 g));have h2:(ms.take i).length<=1000000000:=by rw [CD];omega
 unfold Le;rw [Mv];omega
theorem oV{lt:Int->Int->Bool}{x:Int}(h:ms[i]?=some x):Ea lt (ms.take (i+1))=⟨(Ea lt (ms.take i)).rows,if !(Ea lt (ms.take i)).fnd||lt x (Ea lt (ms.take i)).val then x else(Ea lt (ms.take i)).val,true⟩:=by unfold Ea;rw [Bl h,cD];rfl
theorem WM(lt:Int->Int->Bool)(ms:List Int):∀r:C9,(ms.foldl (fun r n=>⟨r.rows,if !r.fnd||lt n r.val then n else r.val,true⟩:C9->Int->C9) r).rows=r.rows:=by
 induction ms with
 |nil=>intro r;rfl
 |cons m ms ih=>intro r;rw [V1,ih]
theorem iQ(hv:Di M v rows)(G:rows.length<=1000000000):BJ prog 110 #[v,.agg #[.slice none 0 0,I0 0,.bool false],.func (.func 111) #[] #[]] [M] (.agg #[.slice none 0 0,I0 (rows.length:Int),.bool false]):=
 iE hv (fun i=>((i:Int),false)) rfl 111 [] call111 (fun i r m=>by
  have g:=(C4.1 m).1;have:=iB (i:Int) false r A0
  exact Qx this)
theorem qV(hc:FP s p (ms.map ivQ))(K:ms.length<=1000000000)(g:ms.length<=cap)(G:∀m∈ms,-1000000000<=m/\m<=1000000000):BJ prog 112 #[.slice p ms.length cap,.agg #[.slice none 0 0,I0 0,.bool false],.func (.func 114) #[] #[]] [s] (.agg #[.slice none 0 0,I0 (Le ms),.bool false]):=by
 have O:=mL;have h:=U1 hc A0 g (fun i=>(Le (ms.take i),false)) rfl 114 [] call114 (fun i x I=>by
  have U:=jS G K i;have h2:=G x (DO I)
  have J:=iA (Le (ms.take i)) x false A0;show BJ _ _ _ _ (.agg #[.slice none 0 0,I0 (Le (ms.take (i+1))),.bool false])
  rw [lD I];exact Qx J)
 rwa [GC]at h
theorem ay(hc:FP s p (ms.map ivQ))(Z:ms.length<=1000000000)(I:ms.length<=cap)(b m:Nat)(lt:Int->Int->Bool)(G:∀(args:AM) (w:AD),(callFunc m args).run prog w= .ok (.enter m args) w)(J:∀x y:Int,BJ prog m #[I0 x,I0 y] [] (.bool (lt x y))):BJ prog 112 #[.slice p ms.length cap,.agg #[.slice none 0 0,I0 0,.bool false],.func (.func 174) #[] #[I1 b]] [s,[(b,.cells #[.func (.func m) #[] #[]] 224 (0,0))]] (.agg #[.slice none 0 0,I0 (Ea lt ms).val,.bool (Ea lt ms).fnd]):=by
 have U:=mL;refine WR ?_;have h:=U1 (M:=s++[(b,.cells #[.func (.func m) #[] #[]] 224 (0,0))]) (ms:=ms) (p:=p) (fun j u W=>by
  obtain ⟨g,o,c,T,z,K,h2,O⟩:=hc j u W;exact ⟨g,o,c,T,z,K,Ek _ h2,O⟩) A0 I (fun i=>((Ea lt (ms.take i)).val,(Ea lt (ms.take i)).fnd)) V 174 [I1 b] call174 (fun i x X=>by
  show BJ _ _ _ _ (.agg #[.slice none 0 0,I0 (Ea lt (ms.take (i+1))).val,.bool (Ea lt (ms.take (i+1))).fnd]);rw [oV X];exact bG (oW (Ea lt (ms.take i)).val x (Ea lt (ms.take i)).fnd b m lt G J))
 rwa [GC]at h
theorem jo(h:∀r∈rows,-1000000000<=Bj r q.bq/\Bj r q.bq<=1000000000):∀m∈D5 q rows,-1000000000<=m/\m<=1000000000:=by
 intro m g;obtain ⟨r,G,rfl⟩:=C6.1 g;exact h r G
set_option maxHeartbeats 1000000 in
theorem oG(hv:Di M v rows)(ho:Di M vo others)(q:QM)(hb:rows.length<=1000000000)(hm:BI q->∀r∈rows,-1000000000<=Bj r q.bq/\Bj r q.bq<=1000000000):BS prog 59 #[.agg q.A95,v,vo] [M] (fun w H'=>∃rv s,w= .agg #[rv,I0 (Hg q rows others).val,.bool (Hg q rows others).fnd]/\Bc 5 80 rv (Hg q rows others).rows.length (Ae (Hg q rows others).rows) s/\H'=[s,M]):=by
 have ax:=mL;refine Se func59 ntmps59 [0,1,2] ?_;intro u R;refine A1<|Ze (Bx #[_,_,_,_,_,_,_])<|AG fun bq=>Ze (Al GS #[_,_,_])<|AG fun br=>A6<|Zq<|A1<|Zo Wh (AB (cs:=#[_,_,_,_,_,_,_]) F1 CM Y B5 Ax)<|Xr [_] Y call29 Y V (Iy q)<|Zv (Cz Y)<|A6<|AQ Y (fun hq=>?_) (fun hq=>?_);·
  have g:¬BI q:=by simpa using hq
  refine Zq<|Be<|Zg<|Zv (BM (vs:=[]) (cs:=#[_,_,_]) Y (AZ (pl:=#[(0,1),(1,1),(2,1)]) GS DS (fun _=>by kernel_rfl) rfl))<|Xe (Xw B9 _)<|A6<|AJ<|Zt<|D7 rfl da Y Wh (Au CN B9 Wn (rfl)) (by exact ⟨.slice none 0 0,[],by rw [zq g];rfl,by rw [zq g];exact Bi 5 _,rfl⟩)
 have g:BI q:=by simpa using hq
 have G:0<=q.bq/\q.bq<=3:=by have:=g.2.2.2;omega
 have af:=jo (hm g);refine AC<|Zx<|A1<|Ze (Al GS #[_,_,_])<|AG fun bn=>A6<|Zq<|A1<|Zh 0 CI V rfl AE Y<|Zl AH Y<|A6<|AR<|A1<|Zv (CO Y Y)<|A5 Y<|Av Y (fun W=>?_) (fun W=>?_);·
  refine Zq<|Be<|Zg<|Zm Y<|Zo Wh (Pa #[_,_,_] CN B9 Y)<|Xr [_,_,_] Y call110 Y V (iQ hv hb)<|Xe (Xw B9 _)<|Z0<|Zn [6] ?_;refine Zx<|AJ<|Ac<|Zt<|D7 rfl da Y Wh (Au CN B9 Wn (rfl)) (by exact ⟨.slice none 0 0,[],by rw [r8 g W];rfl,by rw [r8 g W];exact Bi 5 _,rfl⟩)
 refine A1<|Zv (CO Y Y)<|A5 Y<|Av Y (fun X=>?_) (fun X=>?_);·
  refine Zq<|Be<|Aw (n:=6) (0::0::3::0::15::31::[]) 52 AF AF V<|FF 0 V Wh (AB (cs:=#[_,_,_,_,_,_,_]) F1 CM Y B5 Ax)<|A3 1 V (AO Y)<|FF 3 V Wh (Pa #[_,_,_] CN B9 Y)<|Zz (l:=[2])<|B7 [true,false] [(3,(_,_))] V rfl (Zw [_,_] Y call113 Y V (Mr hv q G A0)) ?_ Bp Ah;rintro _ _ ⟨_,⟨sm,m,rfl⟩,rfl⟩;refine ⟨Zk (AY),?_⟩;obtain ⟨U,cm,rfl⟩:=m.form;have I:FP sm U ((D5 q rows).map ivQ):=LH m
  have O:=KN q rows;have K:=F5 m
  refine Yw 4 31 V (Zu [_,_,_] Y call112 Y V (qV I A0 A0 af))<|D0<|Yw 5 63 V (Xw B9 _)<|D0<|Ag<|Zn [6] ?_;refine Zx<|AJ<|Ac<|Zt<|D7 rfl da Y Wh (Au CN B9 Wn (rfl)) (by exact ⟨.slice none 0 0,[],by rw [r3 g X];rfl,by rw [r3 g X];exact Bi 5 _,rfl⟩)
 refine A1<|Zv (CO Y Y)<|AW Y<|Zn [1,2,3,6,7,13,26] ?_;refine Zx<|Av Y (fun Z=>?_) (fun Z=>?_);·
  refine Zq<|Be<|Aw (n:=7) (0::0::3::0::7::31::63::[]) 116 AF AF V<|FF 0 V Wh (AB (cs:=#[_,_,_,_,_,_,_]) F1 CM Y B5 Ax)<|A3 1 V (AO Y)<|FF 3 V Wh (Pa #[_,_,_] CN B9 Y)<|Zz (l:=[2])<|B7 [true,false] [(3,(_,_))] V rfl (Zw [_,_] Y call113 Y V (Mr hv q G A0)) ?_ Bp Ah;rintro _ _ ⟨_,⟨sm,m,rfl⟩,rfl⟩;refine ⟨Zk (AY),?_⟩;obtain ⟨U,cm,rfl⟩:=m.form;have I:FP sm U ((D5 q rows).map ivQ):=LH m
  have O:=KN q rows;have K:=F5 m
  refine Zz (l:=[4])<|B7 [true] [(3,(_,_))] V rfl (Zw [_] Y call115 Y V (NR (.func (.func 116) #[] #[]) V rfl)) ?_ Bp Ah;rintro _ _ ⟨_,⟨b9,rfl,rfl⟩,rfl⟩;refine Bk<|Yw 5 63 V (Zu [_,_,_] Y call112 Y V (ay I A0 A0 b9 116 _ call116 gu))<|D0<|Yw 6 127 V (Xw B9 _)<|D0<|Ag<|Zx<|AJ<|Ac<|Zt<|D7 V da Y Wh (Au CN B9 Wn (V)) (by
   have e8:=WM (fun a b=>decide (a<b)) (D5 q rows) C9.none;exact ⟨.slice none 0 0,[],by rw [qu g Z];rfl,by rw [qu g Z];rw [show(Ea (fun a b=>decide (a<b)) (D5 q rows)).rows=[] from e8];exact Bi 5 _,rfl⟩)
 refine A1<|Zv (CO Y Y)<|A5 Y<|Av Y (fun k6=>?_) (fun k6=>?_);·
  refine Zq<|Be<|Aw (n:=7) (0::0::3::0::7::31::63::[]) 116 AF AF V<|FF 0 V Wh (AB (cs:=#[_,_,_,_,_,_,_]) F1 CM Y B5 Ax)<|A3 1 V (AO Y)<|FF 3 V Wh (Pa #[_,_,_] CN B9 Y)<|Zz (l:=[2])<|B7 [true,false] [(3,(_,_))] V rfl (Zw [_,_] Y call113 Y V (Mr hv q G A0)) ?_ Bp Ah;rintro _ _ ⟨_,⟨sm,m,rfl⟩,rfl⟩;refine ⟨Zk (AY),?_⟩;obtain ⟨U,cm,rfl⟩:=m.form;have I:FP sm U ((D5 q rows).map ivQ):=LH m
  have O:=KN q rows;have K:=F5 m
  refine Zz (l:=[4])<|B7 [true] [(3,(_,_))] V rfl (Zw [_] Y call115 Y V (NR (.func (.func 117) #[] #[]) V rfl)) ?_ Bp Ah;rintro _ _ ⟨_,⟨b9,rfl,rfl⟩,rfl⟩;refine Bk<|Yw 5 63 V (Zu [_,_,_] Y call112 Y V (ay I A0 A0 b9 117 _ call117 gZ))<|D0<|Yw 6 127 V (Xw B9 _)<|D0<|Ag<|Zx<|AJ<|Ac<|Zt<|D7 V da Y Wh (Au CN B9 Wn (V)) (by
   have e8:=WM (fun a b=>decide (b<a)) (D5 q rows) C9.none;exact ⟨.slice none 0 0,[],by rw [qq g k6];rfl,by rw [qq g k6];rw [show(Ea (fun a b=>decide (b<a)) (D5 q rows)).rows=[] from e8];exact Bi 5 _,rfl⟩)
 refine A1<|Zv (CO Y Y)<|A5 Y<|Av Y (fun k7=>?_) (fun k7=>?_);·
  refine A1<|Zo Wh (AB (cs:=#[_,_,_,_,_,_,_]) F1 CM Y B5 Ax)<|Zm Y<|Zm Y<|Zc [_,_,_] Y call118 Y V (ZY hv ho q G A0) ?_;rintro _ _ ⟨_,⟨sj,J,rfl⟩,rfl⟩;obtain ⟨gj,cj,rfl⟩:=J.form;refine Zv (BM (vs:=[(0,_)]) (cs:=#[_,_,_]) Y (AZ (pl:=#[(0,1),(1,1),(2,1)]) GS DS (fun _=>by kernel_rfl) rfl))<|Xe (BL B9 Y Y (by(simp [Value.oneCell',Value.cells];done)) Wu Ax Fi B0 (by exact BC _))<|A6<|AJ<|Ac<|Zt<|D7 rfl da Y Wh (Au CN B9 Wn (rfl)) (by exact ⟨.slice gj _ cj,sj,by rw [qn g k7];rfl,by rw [qn g k7];exact J,rfl⟩)
 refine AC<|A8<|Zx<|A1<|Zm Y<|Zc [_] Y call76 Y V (Gm hv A0) ?_;rintro _ _ ⟨_,⟨sj,J,rfl⟩,rfl⟩;obtain ⟨gj,cj,rfl⟩:=J.form;refine Zv (BM (vs:=[(0,_)]) (cs:=#[_,_,_]) Y (AZ (pl:=#[(0,1),(1,1),(2,1)]) GS DS (fun _=>by kernel_rfl) rfl))<|Xe (BL B9 Y Y (by(simp [Value.oneCell',Value.cells];done)) Wu Ax Fi B0 (by exact BC _))<|A6<|AJ<|D7 rfl da Y Wh (Au CN B9 Wn (rfl)) (by exact ⟨.slice gj _ cj,sj,by rw [rB g W X Z k6 k7];rfl,by rw [rB g W X Z k6 k7];exact J,rfl⟩)
theorem RV(h:r.ok)(c:Int):-1000000000<=Bj r c/\Bj r c<=1000000000:=by
 obtain ⟨⟨g,h2,m⟩,G,I⟩:=h;unfold inV at g h2 m;unfold Bj;split;· omega
 · split
   · omega
   · split
     · omega
     · split<;>omega
variable{B:List A9}
theorem aW{A:List A9}(hv:Di A v rows)(I:Di B vo others)(q:QM)(m:rows.length<=1000000000)(G:BI q->∀r∈rows,-1000000000<=Bj r q.bq/\Bj r q.bq<=1000000000):BS prog 59 #[.agg q.A95,v,vo] [A,B] (fun w H'=>∃g s,w= .agg #[g,I0 (Hg q rows others).val,.bool (Hg q rows others).fnd]/\Bc 5 80 g (Hg q rows others).rows.length (Ae (Hg q rows others).rows) s/\H'=[s,A,B]):=by
 refine Ga (oG (hv.mono (fun c hc=>Ek B hc)) (I.mono (fun c hc=>GB A hc)) q m G) B4 ?_;rintro r H' ⟨g,s,rfl,h,rfl⟩;exact ⟨_,⟨g,s,V,h,V⟩,by simp⟩
theorem VL(v:A4)(p:Int)(rs:List AU)(s:List A9)(hv:PY v p rs s)(t c lo hi:Int)(hc:0<=c/\c<=3):BS prog 60 #[v,I0 t,I0 c,I0 lo,I0 hi] [s] (fun r H'=>∃g,Bc 5 80 r (Dm rs t c.toNat lo hi).length (Ae (Dm rs t c.toNat lo hi)) g/\H'=[g,s]):=by
 have h:=YO v p rs s hv t c.toNat lo hi A0;rwa [show((c.toNat:Nat):Int)=c by omega]at h
theorem Nf{rs:List AU}{t:Int}{c:Nat}{lo hi:Int}:(Dm rs t c lo hi).length<=rs.length/\∀r∈Dm rs t c lo hi,r∈rs:=by
 have h:=ES rs t c lo hi;exact ⟨by rw [h.length_eq];exact NO _ _,fun r g=>(FG.1 (h.mem_iff.1 g)).1⟩
theorem oZ{rs:List AU}(h:BI q):Hg q (Dm rs q.tb q.cl.toNat q.lo q.hi) (Fj rs q.ot)=CK rs q:=NP h
set_option maxHeartbeats 1000000 in
theorem xy(v:A4)(p:Int)(rs:List AU)(s:List A9)(hv:PY v p rs s)(O:∀r∈rs,r.ok)(q:QM)(U:BI q):BS prog 20 #[v,.agg q.A95] [s] (fun w H'=>∃X sr,w= .tuple #[.agg #[X,I0 (CK rs q).val,.bool (CK rs q).fnd],I0 0]/\Bc 5 80 X (CK rs q).rows.length (Ae (CK rs q).rows) sr/\H'=[sr,s]):=by
 have K:=U.2.1;obtain ⟨sp,mb,es,ck,lm,rfl,ax,af,d9,cu,dn⟩:=id hv;have W:=@Nf rs q.tb q.cl.toNat q.lo q.hi
 have cO:(Fj rs q.ot).length<=rs.length:=NO _ _;have bn:=mL
 refine Se func20 ntmps20 [0,1] ?_;intro u R;refine A1<|Ze (Bx #[_,_,_,_,_,_,_])<|AG fun bq=>Ze (Al GS #[_,_,_])<|AG fun br=>A5 Y<|Zq<|AR<|A1<|Zm Y<|Zv (Bg i6 Y Y)<|A5 Y<|AQ Y (fun g=>by cases g)<|fun g=>A1<|Zo Wh (Pa #[_,_,_,_,_,_,_] F1 CM Y)<|Xr [_] Y call29 Y V (Iy q)<|Zv (Cz Y)<|A5 Y<|AQ Y (fun m=>?_) (fun m=>?_);·
  exfalso;simp [U]at m
 refine AC<|A8<|Zx<|Zq<|Aw (n:=18) (0::0::0::4::0::16::0::64::0::256::1022::0::0::4096::16382::32767::65535::131071::[]) 115712 AF AF V<|FF 0 V Wh (Pa #[_,_,_,_,_,_,_] F1 CM Y)<|A3 1 V (AO Y)<|A3 2 V (AA (off:=1) CI V rfl AE Y)<|BE 3 V AH Y<|A3 4 V (AA (off:=2) CI V rfl AE Y)<|BE 5 V AH Y<|A3 6 V (AA (off:=3) CI V rfl AE Y)<|BE 7 V AH Y<|A3 8 V (AA (off:=4) CI V rfl AE Y)<|BE 9 V AH Y<|A3 11 V (AO Y)<|A3 12 V (AA (off:=6) CI V rfl AE Y)<|BE 13 V AH Y<|Zz (l:=[10])<|B7 [true,false,false,false,false,true] [(13,(_,_)),(0,(_,_))] V rfl (Zw [_,_,_,_,_] Y call60 Y V (VL _ p rs s hv q.tb q.cl q.lo q.hi K)) ?_ Bp Ah;rintro _ _ ⟨_,⟨s1,Z,rfl⟩,rfl⟩;refine ⟨Zk (Zk (AY)),?_⟩;obtain ⟨p1,c1,rfl⟩:=Z.form;have I:=Cy Z A0
 refine Zz (l:=[14])<|B7 [false,true] [(0,(_,_))] V rfl (Zw [_,_] Y call61 Y V (xP _ p rs s hv q.ot)) ?_ Bp Ah;rintro _ _ ⟨_,⟨s2,h2,rfl⟩,rfl⟩;refine ⟨Zk (AY),?_⟩;obtain ⟨p2,c2,rfl⟩:=h2.form;have J:=Cy h2 A0
 refine Zz (l:=[15])<|B7 [false] [] V rfl (Zw [_,_,_] Y call59 Y V (aW I J q A0 (fun _ r hr=>RV (O r (W.2 r hr)) q.bq))) ?_ Bp Ah;rintro _ _ ⟨_,⟨X,s3,rfl,G,rfl⟩,rfl⟩;refine ⟨AY,?_⟩;rw [oZ U]at G⊢;obtain ⟨p3,c3,rfl⟩:=G.form;refine Yw 16 131071 V (Xw B9 _)<|D0<|A3 17 V (Aq Y)<|Ag<|Zn [4,5] ?_;refine Zx<|AJ<|CP V results20 Y Wh (Au CN B9 Wn (V)) Y (by exact ⟨.slice p3 _ c3,s3,V,G,V⟩)
def Ju(c:Chg)(x:AU):Bool:=decide (x.t=c.t)&&decide (x.k=c.k)
def KV(q:QM)(y x:AU):Bool:=decide (Bj y q.cl<Bj x q.cl)||(decide (Bj x q.cl=Bj y q.cl)&&decide (y.k<x.k))
def RH(pd:AU->Bool)(rows:List AU)(y:AU):List AU:=rows.take ((rows.findIdx? pd).getD rows.length)++[y]++rows.drop ((rows.findIdx? pd).getD rows.length)
def EA(q:QM)(c:Chg)(rows:List AU):List AU:=match afQ q c with
 |some y=>RH (KV q y) (rows.filter fun x=>!Ju c x) y
 |none=>rows.filter fun x=>!Ju c x
def Jw(lt:Int->Int->Bool)(b a:Bool)(o n:Int)(r:C9):C9×Bool:=
 if b&&(!r.fnd||!lt r.val o)then(⟨r.rows,n,r.fnd⟩,(a&&r.fnd)&&!lt r.val n)
 else if a then(⟨r.rows,if !r.fnd||lt n r.val then n else r.val,true⟩,true)else(r,true)
theorem ui(g:AU->Bool)(rows:List AU)(y:AU):(RH g rows y).length=rows.length+1:=by
 unfold RH;simp only [BW,CD,CH,F2];omega
theorem Ue(q:QM)(c:Chg)(rows:List AU):(EA q c rows).length<=rows.length+1:=by
 have h:=NO (fun x=>!Ju c x) rows;unfold EA;split;· rw [ui];omega
 · omega
theorem Mw(lt:Int->Int->Bool)(b a:Bool)(o n:Int)(r:C9):(Jw lt b a o n r).1.rows=r.rows:=by
 unfold Jw;split;· rfl
 · split<;>rfl
theorem iL{P:Program}{f:FuncId}{args:AM}{H:Hp}{Q:A4->Hp->Prop}(h:BS P f args H Q)(F:Hp):BS P f args (H++F) (fun v H'=>∃H1,Q v H1/\H'=H1++F):=fun u R w G=>
 Calls.mono (h u (F++R) w (by rw [<-Cd];exact G)) fun e I m=>by
  rcases m with⟨v,H',rfl,g,h2⟩|⟨ch,H',rfl,g,h2⟩
  · exact .inl ⟨v,H'++F,rfl,⟨H',g,rfl⟩,by rw [Cd];exact h2⟩
  · exact g.elim
theorem yZ(g:AU->Bool)(rows:List AU):(RJ g rows<0/\(rows.findIdx? g).getD rows.length=rows.length)\/∃i:Nat,i<=rows.length/\RJ g rows=(i:Int)/\(rows.findIdx? g).getD rows.length=i:=by
 unfold RJ;cases h:rows.findIdx? g with
 |none=>exact .inl ⟨by simp,rfl⟩
 |some i=>
  obtain ⟨m,_,_⟩:=aq.1 h;exact .inr ⟨i,by omega,V,V⟩
theorem mH(q:QM)(c:Chg)(G I:B8)(o n:Int)(x:AU)(m:Nat):BJ prog 243 #[.agg x.A94,I1 m] [[(m,.cells (q.GW c G I o n) 265 (0,0))]] (.bool (Ju c x)):=by
 refine Se func243 ntmps243 [0,1] ?_;intro u R;refine A1<|Ze (Bx #[_,_,_,_,_])<|AG fun J=>A5 Y<|A1<|Zh 0 Fo V rfl AE Y<|Zl AH Y<|Zh 7 F0 V rfl CA Y<|Zv (Ap (off:=0) C3 V rfl AE Y)<|Zl AH Y<|Zv (CO Y Y)<|Zm Y<|Ao (t:=10) Y V (fun g=>?_) (fun g=>?_);·
  refine Yf 1 Fo V rfl AE Y<|Yl AH Y<|Yf 7 F0 V rfl CA Y<|Yg (Ap (off:=1) C3 V rfl AE Y)<|Yl AH Y<|Yg (CO Y Y)<|Zv (AX Y Y)<|AW Y<|Zn [3] ?_;refine Zx<|AJ<|AP V results243 Y (by exact ⟨by simp [Ju,g],V⟩)
 refine A7 Y V<|A7 Y V<|A7 Y V<|A7 Y V<|A7 Y V<|A7 Y V<|Zv (AL Y Y)<|AW Y<|Zn [3] ?_;refine Zx<|AJ<|AP V results243 Y (by exact ⟨by simp [Ju,g],V⟩)
theorem Wt{A:List A9}(hv:Di A v rows)(K:rows.length<=1000000000)(g:Nat)(us:List A4)(m:AU->Bool)(G:∀(args:AM) (w:AD),(callFunc g args).run prog w= .ok (.enter g args) w)(J:∀x:AU,BJ prog g (.agg x.A94::us).toArray [B] (.bool (m x))):BS prog 242 #[v,.func (.func g) #[] us.toArray] [A,B] (fun r H'=>∃s,Bc 5 80 r (rows.filter fun x=>!m x).length (Ae (rows.filter fun x=>!m x)) s/\H'=[s,A,B]):=by
 obtain ⟨p,cap,rfl,_⟩:=id hv;refine Se func242 ntmps242 [0,1] ?_;intro u R;refine A1<|A5 Y<|A1<|Zm Y<|Zc [_] Y call76 Y V (Gm hv A0) ?_;rintro _ _ ⟨_,⟨s1,I,rfl⟩,rfl⟩;obtain ⟨W,O,rfl⟩:=I.form;refine Zm Y<|Zc [_,_] Y call277 Y V (bJ I K g us m G J) ?_;rintro _ _ ⟨_,⟨s2,h2,rfl⟩,rfl⟩;obtain ⟨X,U,rfl⟩:=h2.form;refine A5 Y<|AJ<|AP V results242 Y (by exact ⟨_,h2,V⟩)
theorem Un(G:Bc 5 80 v rows.length (Ae rows) s)(hn:rows.length<=1000000000)(y:AU)(g:Nat)(us:List A4)(I:AU->Bool)(U:∀(args:AM) (w:AD),(callFunc g args).run prog w= .ok (.enter g args) w)(hf:∀x:AU,BJ prog g (.agg x.A94::us).toArray [B] (.bool (I x))):BS prog 244 #[v,.agg y.A94,.func (.func g) #[] us.toArray] [s,B] (fun r H'=>∃X s2,Bc 5 80 r (RH I rows y).length (Ae (RH I rows y)) X/\H'=[X,s2,B]):=by
 have af:=mL;obtain ⟨p,cap,rfl⟩:=G.form;have hU:=Cy G A0
 refine Se func244 ntmps244 [0,1,2] ?_;intro u R;refine A1<|Ze (Bx #[_,_,_,_,_])<|AG fun bx=>A5 Y<|A1<|Zm Y<|Zm Y<|Xr [_,_] Y call141 Y V (Tq hU g us I U hf) ?_;obtain ⟨z9,O⟩:∃z,z=RJ I rows:=⟨_,rfl⟩;rw [<-O];have m:=yZ I rows
 rw [<-O]at m;refine A5 Y<|Zb [7,0,4] ?_;refine Ch (e0:=[(7,_)]) (H0:=[]) (fun e H=>∃(i:Nat),(i<=rows.length/\(rows.findIdx? I).getD rows.length=i)/\e=[(7,I0 (i:Int))]/\H=[]) Wp ?hx_1 ?hy_1
 case hx_1=>
  refine A1<|Zm Y<|Zv (EI Y Y)<|A6<|Av Y (fun K=>?_) (fun K=>?_);·
   refine Zg<|Zm Y<|Zv (Ab C1 Y)<|AW Y<|Zn [7,0,4] ?_;refine BB (e':=[(7,_)]) (by exact ⟨rows.length,⟨CT _,by rcases m with⟨_,h⟩|⟨i,h1,h2,J⟩;exact h;omega⟩,rfl,rfl⟩)
  rcases m with⟨h9,_⟩|⟨i,h1,h2,J⟩
  · exact absurd h9 K
  subst h2;refine AC<|Zn [7,0,4] ?_;refine BB (e':=[(7,_)]) (by exact ⟨i,⟨h1,J⟩,V,V⟩)
 rintro _ _ ⟨i,⟨hi,W⟩,rfl,rfl⟩;refine A1<|Zm Y<|Zm Y<|Zo Wh (Pa #[_,_,_,_,_] Cp B3 Y)<|Ze (Ai (vs:=[_]) (cs:=[_,_,_,_,_]) C1 B3 EV Y V rfl V rfl V)<|AG fun Z=>Zc [_,_,_] Y call278 Y V (aK G hn i hi y Z) ?_;rintro _ _ ⟨_,⟨s3,s4,J,rfl⟩,rfl⟩;obtain ⟨g3,c3,rfl⟩:=J.form;refine A5 Y<|AJ<|AP rfl results244 Y (by exact ⟨_,s4,by unfold RH;rw [W];exact J,rfl⟩)
theorem Y0(q:QM)(I:0<=q.cl/\q.cl<=3)(c:Chg)(J:B8)(o n:Int)(y:AU)(g:Nat):BS prog 245 #[.agg #[I0 q.kd,I0 q.tb,I0 q.cl,I0 q.lo,I0 q.hi,I0 q.bq,I0 q.ot,I0 c.t,I0 c.k,.bool c.had,I0 c.o.a,I0 c.o.b,I0 c.o.c,.bool c.has,I0 c.n.a,I0 c.n.b,I0 c.n.c,.pointer J,I1 g,I0 o,I0 n]] [[(g,.cells y.A94 80 (0,0))]] (fun r H'=>∃G m,r= .func (.func 279) #[] #[I1 G,I1 m]/\H'=[[(G,.cells #[I0 q.kd,I0 q.tb,I0 q.cl,I0 q.lo,I0 q.hi,I0 q.bq,I0 q.ot,I0 c.t,I0 c.k,.bool c.had,I0 c.o.a,I0 c.o.b,I0 c.o.c,.bool c.has,I0 c.n.a,I0 c.n.b,I0 c.n.c,.pointer J,I1 g,I0 o,I0 n] 265 (0,0))],[(m,.cells #[I0 (Bj y q.cl)] 3 (0,0))],[(g,.cells y.A94 80 (0,0))]]):=by
 refine Se func245 ntmps245 [0] ?_;intro u R;refine A1<|Ze (F8 Y (cs:=#[I0 q.kd,I0 q.tb,I0 q.cl,I0 q.lo,I0 q.hi,I0 q.bq,I0 q.ot,I0 c.t,I0 c.k,.bool c.had,I0 c.o.a,I0 c.o.b,I0 c.o.c,.bool c.has,I0 c.n.a,I0 c.n.b,I0 c.n.c,.pointer J,I1 g,I0 o,I0 n]) (GK q c J (some ⟨g,0,none⟩) o n))<|AG fun G=>A5 Y<|Zq<|Aw (n:=10) (0::1::3::7::0::16::48::127::0::511::[]) 896 AF AF V<|A3 0 V (AA (off:=18) F0 V rfl LR Y)<|BE 1 V Of Y ?_;refine A3 2 V (Ak Y V)<|FF 3 V Wh (AB (cs:=#[_,_,_,_,_]) Cp B3 Y B5 Ax) ?_;refine A3 4 V (AA (off:=0) F0 V rfl CM Y)<|A3 5 V (Ap (off:=2) CI V rfl AE Y)<|BE 6 V AH Y ?_;refine Zz (l:=[7,8])<|B7 [false,false,false] [] V rfl (Zu [_,_] Y RM Y V (GD y q.cl I)) ?_ (fun _ _ h=>h.elim) ?_;·
  rintro _ _ ⟨rfl,rfl⟩;refine Bk<|Yw 8 511 V (Al HI #[_])<|AG fun m=>Yw 9 1023 V (Zs AE Y Y V (hi:=by decide))<|D0<|Ag<|Zx<|A1<|Zv (Bf (vs:=[]) (us:=[_,_]) Y Y)<|AW Y<|Zn [2] ?_;refine Zx<|AJ<|AP V results245 Y (by exact ⟨G,m,V,V⟩)
 refine B7 [true,true,true] [(6,(_,_)),(3,(_,_)),(1,(_,_))] V rfl (Al HI #[_]) ?_ (fun _ _ h=>h.elim) Ah;rintro _ _ ⟨m,rfl,rfl⟩;refine Bk<|Yw 7 511 V (Zu [_,_] Y RM Y V (GD y q.cl I))<|D0<|Yw 9 1023 V (Zs AE Y Y V (hi:=by decide))<|D0<|Ag<|Zx<|A1<|Zv (Bf (vs:=[]) (us:=[_,_]) Y Y)<|AW Y<|Zn [2] ?_;refine Zx<|AJ<|AP V results245 Y (by exact ⟨G,m,V,V⟩)
theorem pU(q:QM)(m:0<=q.cl/\q.cl<=3)(c:Chg)(K:B8)(o n:Int)(y:AU)(G I J:Nat)(x:AU):BJ prog 279 #[.agg x.A94,I1 I,I1 J] [[(I,.cells #[I0 q.kd,I0 q.tb,I0 q.cl,I0 q.lo,I0 q.hi,I0 q.bq,I0 q.ot,I0 c.t,I0 c.k,.bool c.had,I0 c.o.a,I0 c.o.b,I0 c.o.c,.bool c.has,I0 c.n.a,I0 c.n.b,I0 c.n.c,.pointer K,I1 G,I0 o,I0 n] 265 (0,0))],[(J,.cells #[I0 (Bj y q.cl)] 3 (0,0))],[(G,.cells y.A94 80 (0,0))]] (.bool (KV q y x)):=by
 refine Se func279 ntmps279 [0,1,2] ?_;intro u R;refine A1<|Ze (Bx #[_,_,_,_,_])<|AG fun O=>A5 Y<|A1<|Zo Wh (AB (cs:=#[_,_,_,_,_]) Cp B3 Y B5 Ax)<|Zh 0 F0 V rfl CM Y<|Zv (Ap (off:=2) CI V rfl AE Y)<|Zl AH Y<|Xr [_,_] Y RM Y V (GD x q.cl m)<|A5 Y<|Zq<|Aw (n:=19) (0::0::3::7::15::15::63::127::255::511::255::1279::3327::7423::15615::32767::65535::131071::262143::[]) 0 AF AF V<|A3 0 V (AO Y)<|BE 1 V AH Y<|A3 2 V (Ef Y Y)<|A3 3 V (AO Y)<|DD (t:=14) Y (fun g=>?_) (fun g=>?_);·
  rw [D2 g];refine AN 4 V<|AN 5 V<|AN 6 V<|AN 7 V<|AN 8 V<|AN 9 V<|AN 10 V<|AN 11 V<|AN 12 V<|AN 13 V<|AN 14 V<|AN 15 V<|AN 16 V<|A3 17 V (AX Y Y)<|A3 18 V (Aq Y)<|Ag<|Zn [4] ?_;refine Zx<|AJ<|AP V results279 Y (by exact ⟨by simp [KV, *],V⟩)
 rw [Cl g];refine B1 4 V (AO Y)<|DP 5 V Wh (BD AH Y Ax)<|B1 6 V (CO Y Y)<|B1 7 V (AO Y)<|DD (t:=18) Y (fun h2=>?_) (fun h2=>?_);·
  rw [D2 h2];refine B1 8 V (AA (off:=1) Fo V rfl AE Y)<|DP 9 V Wh (BD AH Y Ax)<|B1 10 V (AA (off:=18) F0 V rfl LR Y)<|DP 11 V Wh (BD Of Y Ax)<|B1 12 V (Ak Y V)<|B1 13 V (AA (off:=1) Fo V rfl AE Y)<|DP 14 V Wh (BD AH Y Ax)<|B1 15 V (Ef Y Y)<|B1 16 V (AX Y Y)<|A3 17 V (AL Y Y)<|A3 18 V (Aq Y)<|Ag<|Zn [4] ?_;refine Zx<|AJ<|AP V results279 Y (by exact ⟨by simp [KV, *],V⟩)
 rw [Cl h2];refine AN 8 V<|AN 9 V<|AN 10 V<|AN 11 V<|AN 12 V<|AN 13 V<|AN 14 V<|AN 15 V<|B1 16 V (AL Y Y)<|A3 17 V (AL Y Y)<|A3 18 V (Aq Y)<|Ag<|Zn [4] ?_;refine Zx<|AJ<|AP V results279 Y (by exact ⟨by simp [KV, *],V⟩)
theorem R7(q:QM)(I:0<=q.cl/\q.cl<=3)(c:Chg)(J:B8)(o n:Int)(y:AU)(g:Nat):BS prog 245 #[.agg #[I0 q.kd,I0 q.tb,I0 q.cl,I0 q.lo,I0 q.hi,I0 q.bq,I0 q.ot,I0 c.t,I0 c.k,.bool c.had,I0 c.o.a,I0 c.o.b,I0 c.o.c,.bool c.has,I0 c.n.a,I0 c.n.b,I0 c.n.c,.pointer J,I1 g,I0 o,I0 n]] [[(g,.cells y.A94 80 (0,0))]] (fun r H'=>∃m G,r= .func (.func 279) #[] ([I1 m,I1 G]:List A4).toArray/\H'=[[(m,.cells #[I0 q.kd,I0 q.tb,I0 q.cl,I0 q.lo,I0 q.hi,I0 q.bq,I0 q.ot,I0 c.t,I0 c.k,.bool c.had,I0 c.o.a,I0 c.o.b,I0 c.o.c,.bool c.has,I0 c.n.a,I0 c.n.b,I0 c.n.c,.pointer J,I1 g,I0 o,I0 n] 265 (0,0))]++[(G,.cells #[I0 (Bj y q.cl)] 3 (0,0))]++[(g,.cells y.A94 80 (0,0))]]):=by
 refine Ga (Y0 q I c J o n y g) V ?_;rintro r H' ⟨m,G,rfl,rfl⟩;exact ⟨_,⟨m,G,V,V⟩,by simp⟩
theorem bT(q:QM)(I:0<=q.cl/\q.cl<=3)(c:Chg)(J:B8)(o n:Int)(y:AU)(g m G:Nat)(x:AU):BJ prog 279 (.agg x.A94::([I1 m,I1 G]:List A4)).toArray [[(m,.cells #[I0 q.kd,I0 q.tb,I0 q.cl,I0 q.lo,I0 q.hi,I0 q.bq,I0 q.ot,I0 c.t,I0 c.k,.bool c.had,I0 c.o.a,I0 c.o.b,I0 c.o.c,.bool c.has,I0 c.n.a,I0 c.n.b,I0 c.n.c,.pointer J,I1 g,I0 o,I0 n] 265 (0,0))]++[(G,.cells #[I0 (Bj y q.cl)] 3 (0,0))]++[(g,.cells y.A94 80 (0,0))]] (.bool (KV q y x)):=by
 refine Ga (pU q I c J o n y g m G x) V ?_;rintro r H' ⟨rfl,rfl⟩;exact ⟨_,⟨V,V⟩,by simp⟩
set_option maxHeartbeats 1000000 in
theorem eQ(q:QM)(c:Chg)(g m:B8)(o n:Int)(G:0<=q.cl/\q.cl<=3){r:C9}{rv:A4}{sr:List A9}(hr:Bc 5 80 rv r.rows.length (Ae r.rows) sr)(hn:r.rows.length<=100000000){s2:List A9}(h2:Il m (afQ q c) s2):BS prog 197 #[.agg (q.GW c g m o n),.agg #[rv,I0 r.val,.bool r.fnd]] [sr,s2] (fun w H'=>∃I s',w= .tuple #[.agg #[I,I0 r.val,.bool r.fnd],.bool true]/\Bc 5 80 I (EA q c r.rows).length (Ae (EA q c r.rows)) s'/\H'=[s']):=by
 have ax:=mL;obtain ⟨pv,cv,rfl⟩:=hr.form;have hU:=Cy hr A0
 have af:(r.rows.filter fun x=>!Ju c x).length<=r.rows.length:=NO _ _;refine Se func197 ntmps197 [0,1] ?_;intro u R;refine A1<|Ze (F8 Y (cs:=(q.GW c g m o n)) (GK q c g m o n))<|AG fun U=>Ze (Bx #[.slice pv r.rows.length cv,I0 r.val,.bool r.fnd])<|AG fun br=>Ze (Al GS #[_,_,_])<|AG fun b3=>A5 Y<|A1<|Zh 0 DS V rfl D3 Y<|Zl GF Y ?_;refine Zv (Bf (vs:=[]) (us:=[_]) Y Y)<|Zc [_,_] Y call242 Y V (Wt (B:=[(U,.cells (q.GW c g m o n) 265 (0,0))]) hU A0 243 [I1 U] (Ju c) call243 (fun x=>mH q c g m o n x U)) ?_;rintro _ _ ⟨_,⟨s3,W,rfl⟩,rfl⟩;obtain ⟨g3,c3,rfl⟩:=W.form;refine Zh 0 DS V rfl D3 Y<|Xe (Zs D3 Y Y V (hi:=by(simp;done))) ?_;refine A6<|Zb [2,3,4] ?_;refine Ch (e0:=[(2,_)]) (H0:=[[(br,.cells #[.slice g3 (r.rows.filter fun x=>!Ju c x).length c3,I0 r.val,.bool r.fnd] 61 (0,0))],s3,s2]) (fun e H=>∃(w:A4) (K:List A9),(Bc 5 80 w (EA q c r.rows).length (Ae (EA q c r.rows)) K)/\e=[]/\H=[[(br,.cells #[w,I0 r.val,.bool r.fnd] 61 (0,0))],K]) Wp ?hx_1 ?hy_1
 case hx_1=>
  refine A1<|Zh 18 F0 V rfl LR Y<|Zl Of Y ?_;refine Zv (Fv W1 Y Y)<|A6<|AQ Y (fun X=>?_) (fun X=>?_);·
   obtain ⟨y,J⟩:∃y,afQ q c=some y:=jj.1 (by rw [<-h2.some_];exact X);rw [J]at h2;obtain ⟨O,rfl,rfl⟩:=h2;refine Aw (n:=11) (0::1::0::4::12::28::0::64::255::511::1023::[]) 1408 AF AF V<|A3 0 V (AA (off:=0) DS V rfl D3 Y)<|BE 1 V GF Y ?_;refine A3 2 V (AA (off:=18) F0 V rfl LR Y)<|BE 3 V Of Y ?_;refine A3 4 V (Ak Y V)<|CV (b:=O) (x:= .cells y.A94 80 (0,0)) (D':=63) 5 V rfl V B4 (Pa y.A94 Cp B3 Y) ?_;refine FF 6 V Wh (AB cN aE Y B5 (by exact BO V)) ?_;refine Zz (l:=[7])<|B7 [false,true,true,true] [(5,(_,_)),(3,(_,_)),(1,(_,_))] V rfl (Zw [_] Y call245 Y V (R7 q G c g o n y O)) ?_ Bp Ah;rintro _ _ ⟨_,⟨Z,b9,rfl,rfl⟩,rfl⟩;refine ⟨Ey (by simp [*]) (Zk (Zk (AY))),?_⟩;refine Zz (l:=[8])<|B7 [false,false,false] [] V rfl (Zw [_,_,_] Y call244 Y V (Un W A0 y 279 [I1 Z,I1 b9] (KV q y) call279 (fun x=>bT q G c g o n y O Z b9 x))) ?_ Bp Ah;rintro _ _ ⟨_,⟨s5,s6,h5,rfl⟩,rfl⟩;refine ⟨AY,?_⟩;obtain ⟨g5,c5,rfl⟩:=h5.form;refine A3 9 V (AA (off:=0) DS V rfl D3 Y)<|Zz (l:=[10])<|B7 [] [] V rfl (Zs D3 Y Y V (hi:=by(simp;done))) ?_ (fun _ _ h=>h.elim) Ah;rintro _ _ ⟨rfl,rfl⟩;refine Bk<|Ag<|Zn [3,4] ?_;refine BB (e':=[]) (by exact ⟨_,s5,by unfold EA;rw [J];exact h5,rfl,rfl⟩)
  have J:afQ q c=none:=by have h9:=h2.some_;rw [X]at h9;exact ri.1 (by rw [<-h9];decide)
  refine AC<|Zn [3,4] ?_;refine BB (e':=[]) (by exact ⟨_,s3,by unfold EA;rw [J];exact W,rfl,rfl⟩)
 rintro _ _ ⟨w,K,h4,rfl,rfl⟩;obtain ⟨p4,c4,rfl⟩:=h4.form;refine A1<|Zo Wh (AB (cs:=#[_,_,_]) CN B9 Y B5 (by exact BO V)) ?_;refine Xe (BL B9 Y Y Hi Wu (by exact EN rfl) Fi B0 (by exact BC _)) ?_;refine A5 Y<|AJ<|CP V results197 Y Wh (Au CN B9 Wn (V)) Y (by exact ⟨_,K,V,h4,V⟩)
theorem Z5(q:QM)(c:Chg)(J g:B8)(o n:Int){r:C9}(K:B8)(I m:Nat)(hv:-4000000000000000000<=r.val/\r.val<=4000000000000000000):BJ prog 199 #[.agg (q.GW c J g o n),.agg #[.slice K I m,I0 r.val,.bool r.fnd]] [] (.tuple #[.agg #[.slice K I m,I0 (if g.isSome then r.val+1 else r.val -1),.bool r.fnd],.bool true]):=by
 refine Se func199 ntmps199 [0,1] ?_;intro u R;refine A1<|Ze (F8 Y (cs:=(q.GW c J g o n)) (GK q c J g o n))<|AG fun U=>Ze (Bx #[.slice K I m,I0 r.val,.bool r.fnd])<|AG fun W=>Ze (Al GS #[_,_,_])<|AG fun O=>A5 Y<|Zq<|A1<|Zh 18 F0 V rfl LR Y<|Zl Of Y ?_;refine Zv (Fv W1 Y Y)<|A6<|AQ Y (fun G=>?_) (fun G=>?_);·
  refine Zg<|Zh 1 DS V rfl AE Y<|Zl AH Y ?_;refine Yi Y Y<|Zh 1 DS V rfl AE Y<|Xe (Zs AE Y Y V (hi:=by(simp;done))) ?_;refine A6<|A1<|Zo Wh (AB (cs:=#[_,_,_]) CN B9 Y B5 Ax) ?_;refine Xe (Xw B9 _) ?_;refine AW Y<|Zn [4,5] ?_;refine Zx<|AJ<|CP rfl results199 Y Wh (Au CN B9 Wn (rfl)) Y (by exact ⟨by rw [G];rfl,rfl⟩)
 refine Zg<|Zh 1 DS V rfl AE Y<|Zl AH Y ?_
 (refine BZ (FU Y Y (IntWalk.i64_in _ ?_)) ?_;(focus (omega)))
 refine Zh 1 DS V rfl AE Y<|Xe (Zs AE Y Y V (hi:=by(simp;done))) ?_;refine A6<|A1<|Zo Wh (AB (cs:=#[_,_,_]) CN B9 Y B5 Ax) ?_;refine Xe (Xw B9 _) ?_;refine AW Y<|Zn [4,5] ?_;refine Zx<|AJ<|CP rfl results199 Y Wh (Au CN B9 Wn (rfl)) Y (by exact ⟨by rw [G];rfl,rfl⟩)
theorem lw(q:QM)(c:Chg)(G I:B8)(o n:Int){r:C9}(J:B8)(m g:Nat)(hv:-4000000000000000000<=r.val/\r.val<=4000000000000000000)(W:(-1000000000<=o/\o<=1000000000)/\-1000000000<=n/\n<=1000000000):BJ prog 201 #[.agg (q.GW c G I o n),.agg #[.slice J m g,I0 r.val,.bool r.fnd]] [] (.tuple #[.agg #[.slice J m g,I0 (r.val+(n -o)),.bool r.fnd],.bool true]):=by
 refine Se func201 ntmps201 [0,1] ?_;intro u R;refine A1<|Ze (F8 Y (cs:=(q.GW c G I o n)) (GK q c G I o n))<|AG fun O=>Ze (Bx #[.slice J m g,I0 r.val,.bool r.fnd])<|AG fun U=>Ze (Al GS #[_,_,_])<|AG fun K=>A5 Y<|A1<|Zh 1 DS V rfl AE Y<|Zl AH Y ?_;refine Zh 20 F0 V rfl AE Y<|Zl AH Y ?_;refine Zh 19 F0 V rfl AE Y<|Zl AH Y ?_
 (refine BZ (FU Y Y (IntWalk.i64_in _ ?_)) ?_;(focus (omega)))
 refine Yi Y Y<|Zh 1 DS V rfl AE Y<|Xe (Zs AE Y Y V (hi:=by(simp;done))) ?_;refine Z0<|Zn [3,4] ?_;refine Zx<|A1<|Zo Wh (AB (cs:=#[_,_,_]) CN B9 Y B5 Ax) ?_;refine Xe (Xw B9 _) ?_;refine A5 Y<|AJ<|CP V results201 Y Wh (Au CN B9 Wn (V)) Y (by exact ⟨V,V⟩)
end Go.Proofs.YthhakdmlpngcmaaGreatDoor
