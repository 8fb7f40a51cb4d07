/- predicate.kinds, Touches. -/
import Derived.Test.YtfhjaegddfehhabGreatDoorQe3
set_option linter.unusedVariables false
set_option linter.unusedSimpArgs false
namespace Go.Proofs.YtfhjaegddfehhabGreatDoor
open Go.Proofs.Tryz
open Go Go.RowKit Gw
set_option maxRecDepth 100000
attribute [local irreducible] Gw.At Gw.Nx Gw.Ops
def MU(b5 b6:Nat):List (Int×A3):=[(1,.agg #[.func (.func 208) #[] #[],.func (.func 209) #[] #[]]),(2,.agg #[.func (.func 208) #[] #[],.func (.func 209) #[] #[]]),(3,.agg #[.func (.func 210) #[] #[],.func (.func 211) #[] #[]]),(4,.agg #[.func (.func 212) #[] #[],.func (.func 213) #[] #[]]),(5,.agg #[.func (.func 214) #[] #[],.func (.func 259) #[] #[I5 b5]]),(6,.agg #[.func (.func 217) #[] #[],.func (.func 259) #[] #[I5 b6]]),(7,.agg #[.func (.func 219) #[] #[],.func (.func 220) #[] #[]])]
variable{lm:List (Int×A3)}{k:Int}{v:A3}
theorem aF{g m:Nat}(h:∀p,p∈lm↔p∈MU g m)(hn:(lm.map (·.1)).Nodup)(G:(k,v)∈MU g m):EK k lm=some v:=Cy hn ((h _).2 G)
def Hl(k:Int):Nat:=if k=1 then 208 else if k=2 then 208 else if k=3 then 210 else if k=4 then 212 else if k=5 then 214 else if k=6 then 217 else 219
theorem uH{g m:Nat}(h:∀p,p∈lm↔p∈MU g m)(hn:(lm.map (·.1)).Nodup)(G:1<=k/\k<=7):∃pf,EK k lm=some (.agg #[.func (.func (Hl k)) #[] #[],pf]):=by
 obtain h9|h9|h9|h9|h9|h9|h9:k=1\/k=2\/k=3\/k=4\/k=5\/k=6\/k=7:=by omega
 all_goals subst h9
 all_goals exact ⟨_,aF h hn (by simp [MU,Hl];rfl)⟩
theorem Pb(v:A3)(g:v.oneCell'=true)(hc:v.cells=#[v]):BZ prog 215 #[v] [] (fun r H'=>∃b,r= .func (.func 259) #[] #[I5 b]/\H'=[[(b,.cells #[v] 224 (0,0))]]):=by
 refine Se func215 ntmps215 [0] ?_;intro u R;refine A0<|Ze (Es Y (cs:=#[v]) hc)<|AG fun b=>A4 Y<|A0<|Zv (Bh (vs:=[]) (us:=[_]) Y Y)<|A4 Y<|AJ<|AO V results215 Y (by exact ⟨b,V,V⟩)
theorem O3:BZ prog 155 #[] [] (fun v H'=>∃b es ck lm g m,v= .map (some b)/\Cm (fun k:Int=>I4 k) es ck lm/\(∀p,p∈lm↔p∈MU g m)/\H'=[[(b,.map es ck)],[(g,.cells #[.func (.func 216) #[] #[]] 224 (0,0))],[(m,.cells #[.func (.func 218) #[] #[]] 224 (0,0))]]):=by
 refine Se func155 ntmps155 [] ?_;intro u R;refine A0<|A4 Y<|A0<|Ze (DX)<|AG fun mb=>Zv (BL (vs:=[(0,.func (.func 208) #[] #[]),(1,.func (.func 209) #[] #[])]) (cs:=#[.func (.func 208) #[] #[],.func (.func 209) #[] #[]]) Y (AZ (pl:=#[(0,1),(1,1)]) Ys X1 (fun _=>by kernel_rfl) AE))<|Ze (EI I9 X2 (EW _) (fun _ _=>trivial) (trivial) Y Y Y Wo) ?_;rintro _ _ ⟨rfl,l8,gy,pg,J,ax,rfl⟩;refine Zv (BL (vs:=[(0,.func (.func 208) #[] #[]),(1,.func (.func 209) #[] #[])]) (cs:=#[.func (.func 208) #[] #[],.func (.func 209) #[] #[]]) Y (AZ (pl:=#[(0,1),(1,1)]) Ys X1 (fun _=>by kernel_rfl) AE))<|Ze (EI I9 X2 J (fun _ _=>trivial) (trivial) Y Y Y Wo) ?_;rintro _ _ ⟨rfl,l9,ic,pq,O,bn,rfl⟩;refine Zv (BL (vs:=[(0,.func (.func 210) #[] #[]),(1,.func (.func 211) #[] #[])]) (cs:=#[.func (.func 210) #[] #[],.func (.func 211) #[] #[]]) Y (AZ (pl:=#[(0,1),(1,1)]) Ys X1 (fun _=>by kernel_rfl) AE))<|Ze (EI I9 X2 O (fun _ _=>trivial) (trivial) Y Y Y Wo) ?_;rintro _ _ ⟨rfl,o8,j3,pz,U,cu,rfl⟩;refine Zv (BL (vs:=[(0,.func (.func 212) #[] #[]),(1,.func (.func 213) #[] #[])]) (cs:=#[.func (.func 212) #[] #[],.func (.func 213) #[] #[]]) Y (AZ (pl:=#[(0,1),(1,1)]) Ys X1 (fun _=>by kernel_rfl) AE))<|Ze (EI I9 X2 U (fun _ _=>trivial) (trivial) Y Y Y Wo) ?_;rintro _ _ ⟨rfl,o9,j5,q9,W,cO,rfl⟩;refine Zc [_] Y call215 Y V (Pb (.func (.func 216) #[] #[]) V rfl) ?_;rintro _ _ ⟨_,⟨g,rfl,rfl⟩,rfl⟩;refine Zv (BL (vs:=[(0,.func (.func 214) #[] #[]),(1,.func (.func 259) #[] #[I5 g])]) (cs:=#[.func (.func 214) #[] #[],.func (.func 259) #[] #[I5 g]]) Y (AZ (pl:=#[(0,1),(1,1)]) Ys X1 (fun _=>by kernel_rfl) AE))<|Ze (EI I9 X2 W (fun _ _=>trivial) (trivial) Y Y Y Wo) ?_;rintro _ _ ⟨rfl,p8,kv,qa,X,d9,rfl⟩;refine Zc [_] Y call215 Y V (Pb (.func (.func 218) #[] #[]) V rfl) ?_;rintro _ _ ⟨_,⟨m,rfl,rfl⟩,rfl⟩
 refine Zv (BL (vs:=[(0,.func (.func 217) #[] #[]),(1,.func (.func 259) #[] #[I5 m])]) (cs:=#[.func (.func 217) #[] #[],.func (.func 259) #[] #[I5 m]]) Y (AZ (pl:=#[(0,1),(1,1)]) Ys X1 (fun _=>by kernel_rfl) AE))<|Ze (EI I9 X2 X (fun _ _=>trivial) (trivial) Y Y Y Wo) ?_;rintro _ _ ⟨rfl,p9,l5,qb,Z,ek,rfl⟩;refine Zv (BL (vs:=[(0,.func (.func 219) #[] #[]),(1,.func (.func 220) #[] #[])]) (cs:=#[.func (.func 219) #[] #[],.func (.func 220) #[] #[]]) Y (AZ (pl:=#[(0,1),(1,1)]) Ys X1 (fun _=>by kernel_rfl) AE))<|Ze (EI I9 X2 Z (fun _ _=>trivial) (trivial) Y Y Y Wo) ?_;rintro _ _ ⟨rfl,I,G,gq,af,gm,rfl⟩;refine Zm Y<|AN Y<|Zn [0] ?_;refine Zx<|AJ<|AO V results155 Y (by
  refine ⟨mb,I,G,gq,g,m,V,af,fun p=>?_,V⟩;rw [gm,ek,d9,cO,cu,bn,ax];simp only [MU,DB,RR,PF,ij];constructor;· rintro (rfl|⟨rfl|⟨rfl|⟨rfl|⟨rfl|⟨rfl|⟨rfl,-⟩,-⟩,-⟩,-⟩,-⟩,-⟩)<;>simp
  · rintro (h|h|h|h|h|h|h)<;>subst h<;>simp)
theorem gU(q:QM)(c:Chg)(hq:BF q){g m:B6}{s1 s2:List A9}(W:Iq g (bfQ q c) s1)(h2:Iq m (afQ q c) s2):BB prog (Hl q.kd) #[.agg (q.GW c g m (mQ q (bfQ q c)) (mQ q (afQ q c)))] [] (.bool (Cq q c)):=by
 have e1:=W.some_;have e2:=h2.some_
 have Z:q.kd=1\/q.kd=2\/q.kd=3\/q.kd=4\/q.kd=5\/q.kd=6\/q.kd=7:=by have:=hq.2.2.2;omega
 have G:=dC q c g m (mQ q (bfQ q c)) (mQ q (afQ q c));have U:=Td q c g m (mQ q (bfQ q c)) (mQ q (afQ q c))
 have X:=yL q c g m (mQ q (bfQ q c)) (mQ q (afQ q c));have I:=yK q c g m (mQ q (bfQ q c)) (mQ q (afQ q c))
 have J:=yJ q c g m (mQ q (bfQ q c)) (mQ q (afQ q c));have O:=yI q c g m (mQ q (bfQ q c)) (mQ q (afQ q c))
 rw [e1,e2]at G U I J O;rcases Z with h|h|h|h|h|h|h
 · rw [show Hl q.kd=208 by rw [h];rfl,show Cq q c=OJ q c by unfold Cq;rw [Ax A1]];exact G
 · rw [show Hl q.kd=208 by rw [h];rfl,show Cq q c=OJ q c by unfold Cq;rw [Ax A1]];exact G
 · rw [show Hl q.kd=210 by rw [h];rfl,show Cq q c=Ut q c by unfold Cq;rw [An A1,Ax A1]];exact U
 · rw [show Hl q.kd=212 by rw [h];rfl,show Cq q c=decide (mQ q (bfQ q c)≠mQ q (afQ q c)) by unfold Cq;rw [An A1,An A1,Ax A1]];exact X
 · rw [show Hl q.kd=214 by rw [h];rfl,show Cq q c=(Ut q c||decide (mQ q (bfQ q c)≠mQ q (afQ q c))) by unfold Cq;rw [An A1,An A1,An A1,Ax A1]];exact I
 · rw [show Hl q.kd=217 by rw [h];rfl,show Cq q c=(Ut q c||decide (mQ q (bfQ q c)≠mQ q (afQ q c))) by unfold Cq;rw [An A1,An A1,An A1,Ax A1]];exact J
 · rw [show Hl q.kd=219 by rw [h];rfl,show Cq q c=(OJ q c||decide (c.t=q.ot)) by unfold Cq;rw [An A1,An A1,An A1,An A1]];exact O
theorem nP(g:1<=k/\k<=7):∀(args:AH) (w:AD),(callFunc (Hl k) args).run prog w= .ok (.enter (Hl k) args) w:=by
 obtain h|h|h|h|h|h|h:k=1\/k=2\/k=3\/k=4\/k=5\/k=6\/k=7:=by omega
 all_goals (subst h;simp only [Hl];first|exact call208|exact call210|exact call212|exact call214|exact call217|exact call219)
variable{q:QM}
theorem BF.kind(h:BF q):1<=q.kd/\q.kd<=7:=by have:=h.2.2.2;omega
theorem Km(q:QM)(c:Chg):BB prog 100 #[.agg q.A98,.agg c.A96] [] (.bool (decide (BF q)&&(decide c.ok&&Cq q c))):=by
 refine Se func100 ntmps100 [0,1] ?_;intro u R;refine A0<|Ze (Bx #[_,_,_,_,_,_,_])<|AG fun pq=>Ze (Bx #[_,_,_,_,_,_,_,_,_,_])<|AG fun pc=>A4 Y<|Zq<|Az (n:=18) (0::1::3::7::15::31::63::127::127::383::1023::2047::127::127::12543::32767::65535::131071::[]) 49298 AE AE V<|Fk 0 V Wh (AA (cs:=#[_,_,_,_,_,_,_]) F2 CN Y B1 As)<|Yw 1 3 V (Zu [_] Y call35 Y V (Jg q))<|D4<|A2 2 V (AP Y)<|Ch (t:=7) Y (fun g=>?_) (fun g=>?_);·
  rw [g];refine DQ 3 V Wh (AA (cs:=#[_,_,_,_,_,_,_,_,_,_]) G2 C7 Y B1 As)<|Yw 4 31 V (Zu [_] Y call97 Y V (VR c))<|D4<|A2 5 V (AV Y Y)<|A2 6 V (AP Y)<|Ch (t:=11) Y (fun h2=>?_) (fun h2=>?_);·
   rw [h2];refine B3 8 V (AB (off:=0) CT V rfl A6 Y)<|DQ 9 V Wh (BO AF Y As)<|DQ 12 V Wh (AA (cs:=#[_,_,_,_,_,_,_]) F2 CN Y B1 As)<|DQ 13 V Wh (AA (cs:=#[_,_,_,_,_,_,_,_,_,_]) G2 C7 Y B1 As)<|Zz (l:=[7])<|B5 [true,true,true] [(13,(_,_)),(12,(_,_)),(9,(_,_))] V rfl (Zw [] Y call155 Y V (O3)) ?_ Bw Ah;rintro _ _ ⟨_,⟨mb,es,ck,lm,W,X,rfl,O,U,rfl⟩,rfl⟩;refine ⟨Zk (Zk (Zk (Aa))),?_⟩;have G:BF q:=I0 g
   obtain ⟨pf,m⟩:=uH U O.keys G.kind;refine DQ 10 rfl Wh (Df I9 X2 Ys O (fun _ _=>trivial) (trivial) ((by rw [m];exact rfl:_=Value.agg #[.func (.func (Hl q.kd)) #[] #[],pf])) Y Y)<|B3 11 rfl (XW X1 rfl isAgg254 Y rfl)<|Zz (l:=[14])<|B5 [true,false,false,true] [(10,(_,_)),(9,(_,_))] rfl rfl (Zw [_,_] Y call156 Y rfl (Jo q G.2.1 (by have:=G.2.2.2;omega) c)) ?_ Bw Ah;rintro _ _ ⟨_,⟨Z,p2,s1,s2,rfl,I,J,rfl⟩,rfl⟩;refine BT<|Yw 15 65535 V (Zu [_] Y (nP G.kind) Y V (gU q c G I J))<|D4<|A2 16 V (AV Y Y)<|A2 17 V (Aw Y)<|Ag<|Zn [4] ?_;refine Zx<|AJ<|AO V results100 Y (by exact ⟨by simp [g,h2],V⟩)
  rw [h2];refine AM 7 V<|AM 8 V<|AM 9 V<|AM 10 V<|AM 11 V<|AM 12 V<|AM 13 V<|AM 14 V<|AM 15 V<|A2 16 V (AL Y Y)<|A2 17 V (Aw Y)<|Ag<|Zn [4] ?_;refine Zx<|AJ<|AO V results100 Y (by exact ⟨by simp [g,h2],V⟩)
 rw [g];refine AM 3 V<|AM 4 V<|A2 5 V (AL Y Y)<|A2 6 V (AP Y)<|AM 7 V<|AM 8 V<|AM 9 V<|AM 10 V<|AM 11 V<|AM 12 V<|AM 13 V<|AM 14 V<|AM 15 V<|A2 16 V (AL Y Y)<|A2 17 V (Aw Y)<|Ag<|Zn [4] ?_;refine Zx<|AJ<|AO V results100 Y (by exact ⟨by simp [g],V⟩)
def ivQ(n:Int):A3:=I4 n
theorem lN(e:AK)(g c:Nat)(z:A3)(h:c<=maxLen):Bd 1 e (I6 g 0 c) 0 [] [(g,.cells (List.replicate c z).toArray e (0,0))]:=⟨rfl,.inr ⟨g,c,_,(0,0),rfl,rfl,C5 _,h,by simp,by simp,BC _⟩⟩
variable{rows:List AX}{i:Nat}{r:AX}
theorem nD(h:rows[i]?=some r):Cu q (rows.take (i+1))=Cu q (rows.take i)++[Bl r q.bq]:=by
 unfold Cu;rw [Bn h,C2];rfl
theorem KT(q:QM)(rows:List AX):(Cu q rows).length=rows.length:=by unfold Cu;rw [B8]
theorem y7(h:rows[i]?=some r):(Cu q rows)[i]?=some (Bl r q.bq):=by unfold Cu;rw [E0,h];rfl
variable{M:List A9}
theorem iI(hv:DW M v rows){v0:Int}{W:Bool}(st:Nat->Int×Bool)(h0:st 0=(v0,W))(G:Nat)(us:List A3)(O:∀(args:AH) (w:AD),(callFunc G args).run prog w= .ok (.enter G args) w)(hf:∀(i:Nat) (r:AX),rows[i]?=some r->BB prog G (.agg #[.slice none 0 0,I4 (st i).1,.bool (st i).2]:: .agg r.A97::us).toArray [M] (.agg #[.slice none 0 0,I4 (st (i+1)).1,.bool (st (i+1)).2])):BB prog 181 #[v,.agg #[.slice none 0 0,I4 v0,.bool W],.func (.func G) #[] us.toArray] [M] (.agg #[.slice none 0 0,I4 (st rows.length).1,.bool (st rows.length).2]):=by
 have ax:=mL;obtain ⟨p,cap,rfl,⟨hl,af⟩,hg⟩:=id hv;refine Se func181 ntmps181 [0,1,2] ?_;intro u R;refine A0<|Ze (Bx #[_,_,_])<|AG fun bo=>Ze (Al Gk #[_,_,_])<|AG fun re=>A5<|Zq<|A0<|Zm Y<|Zv (AY BE Y)<|Zm Y<|A5<|AQ<|Zb [11,2,4,6,9,10] ?_;refine BA (e0:=[(11,_)]) (fun m e H=>∃(i:Nat),m=rows.length -i/\(i<=rows.length)/\e=[(11,I4 (i:Int))]/\H=[[(bo,.cells #[.slice none 0 0,I4 (st i).1,.bool (st i).2] 54 (0,0))]]) (by exact ⟨0,rfl,C5 _,rfl,by rw [h0]⟩) Wp ?_;rintro _ _ _ ⟨i,rfl,hi,rfl,rfl⟩;refine A0<|Zv (Au Y Y)<|A5<|Zq<|Aq Y (fun J=>?_) (fun J=>?_);·
  obtain ⟨r,X⟩:∃r,rows[i]?=some r:=⟨_,B7 J⟩;obtain ⟨g,off,cur,T,zz,rfl,U,Z,I⟩:=hg i r X;refine AC<|Zx<|Zq<|AQ<|A0<|BV (Ad BE B0 Y Y A1)<|CG (cs:=[(g,.cells cur T zz)]) (by simp [U]) (AA (cs:=r.A97) D0 B0 Y A1 I) V rfl<|Ze (Al F0 #[_,_,_,_,_])<|AG fun rb=>Xe (Xw B0 r.A97)<|A5<|Zg<|Zm Y<|Zo Wh (AA (cs:=#[_,_,_]) C6 B2 Y B1 As)<|Zo Wh (AA (cs:=#[_,_,_,_,_]) D0 B0 Y B1 As)<|Xr [_,_] Y (O) Y rfl (hf i r X)<|Xe (BM B2 Y Y HT Wu (by exact (rfl:_=(#[.slice none 0 0,I4 (st (i+1)).1,.bool (st (i+1)).2]:AH))) Fc B1 (by exact BC _))<|Z0<|A8<|Zx<|Zg<|Ya (n:=1) Y Y<|Zm Y<|Z0<|Zn [11,2,4,6,9,10] ?_;refine Ab (e':=[(11,_)]) (by exact ⟨i+1,V,by omega,V,V⟩)
 have ei:i=rows.length:=by omega
 subst ei;refine Ay<|Zt<|Zt<|AR<|Zx<|A0<|Zo Wh (AA (cs:=#[_,_,_]) C6 B2 Y B1 As)<|Xe (Xw B2 _)<|A5<|AJ<|Cs V results181 Y Wh (Am C6 B2 Wn (V)) (by exact ⟨V,V⟩)
variable{p:B6}{cap:Nat}{ms:List Int}
theorem U8(hc:FP M p (ms.map ivQ))(hl:ms.length<=maxLen)(af:ms.length<=cap){v0:Int}{X:Bool}(st:Nat->Int×Bool)(h0:st 0=(v0,X))(G:Nat)(us:List A3)(U:∀(args:AH) (w:AD),(callFunc G args).run prog w= .ok (.enter G args) w)(hf:∀(i:Nat) (x:Int),ms[i]?=some x->BB prog G (.agg #[.slice none 0 0,I4 (st i).1,.bool (st i).2]::I4 x::us).toArray [M] (.agg #[.slice none 0 0,I4 (st (i+1)).1,.bool (st (i+1)).2])):BB prog 183 #[.slice p ms.length cap,.agg #[.slice none 0 0,I4 v0,.bool X],.func (.func G) #[] us.toArray] [M] (.agg #[.slice none 0 0,I4 (st ms.length).1,.bool (st ms.length).2]):=by
 have ax:=mL;refine Se func183 ntmps183 [0,1,2] ?_;intro u R;refine A0<|Ze (Bx #[_,_,_])<|AG fun Z=>Ze (Al Gk #[_,_,_])<|AG fun re=>A5<|Zq<|A0<|Zm Y<|Zv (AY DH Y)<|Zm Y<|A5<|AQ<|Zb [11,2,4,6,9,10] ?_;refine BA (e0:=[(11,_)]) (fun m e H=>∃(i:Nat),m=ms.length -i/\(i<=ms.length)/\e=[(11,I4 (i:Int))]/\H=[[(Z,.cells #[.slice none 0 0,I4 (st i).1,.bool (st i).2] 54 (0,0))]]) (by exact ⟨0,rfl,C5 _,rfl,by rw [h0]⟩) Wp ?_;rintro _ _ _ ⟨i,rfl,hi,rfl,rfl⟩;refine A0<|Zv (Au Y Y)<|A5<|Zq<|Aq Y (fun O=>?_) (fun O=>?_);·
  obtain ⟨x,hx⟩:∃x,ms[i]?=some x:=⟨_,B7 O⟩;obtain ⟨g,off,cur,T,zz,rfl,W,J⟩:=hc i (ivQ x) (by rw [E0,hx];rfl);have I:cur[off+i]?=some (I4 x):=J
  refine AC<|Zx<|Zq<|AQ<|A0<|BV (CF DH A6 Y Y e5)<|CG (cs:=[(g,.cells cur T zz)]) (by simp [W]) (BO AF Y I) rfl rfl<|A4 Y<|Zg<|Zm Y<|Zo Wh (AA (cs:=#[_,_,_]) C6 B2 Y B1 As)<|Zm Y<|Xr [_,_] Y (U) Y rfl (hf i x hx)<|Xe (BM B2 Y Y HT Wu (by exact (rfl:_=(#[.slice none 0 0,I4 (st (i+1)).1,.bool (st (i+1)).2]:AH))) Fc B1 (by exact BC _))<|Z0<|A8<|Zx<|Zg<|Ya (n:=1) Y Y<|Zm Y<|Z0<|Zn [11,2,4,6,9,10] ?_;refine Ab (e':=[(11,_)]) (by exact ⟨i+1,V,by omega,V,V⟩)
 have ei:i=ms.length:=by omega
 subst ei;refine Ay<|Zt<|Zt<|AR<|Zx<|A0<|Zo Wh (AA (cs:=#[_,_,_]) C6 B2 Y B1 As)<|Xe (Xw B2 _)<|A5<|AJ<|Cs V results183 Y Wh (Am C6 B2 Wn (V)) (by exact ⟨V,V⟩)
theorem N8(hv:DW M v rows)(q:QM)(W:0<=q.bq/\q.bq<=3)(hb:rows.length<=1000000000000):BZ prog 184 #[.agg q.A98,v] [M] (fun r H'=>∃s,Bd 1 3 r (Cu q rows).length ((Cu q rows).map ivQ) s/\H'=[s,M]):=by
 have cO:=mL;obtain ⟨p,cap,rfl,⟨hl,cu⟩,hg⟩:=id hv;refine Se func184 ntmps184 [0,1] ?_;intro u R;refine A0<|Ze (Bx #[_,_,_,_,_,_,_])<|AG fun bq=>A4 Y<|A0<|Zm Y<|Zv (AY BE Y)<|Ze (Gi (by_:=8) (l:=0) DH (V:Tryz.prog.info? 3=some Tryz.t3) V rfl V rfl Y Y ?_ ?_ ?_) ?_
 (focus (omega))
 (focus (omega))
 (focus (omega))
 rintro _ _ ⟨mk,rfl,rfl⟩;refine A4 Y<|Zq<|A0<|Zm Y<|Zv (AY BE Y)<|Zm Y<|A5<|AQ<|Zb [5,13,2,11,12] ?_;refine BA (e0:=[(5,_),(13,_)]) (fun m e H=>∃(i:Nat) (vo:A3) (U:List A9),m=rows.length -i/\(i<=rows.length/\Bd 1 3 vo i ((Cu q (rows.take i)).map ivQ) U)/\e=[(5,vo),(13,I4 (i:Int))]/\H=[U]) (by exact ⟨0,_,_,rfl,⟨C5 _,by rw [Kd];exact lN _ _ _ (I4 0) A1⟩,rfl,rfl⟩) Wp ?_;rintro _ _ _ ⟨i,vo,U,rfl,⟨hi,I⟩,rfl,rfl⟩;obtain ⟨qo,co,rfl⟩:=I.form;refine A0<|Zv (Au Y Y)<|A5<|Zq<|Aq Y (fun O=>?_) (fun O=>?_);·
  obtain ⟨r,Z⟩:∃r,rows[i]?=some r:=⟨_,B7 O⟩;obtain ⟨g,off,cur,T,zz,rfl,X,af,J⟩:=hg i r Z;refine AC<|Zx<|Zq<|AQ<|A0<|BV (Ad BE B0 Y Y A1)<|CG (cs:=[(g,.cells cur T zz)]) (by simp [X]) (AA (cs:=r.A97) D0 B0 Y A1 J) V rfl<|Ze (Al F0 #[_,_,_,_,_])<|AG fun rb=>Xe (Xw B0 r.A97)<|A5<|Zg<|Zm Y<|Zo Wh (AA (cs:=#[_,_,_,_,_]) D0 B0 Y B1 As)<|Zh 5 CT V rfl A6 Y<|Zl AF Y<|Xr [_,_] Y Sx Y V (Fy r q.bq W)<|Ze (Ai (vs:=[_]) (cs:=[_]) DH A6 HG Y V rfl V rfl V)<|AG fun gb=>Ze (BR (by_:=8) (sz:=1) DH (V:Tryz.prog.info? 3=some Tryz.t3) V rfl V rfl Y (I) Y (DN 1 gb 1 1 3 (0,0) [I4 (Bl r q.bq)] V) Wo Wo GP A1 A1) ?_;rintro _ _ ⟨d9,G,rfl⟩;obtain ⟨bn,ax,rfl⟩:=G.form;refine AN Y<|Zn [2,5,11,12,13] ?_;refine A8<|Zx<|Zg<|Ya (n:=1) Y Y<|Zm Y<|Z0<|Zn [5,13,2,11,12] ?_;refine Ab (e':=[(5,_),(13,_)]) (by exact ⟨i+1,_,_,rfl,⟨by omega,BS G rfl (by rw [nD Z,C2];rfl)⟩,rfl,rfl⟩)
 have ei:i=rows.length:=by omega
 subst ei;refine Ay<|Zt<|Zt<|AR<|Zx<|A0<|Zm Y<|A4 Y<|AJ<|AO rfl results184 Y (by exact ⟨U,BS I (KT q rows).symm (by rw [GS]),rfl⟩)
theorem Ng(v:A3)(g:v.oneCell'=true)(hc:v.cells=#[v]):BZ prog 186 #[v] [] (fun r H'=>∃b,r= .func (.func 241) #[] #[I5 b]/\H'=[[(b,.cells #[v] 224 (0,0))]]):=by
 refine Se func186 ntmps186 [0] ?_;intro u R;refine A0<|Ze (Es Y (cs:=#[v]) hc)<|AG fun b=>A4 Y<|A0<|Zv (Bh (vs:=[]) (us:=[_]) Y Y)<|A4 Y<|AJ<|AO V results186 Y (by exact ⟨b,V,V⟩)
theorem oM(v n:Int)(f:Bool)(b g:Nat)(lt:Int->Int->Bool)(m:∀(args:AH) (w:AD),(callFunc g args).run prog w= .ok (.enter g args) w)(G:∀x y:Int,BB prog g #[I4 x,I4 y] [] (.bool (lt x y))):BB prog 241 #[.agg #[.slice none 0 0,I4 v,.bool f],I4 n,I5 b] [[(b,.cells #[.func (.func g) #[] #[]] 224 (0,0))]] (.agg #[.slice none 0 0,I4 (if !f||lt n v then n else v),.bool true]):=by
 refine Se func241 ntmps241 [0,1,2] ?_;intro u R;refine A0<|Ze (Bx #[_,_,_])<|AG fun J=>Ze (Al Gk #[_,_,_])<|AG fun bs=>A5<|Zq<|A0<|Zh 2 CH V rfl Cp Y<|Zl E6 Y ?_;refine Zv (Br Y)<|Zm Y<|Ae (t:=9) Y V (fun I=>?_) (fun I=>?_);·
  refine A7 Y V<|A7 Y V<|A7 Y V<|A7 Y V<|A7 Y V<|Zv (AV Y Y)<|A5<|Co Y<|Zg<|Zm Y<|Zh 1 CH V rfl A6 Y<|Xe (Zs A6 Y Y V (hi:=by(simp;done))) ?_;refine Z0<|Zn [3,5] ?_;refine Zx<|A0<|Zh 2 CH V rfl Cp Y<|Xe (Zs Cp Y Y V (hi:=by(simp;done))) ?_;refine A5<|A0<|Zo Wh (AA (cs:=#[_,_,_]) C6 B2 Y B1 As) ?_;refine Xe (Xw B2 _) ?_;refine A5<|AJ<|Cs V results241 Y Wh (Am C6 B2 Wn (V)) (by exact ⟨by simp_all;rfl,V⟩)
 refine Yl isAgg224 Y ?_;refine Zf Y Y<|Yf 1 CH V rfl A6 Y<|Yl AF Y ?_;refine Xr [_,_] Y (m) Y V (G n v) ?_;refine Zv (AL Y Y)<|A5<|AU Y (fun h2=>?_) (fun h2=>?_);·
  refine Zg<|Zm Y<|Zh 1 CH V rfl A6 Y<|Xe (Zs A6 Y Y V (hi:=by(simp;done))) ?_;refine Z0<|Zn [3,5] ?_;refine Zx<|A0<|Zh 2 CH V rfl Cp Y<|Xe (Zs Cp Y Y V (hi:=by(simp;done))) ?_;refine A5<|A0<|Zo Wh (AA (cs:=#[_,_,_]) C6 B2 Y B1 As) ?_;refine Xe (Xw B2 _) ?_;refine A5<|AJ<|Cs V results241 Y Wh (Am C6 B2 Wn (V)) (by exact ⟨by simp_all;rfl,V⟩)
 refine AC<|Zx<|A0<|Zh 2 CH V rfl Cp Y<|Xe (Zs Cp Y Y V (hi:=by(simp;done))) ?_;refine Z0<|Zn [3,5] ?_;refine Zx<|A0<|Zo Wh (AA (cs:=#[_,_,_]) C6 B2 Y B1 As) ?_;refine Xe (Xw B2 _) ?_;refine A5<|AJ<|Cs V results241 Y Wh (Am C6 B2 Wn (V)) (by exact ⟨by simp_all;rfl,V⟩)
theorem iE(x y:Int):BB prog 187 #[I4 x,I4 y] [] (.bool (decide (x<y))):=by
 refine Se func187 ntmps187 [0,1] ?_;intro u R;refine A0<|A4 Y<|A0<|Zm Y<|Zm Y<|Zv (Dw Y Y)<|A4 Y<|AJ<|AO V results187 Y (by exact ⟨by rfl,V⟩)
theorem iD(x y:Int):BB prog 188 #[I4 x,I4 y] [] (.bool (decide (y<x))):=by
 refine Se func188 ntmps188 [0,1] ?_;intro u R;refine A0<|A4 Y<|A0<|Zm Y<|Zm Y<|Zv (Et Y Y)<|A4 Y<|AJ<|AO V results188 Y (by exact ⟨by rfl,V⟩)
theorem iG(v:Int)(f:Bool)(r:AX)(h:-9223372036854775807<=v/\v<=9223372036854775806):BB prog 182 #[.agg #[.slice none 0 0,I4 v,.bool f],.agg r.A97] [] (.agg #[.slice none 0 0,I4 (v+1),.bool f]):=by
 refine Se func182 ntmps182 [0,1] ?_;intro u R;refine A0<|Ze (Bx #[_,_,_])<|AG fun m=>Ze (Bx #[_,_,_,_,_])<|AG fun G=>Ze (Al Gk #[_,_,_])<|AG fun g=>A5<|A0<|Zh 1 CH V rfl A6 Y<|Zl AF Y<|Yi Y Y<|Zh 1 CH V rfl A6 Y<|Xe (Zs A6 Y Y V (hi:=by(simp;done)))<|A5<|A0<|Zo Wh (AA (cs:=#[_,_,_]) C6 B2 Y B1 As)<|Xe (Xw B2 _)<|A5<|AJ<|Cs V results182 Y Wh (Am C6 B2 Wn (V)) (by exact ⟨V,V⟩)
theorem iF(v n:Int)(f:Bool)(h:-9223372036854775807<=v+n/\v+n<=9223372036854775806):BB prog 185 #[.agg #[.slice none 0 0,I4 v,.bool f],I4 n] [] (.agg #[.slice none 0 0,I4 (v+n),.bool f]):=by
 refine Se func185 ntmps185 [0,1] ?_;intro u R;refine A0<|Ze (Bx #[_,_,_])<|AG fun m=>Ze (Al Gk #[_,_,_])<|AG fun g=>A5<|A0<|Zh 1 CH V rfl A6 Y<|Zl AF Y<|Zm Y<|Yi Y Y<|Zh 1 CH V rfl A6 Y<|Xe (Zs A6 Y Y V (hi:=by(simp;done)))<|A5<|A0<|Zo Wh (AA (cs:=#[_,_,_]) C6 B2 Y B1 As)<|Xe (Xw B2 _)<|A5<|AJ<|Cs V results185 Y Wh (Am C6 B2 Wn (V)) (by exact ⟨V,V⟩)
def zS(r:AX):A3:= .agg r.A97
theorem tX{g:List (Int×A3)}{I:Int}(hn:(lm.map (·.1)).Nodup)(m:(g.map (·.1)).Nodup)(G:∀p,p∈g↔p=(I,v)\/(p∈lm/\p.1≠I))(k:Int):EK k g=if k=I then some v else EK k lm:=by
 split
 · rename_i h
   rw [h];exact Cy m ((G _).2 (.inl V))
 · rename_i h
   cases hg:EK k lm with
   |some x=>exact Cy m ((G _).2 (.inr ⟨Vz hg,h⟩))
   |none=>
    cases hg2:EK k g with
    |none=>rfl
    |some x=>
     rcases (G _).1 (Vz hg2)with e|⟨e,_⟩
     · injection e with e1 e2;exact absurd e1 h
     · rw [Cy hn e]at hg;cases hg
variable{others:List AX}{x:AX}
theorem Vp(h:others[i]?=some x)(k:Int):De q (others.take (i+1)) k=(De q (others.take i) k).or (if x.t=q.ot/\x.k=k then some x else none):=by
 unfold De;rw [Bn h,List.find?_append];congr 1;simp only [List.find?_cons,List.find?_nil];split<;>simp_all
def Ua(q:QM)(others:List AX)(lm:List (Int×A3)):Prop:=∀k,EK k lm=(De q others k).map zS
theorem TM(h:others[i]?=some x)(m:Ua q (others.take i) lm)(hx:¬x.t=q.ot\/(De q (others.take i) x.k).isSome=true):Ua q (others.take (i+1)) lm:=by
 intro k;rw [m k,Vp h k];cases hg:De q (others.take i) k with
 |some y=>rfl
 |none=>
  rw [An];· rfl
  · rintro ⟨g,rfl⟩
    rcases hx with hx|hx
    · exact hx g
    · rw [hg]at hx;cases hx
theorem mG{g:List (Int×A3)}(h:others[i]?=some x)(J:Ua q (others.take i) lm)(hx:x.t=q.ot)(G:(De q (others.take i) x.k).isSome=false)(hn:(lm.map (·.1)).Nodup)(m:(g.map (·.1)).Nodup)(O:∀p,p∈g↔p=(x.k,zS x)\/(p∈lm/\p.1≠x.k)):Ua q (others.take (i+1)) g:=by
 intro k;rw [tX hn m O k,Vp h k];split
 · rename_i hk
   have:De q (others.take i) k=none:=by
    rw [hk];cases hg:De q (others.take i) x.k with
    |none=>rfl
    |some y=>rw [hg]at G;cases G
   rw [this,Ax ⟨hx,hk.symm⟩];rfl
 · rename_i hk
   rw [J k,An (fun I=>hk I.2.symm)];cases De q (others.take i) k<;>rfl
variable{y:AX}
theorem Vq(g:Ua q others lm)(k:Int)(hy:y=(De q others k).getD ⟨0,0,⟨0,0,0⟩⟩):(EK k lm).getD (.agg #[I4 (⟨0,0,⟨0,0,0⟩⟩:AX).t,I4 (⟨0,0,⟨0,0,0⟩⟩:AX).k,I4 (⟨0,0,⟨0,0,0⟩⟩:AX).v.a,I4 (⟨0,0,⟨0,0,0⟩⟩:AX).v.b,I4 (⟨0,0,⟨0,0,0⟩⟩:AX).v.c])= .agg y.A97/\(EK k lm).isSome=(De q others k).isSome:=by
 rw [g k,hy];cases De q others k<;>exact ⟨rfl,rfl⟩
theorem Vo(hy:y=(De q others k).getD ⟨0,0,⟨0,0,0⟩⟩)(h:(De q others k).isSome=true):De q others k=some y:=by
 rw [hy];cases hp:De q others k with
 |none=>rw [hp]at h;cases h
 |some x=>rfl
variable{s:List A9}
theorem LQ{sz:Nat}{e:AK}{n c k:Nat}{xs:List A3}(h:Bd sz e (.slice p n c) k xs s):FP s p xs:=by
 intro j u G;obtain ⟨J,⟨_,rfl,_⟩|⟨g,cap,cur,z,hv,rfl,_,_,_,m,_⟩⟩:=h
 · have:xs=[]:=MT A1
   subst this;cases G
 · injection hv with h1 h2 h3
   subst h1;refine ⟨g,0,cur,e,z,V,by simp,?_⟩;have I:=(C4.1 G).1
   rw [<-m,HJ,Ax A1,HR]at G;rwa [DM]
theorem QZ(h:rows[i]?=some r):Iy q (rows.take (i+1)) others=Iy q (rows.take i) others++Iw q others r:=by
 unfold Iy;rw [Bn h,Pu,oe]
theorem Vr(h:De q others (Bl r q.bq)=some y):Iw q others r=[r,y]:=by unfold Iw;rw [h]
theorem mH(h:De q others (Bl r q.bq)=none):Iw q others r=[]:=by unfold Iw;rw [h]
theorem rz(q:QM)(others:List AX)(r:AX):(Iw q others r).length<=2:=by unfold Iw;split<;>simp
theorem Tt(q:QM)(rows others:List AX):(Iy q rows others).length<=2*rows.length:=by
 induction rows with
 |nil=>simp [Iy]
 |cons r rows ih=>
  have:=rz q others r;unfold Iy at*;rw [HW,BW,Dd];omega
variable{vo:A3}
set_option maxHeartbeats 1000000 in
theorem aK(hv:DW M v rows)(ho:DW M vo others)(q:QM)(j3:0<=q.bq/\q.bq<=3)(hb:rows.length<=100000000000):BZ prog 189 #[.agg q.A98,v,vo] [M] (fun r H'=>∃s,Bd 5 72 r (Iy q rows others).length (Af (Iy q rows others)) s/\H'=[s,M]):=by
 have sM:=mL;obtain ⟨p,cap,rfl,⟨hl,sw⟩,hg⟩:=id hv;obtain ⟨po,pg,rfl,⟨sJ,pq⟩,kv⟩:=id ho;refine Se func189 ntmps189 [0,1,2] ?_;intro u R;refine A0<|Ze (Bx #[_,_,_,_,_,_,_])<|AG fun bq=>A4 Y<|A0<|Ze (DX)<|AG fun mb=>A4 Y<|Zq<|A0<|Zm Y<|Zv (AY BE Y)<|Zm Y<|A5<|AQ<|Zb [19,1,3,6,7,17,18] ?_;refine BA (e0:=[(19,_)]) (fun m e H=>∃(i:Nat) (es:Array MapEntry) (ck:Nat) (lm:List (Int×A3)),m=others.length -i/\(i<=others.length/\Cm (fun k:Int=>I4 k) es ck lm/\Ua q (others.take i) lm)/\e=[(19,I4 (i:Int))]/\H=[[(mb,.map es ck)]]) (by exact ⟨0,#[],0,[],V,⟨C5 _,EW _,fun k=>rfl⟩,V,V⟩) Wp ?_;rintro _ _ _ ⟨i,es,ck,lm,rfl,⟨hi,X,W⟩,rfl,rfl⟩;refine A0<|Zv (Au Y Y)<|A5<|Zq<|Aq Y (fun G=>?_) (fun G=>?_);·
  obtain ⟨x,hx⟩:∃x,others[i]?=some x:=⟨_,B7 G⟩;obtain ⟨g1,qb,af,T1,o9,rfl,l5,q9,bn⟩:=kv i x hx;refine AC<|Zx<|Zq<|AQ<|A0<|BV (Ad BE B0 Y Y A1)<|CG (cs:=[(g1,.cells af T1 o9)]) (by simp [l5]) (AA (cs:=x.A97) D0 B0 Y A1 bn) V rfl<|Ze (Al F0 #[_,_,_,_,_])<|AG fun bx=>Xe (Xw B0 x.A97)<|A5<|Zq ?_;obtain ⟨y0,gq⟩:∃y,y=(De q (others.take i) x.k).getD ⟨0,0,⟨0,0,0⟩⟩:=⟨_,rfl⟩;refine Zg<|Zm Y<|Zh 1 G0 V rfl A6 Y<|Zl AF Y<|Zo Wh (EC I9 underlying344 F0 X (fun _ _=>trivial) (trivial) (Vq W x.k gq) Y Y)<|Zm Y<|Zd Y V<|Zd Y V<|Ze (Al F0 #[_,_,_,_,_])<|AG fun bt=>Xe (Xw B0 y0.A97)<|AN Y<|Zn [1,3,6,7,9,11,17,18,19] ?_;refine Zx<|Zq ?_;obtain ⟨y0,gq⟩:∃y,y=(De q (others.take i) x.k).getD ⟨0,0,⟨0,0,0⟩⟩:=⟨_,rfl⟩;refine Zg<|Zh 0 G0 V rfl A6 Y<|Zl AF Y<|Zh 6 CT V rfl A6 Y<|Zl AF Y<|Zv (CK Y Y)<|Zm Y<|Aj (t:=35) Y V (fun h1=>?_) (fun h1=>?_);·
   refine Zf Y Y<|Yg (Br Y)<|Zv (AV Y Y)<|A5<|AU Y (fun h2=>?_) (fun h2=>?_);·
    refine Zg<|Zm Y<|Zh 1 G0 V rfl A6 Y<|Zl AF Y<|Zo Wh (AA (cs:=#[_,_,_,_,_]) D0 B0 Y B1 As)<|Ze (FH I9 underlying344 X (fun _ _=>trivial) (trivial) Y Y Y Wo) ?_;rintro _ _ ⟨rfl,qz,qx,o8,I,l9,rfl⟩;have ic:Ua q (others.take (i+1)) o8:=mG hx W h1 (by simpa using h2) X.keys I.keys l9
    refine Z0<|Zn [1,3,6,7,17,18,19] ?_;refine A8<|Zx<|Zg<|Ya (n:=1) Y Y<|Zm Y<|Z0<|Zn [19,1,3,6,7,17,18] ?_;refine Ab (e':=[(19,_)]) (by exact ⟨i+1,_,_,_,V,⟨by omega,I,ic⟩,V,V⟩)
   refine AC<|A8<|Zx<|Zg<|Ya (n:=1) Y Y<|Zm Y<|Z0<|Zn [19,1,3,6,7,17,18] ?_;refine Ab (e':=[(19,_)]) (by exact ⟨i+1,es,ck,lm,rfl,⟨by omega,X,TM hx W (by first|exact .inl A1|exact .inr (by simpa using h2))⟩,rfl,rfl⟩)
  refine A7 Y V<|A7 Y V<|Zv (AL Y Y)<|A5<|D9 Y<|AC<|A8<|Zx<|Zg<|Ya (n:=1) Y Y<|Zm Y<|Z0<|Zn [19,1,3,6,7,17,18] ?_;refine Ab (e':=[(19,_)]) (by exact ⟨i+1,es,ck,lm,rfl,⟨by omega,X,TM hx W (by first|exact .inl A1|exact .inr (by simpa using h2))⟩,rfl,rfl⟩)
 have ei:i=others.length:=by omega
 subst ei;rw [GS]at W;refine Ay<|Zt<|Zt<|AR<|Zx<|Zq<|A0<|Zo Wh (AA (cs:=#[_,_,_,_,_,_,_]) F2 CN Y B1 As)<|Zm Y<|Zc [_,_] Y call184 Y V (N8 hv q j3 A1) ?_;rintro _ _ ⟨_,⟨sm,ek,rfl⟩,rfl⟩;obtain ⟨gm,cm,rfl⟩:=ek.form;refine Zv (AY DH Y)<|Zm Y<|A5<|AQ<|BX ?_;have j5:FP sm gm ((Cu q rows).map ivQ):=LQ ek
 have pz:=KT q rows;refine Zb [6,48,1,7,46,47] ?_;refine BA (e0:=[(6,_),(48,_)]) (fun m e H=>∃(i:Nat) (w:A3) (so:List A9),m=rows.length -i/\(i<=rows.length/\Bd 5 72 w (Iy q (rows.take i) others).length (Af (Iy q (rows.take i) others)) so)/\e=[(6,w),(48,I4 (i:Int))]/\H=[so]) (by exact ⟨0,.slice none 0 0,[],rfl,⟨C5 _,by rw [Kd];exact Bf 5 _⟩,rfl,rfl⟩) Wp ?_;rintro _ _ _ ⟨i,w,so,rfl,⟨hi,g⟩,rfl,rfl⟩;obtain ⟨qo,co,rfl⟩:=g.form;have sj:(Iy q (rows.take i) others).length<=2*i:=My (Tt _ _ _) (by rw [CC];omega)
 refine A0<|Zv (Au Y Y)<|A5<|Zq<|Aq Y (fun G=>?_) (fun G=>?_);·
  obtain ⟨r,hr⟩:∃r,rows[i]?=some r:=⟨_,B7 A1⟩;obtain ⟨g2,gy,J,T2,p8,rfl,I,cu⟩:=j5 i (ivQ (Bl r q.bq)) (by rw [E0,y7 hr];rfl);have d9:J[gy+i]?=some (I4 (Bl r q.bq)):=cu
  obtain ⟨Z,U⟩:∃y,y=(De q others (Bl r q.bq)).getD ⟨0,0,⟨0,0,0⟩⟩:=⟨_,rfl⟩;refine AC<|Zx<|Zq<|AQ<|A0<|Zm Y<|BV (CF DH A6 Y Y e5)<|CG (cs:=[(g2,.cells J T2 p8)]) (by simp [I]) (BO AF Y d9) rfl rfl<|Za Y<|A4 Y<|A0<|Zm Y<|Zm Y<|Zo Wh (EC I9 underlying344 F0 X (fun _ _=>trivial) (trivial) (Vq W (Bl r q.bq) U) Y Y)<|Zm Y<|Zd Y rfl<|Zd Y rfl<|Ze (Al F0 #[_,_,_,_,_])<|AG fun ql=>Xe (Xw B0 Z.A97)<|AN Y<|Zn [1,6,7,12,14,15,46,47,48] ?_;refine Zx<|A0<|Zm Y<|A5<|AU Y (fun h5=>?_) (fun h5=>?_);·
   obtain ⟨g3,qj,ax,T3,p9,rfl,l8,qa,cO⟩:=hg i r hr;refine Az (n:=9) (0::0::0::6::14::0::62::127::255::[]) 192 AE AE V<|A2 0 V (AP Y)<|A2 1 V (AP Y)<|A2 2 V (AP Y)<|A2 3 V (Ad BE B0 Y Y A1)<|Ce (b:=g3) (x:= .cells ax T3 p9) (D':=31) 4 V rfl V (by simp [l8]) (AA (cs:=r.A97) D0 B0 Y A1 cO) ?_;refine Fk 5 V Wh (AA (cs:=#[_,_,_,_,_]) D0 B0 Y B1 As)<|Yw 6 127 V (Ai (vs:=[_,_]) (cs:=[_,_,_,_,_,_,_,_,_,_]) BE B0 F0 Y V rfl V rfl V)<|AG fun gb=>Yw 7 255 V (BR (by_:=40) (sz:=5) BE (V:Tryz.prog.info? 72=some Tryz.t72) V rfl V rfl Y (g) Y (DN 5 gb 2 2 72 (0,0) [I4 r.t,I4 r.k,I4 r.v.a,I4 r.v.b,I4 r.v.c,I4 Z.t,I4 Z.k,I4 Z.v.a,I4 Z.v.b,I4 Z.v.c] V) Wo Wo GP A1 A1) ?_;rintro _ _ ⟨sO,O,rfl⟩;obtain ⟨r9,qw,rfl⟩:=O.form;refine A2 8 V (Aw Y)<|Ag<|A8<|Zx<|Zg<|Ya (n:=1) Y Y<|Zm Y<|Z0<|Zn [6,48,1,7,46,47] ?_;refine Ab (e':=[(6,_),(48,_)]) (by exact ⟨i+1,_,_,rfl,⟨by omega,BS O (by rw [QZ hr,Vr (Vo U h5),BW];rfl) (by rw [QZ hr,Vr (Vo U h5),Bi];rfl)⟩,rfl,rfl⟩)
  refine AC<|A8<|Zx<|Zg<|Ya (n:=1) Y Y<|Zm Y<|Z0<|Zn [6,48,1,7,46,47] ?_;refine Ab (e':=[(6,_),(48,_)]) (by exact ⟨i+1,_,so,rfl,⟨by omega,by rw [QZ hr,mH (sB.1 (by simpa using h5)),DG];exact g⟩,rfl,rfl⟩)
 have ei:i=rows.length:=by omega
 subst ei;rw [GS]at g⊢;refine Ay<|Zt<|Zt<|AR<|Zx<|A0<|Zm Y<|A4 Y<|AJ<|AO V results189 Y (by exact ⟨so,g,V⟩)
def Ie(q:QM)(rows others:List AX):CB:=if BF q then FV q rows others else CB.none
theorem ze(h:¬BF q):Ie q rows others=⟨[],0,false⟩:=An h
theorem PY(h:BF q):Ie q rows others=FV q rows others:=Ax h
theorem rL(h:BF q)(k:q.kd=3):Ie q rows others=⟨[],rows.length,false⟩:=by rw [PY h];unfold FV;rw [Ax k]
theorem rK(h:BF q)(k:q.kd=4):Ie q rows others=⟨[],Ll (Cu q rows),false⟩:=by rw [PY h];unfold FV;rw [An A1,Ax k]
theorem rI(h:BF q)(k:q.kd=5):Ie q rows others=EX (fun a b=>decide (a<b)) (Cu q rows):=by rw [PY h];unfold FV;rw [An A1,An A1,Ax k]
theorem rB(h:BF q)(k:q.kd=6):Ie q rows others=EX (fun a b=>decide (b<a)) (Cu q rows):=by rw [PY h];unfold FV;rw [An A1,An A1,An A1,Ax k]
theorem r8(h:BF q)(k:q.kd=7):Ie q rows others=⟨Iy q rows others,0,false⟩:=by rw [PY h];unfold FV;rw [An A1,An A1,An A1,An A1,Ax k]
theorem rN(h:BF q)(g:¬q.kd=3)(m:¬q.kd=4)(G:¬q.kd=5)(I:¬q.kd=6)(J:¬q.kd=7):Ie q rows others=⟨rows,0,false⟩:=by rw [PY h];unfold FV;rw [An g,An m,An G,An I,An J]
theorem kz{x:Int}(h:ms[i]?=some x):Ll (ms.take (i+1))=Ll (ms.take i)+x:=by unfold Ll;rw [Bn h,Wa];rfl
theorem SE(B:Int):∀(ms:List Int),(∀m∈ms,-B<=m/\m<=B)->-(ms.length*B)<=Jw ms/\Jw ms<=ms.length*B
 |[],_=>by simp [Jw]
 |m::ms,h=>by
  have g:=h m B4;have h2:=SE B ms (fun y hy=>h y (FA _ hy))
  have G:((m::ms).length:Int)*B=ms.length*B+B:=by rw [Dd];push_cast;rw [Int.add_mul,Int.one_mul]
  simp only [Jw];omega
theorem jV(h:∀m∈ms,-1000000000<=m/\m<=1000000000)(I:ms.length<=1000000000)(i:Nat):-1000000000000000000<=Ll (ms.take i)/\Ll (ms.take i)<=1000000000000000000:=by
 have G:=SE 1000000000 (ms.take i) (fun m g=>h m (Pc g));have h2:(ms.take i).length<=1000000000:=by rw [CC];omega
 unfold Ll;rw [NC];omega
theorem oL{lt:Int->Int->Bool}{x:Int}(h:ms[i]?=some x):EX lt (ms.take (i+1))=⟨(EX lt (ms.take i)).rows,if !(EX lt (ms.take i)).fnd||lt x (EX lt (ms.take i)).val then x else(EX lt (ms.take i)).val,true⟩:=by unfold EX;rw [Bn h,Wa];rfl
theorem WS(lt:Int->Int->Bool)(ms:List Int):∀r:CB,(ms.foldl (fun r n=>⟨r.rows,if !r.fnd||lt n r.val then n else r.val,true⟩:CB->Int->CB) r).rows=r.rows:=by
 induction ms with
 |nil=>intro r;rfl
 |cons m ms ih=>intro r;rw [V1,ih]
theorem iW(hv:DW M v rows)(G:rows.length<=1000000000):BB prog 181 #[v,.agg #[.slice none 0 0,I4 0,.bool false],.func (.func 182) #[] #[]] [M] (.agg #[.slice none 0 0,I4 (rows.length:Int),.bool false]):=
 iI hv (fun i=>((i:Int),false)) rfl 182 [] call182 (fun i r m=>by
  have g:=(C4.1 m).1;have:=iG (i:Int) false r A1
  exact RF this)
theorem qN(hc:FP s p (ms.map ivQ))(J:ms.length<=1000000000)(g:ms.length<=cap)(G:∀m∈ms,-1000000000<=m/\m<=1000000000):BB prog 183 #[.slice p ms.length cap,.agg #[.slice none 0 0,I4 0,.bool false],.func (.func 185) #[] #[]] [s] (.agg #[.slice none 0 0,I4 (Ll ms),.bool false]):=by
 have O:=mL;have h:=U8 hc A1 g (fun i=>(Ll (ms.take i),false)) rfl 185 [] call185 (fun i x hx=>by
  have U:=jV G J i;have h2:=G x (Dg hx)
  have I:=iF (Ll (ms.take i)) x false A1;show BB _ _ _ _ (.agg #[.slice none 0 0,I4 (Ll (ms.take (i+1))),.bool false])
  rw [kz hx];exact RF I)
 rwa [GS]at h
theorem bF(hc:FP s p (ms.map ivQ))(Z:ms.length<=1000000000)(I:ms.length<=cap)(b m:Nat)(lt:Int->Int->Bool)(G:∀(args:AH) (w:AD),(callFunc m args).run prog w= .ok (.enter m args) w)(J:∀x y:Int,BB prog m #[I4 x,I4 y] [] (.bool (lt x y))):BB prog 183 #[.slice p ms.length cap,.agg #[.slice none 0 0,I4 0,.bool false],.func (.func 241) #[] #[I5 b]] [s,[(b,.cells #[.func (.func m) #[] #[]] 224 (0,0))]] (.agg #[.slice none 0 0,I4 (EX lt ms).val,.bool (EX lt ms).fnd]):=by
 have W:=mL;refine Qg ?_;have h:=U8 (M:=s++[(b,.cells #[.func (.func m) #[] #[]] 224 (0,0))]) (ms:=ms) (p:=p) (fun j u X=>by
  obtain ⟨g,o,c,T,z,O,h2,U⟩:=hc j u X;exact ⟨g,o,c,T,z,O,E7 _ h2,U⟩) A1 I (fun i=>((EX lt (ms.take i)).val,(EX lt (ms.take i)).fnd)) V 241 [I5 b] call241 (fun i x hx=>by
  show BB _ _ _ _ (.agg #[.slice none 0 0,I4 (EX lt (ms.take (i+1))).val,.bool (EX lt (ms.take (i+1))).fnd]);rw [oL hx];exact bP (oM (EX lt (ms.take i)).val x (EX lt (ms.take i)).fnd b m lt G J))
 rwa [GS]at h
theorem jq(h:∀r∈rows,-1000000000<=Bl r q.bq/\Bl r q.bq<=1000000000):∀m∈Cu q rows,-1000000000<=m/\m<=1000000000:=by
 intro m g;obtain ⟨r,G,rfl⟩:=C3.1 g;exact h r G
set_option maxHeartbeats 1000000 in
theorem oC(hv:DW M v rows)(ho:DW M vo others)(q:QM)(hb:rows.length<=1000000000)(hm:BF q->∀r∈rows,-1000000000<=Bl r q.bq/\Bl r q.bq<=1000000000):BZ prog 126 #[.agg q.A98,v,vo] [M] (fun w H'=>∃rv s,w= .agg #[rv,I4 (Ie q rows others).val,.bool (Ie q rows others).fnd]/\Bd 5 72 rv (Ie q rows others).rows.length (Af (Ie q rows others).rows) s/\H'=[s,M]):=by
 have ax:=mL;refine Se func126 ntmps126 [0,1,2] ?_;intro u R;refine A0<|Ze (Bx #[_,_,_,_,_,_,_])<|AG fun bq=>Ze (Al Gk #[_,_,_])<|AG fun br=>A5<|Zq<|A0<|Zo Wh (AA (cs:=#[_,_,_,_,_,_,_]) F2 CN Y B1 As)<|Xr [_] Y call35 Y V (Jg q)<|Zv (Cn Y)<|A5<|AU Y (fun hq=>?_) (fun hq=>?_);·
  have g:¬BF q:=by simpa using hq
  refine Zq<|BX<|Zg<|Zv (BL (vs:=[]) (cs:=#[_,_,_]) Y (AZ (pl:=#[(0,1),(1,1),(2,1)]) Gk CH (fun _=>by kernel_rfl) rfl))<|Xe (Xw B2 _)<|A5<|AJ<|Zt<|Cs rfl de Y Wh (Am C6 B2 Wn (rfl)) (by exact ⟨.slice none 0 0,[],by rw [ze g];rfl,by rw [ze g];exact Bf 5 _,rfl⟩)
 have g:BF q:=by simpa using hq
 have G:0<=q.bq/\q.bq<=3:=by have:=g.2.2.2;omega
 have af:=jq (hm g);refine AC<|Zx<|A0<|Ze (Al Gk #[_,_,_])<|AG fun bn=>A5<|Zq<|A0<|Zh 0 CT V rfl A6 Y<|Zl AF Y<|A5<|AQ<|A0<|Zv (CK Y Y)<|A4 Y<|Aq Y (fun X=>?_) (fun X=>?_);·
  refine Zq<|BX<|Zg<|Zm Y<|Zo Wh (Pa #[_,_,_] C6 B2 Y)<|Xr [_,_,_] Y call181 Y V (iW hv hb)<|Xe (Xw B2 _)<|Z0<|Zn [6] ?_;refine Zx<|AJ<|Ac<|Zt<|Cs rfl de Y Wh (Am C6 B2 Wn (rfl)) (by exact ⟨.slice none 0 0,[],by rw [rL g X];rfl,by rw [rL g X];exact Bf 5 _,rfl⟩)
 refine A0<|Zv (CK Y Y)<|A4 Y<|Aq Y (fun Z=>?_) (fun Z=>?_);·
  refine Zq<|BX<|Az (n:=6) (0::0::3::0::15::31::[]) 52 AE AE V<|Fk 0 V Wh (AA (cs:=#[_,_,_,_,_,_,_]) F2 CN Y B1 As)<|A2 1 V (AP Y)<|Fk 3 V Wh (Pa #[_,_,_] C6 B2 Y)<|Zz (l:=[2])<|B5 [true,false] [(3,(_,_))] V rfl (Zw [_,_] Y call184 Y V (N8 hv q G A1)) ?_ Bw Ah;rintro _ _ ⟨_,⟨sm,m,rfl⟩,rfl⟩;refine ⟨Zk (Aa),?_⟩;obtain ⟨W,cm,rfl⟩:=m.form;have I:FP sm W ((Cu q rows).map ivQ):=LQ m
  have U:=KT q rows;have O:=Ew m
  refine Yw 4 31 V (Zu [_,_,_] Y call183 Y V (qN I A1 A1 af))<|D4<|Yw 5 63 V (Xw B2 _)<|D4<|Ag<|Zn [6] ?_;refine Zx<|AJ<|Ac<|Zt<|Cs rfl de Y Wh (Am C6 B2 Wn (rfl)) (by exact ⟨.slice none 0 0,[],by rw [rK g Z];rfl,by rw [rK g Z];exact Bf 5 _,rfl⟩)
 refine A0<|Zv (CK Y Y)<|AN Y<|Zn [1,2,3,6,7,13,26] ?_;refine Zx<|Aq Y (fun k5=>?_) (fun k5=>?_);·
  refine Zq<|BX<|Az (n:=7) (0::0::3::0::7::31::63::[]) 116 AE AE V<|Fk 0 V Wh (AA (cs:=#[_,_,_,_,_,_,_]) F2 CN Y B1 As)<|A2 1 V (AP Y)<|Fk 3 V Wh (Pa #[_,_,_] C6 B2 Y)<|Zz (l:=[2])<|B5 [true,false] [(3,(_,_))] V rfl (Zw [_,_] Y call184 Y V (N8 hv q G A1)) ?_ Bw Ah;rintro _ _ ⟨_,⟨sm,m,rfl⟩,rfl⟩;refine ⟨Zk (Aa),?_⟩;obtain ⟨W,cm,rfl⟩:=m.form;have I:FP sm W ((Cu q rows).map ivQ):=LQ m
  have U:=KT q rows;have O:=Ew m
  refine Zz (l:=[4])<|B5 [true] [(3,(_,_))] V rfl (Zw [_] Y call186 Y V (Ng (.func (.func 187) #[] #[]) V rfl)) ?_ Bw Ah;rintro _ _ ⟨_,⟨b9,rfl,rfl⟩,rfl⟩;refine BT<|Yw 5 63 V (Zu [_,_,_] Y call183 Y V (bF I A1 A1 b9 187 _ call187 iE))<|D4<|Yw 6 127 V (Xw B2 _)<|D4<|Ag<|Zx<|AJ<|Ac<|Zt<|Cs V de Y Wh (Am C6 B2 Wn (V)) (by
   have e8:=WS (fun a b=>decide (a<b)) (Cu q rows) CB.none;exact ⟨.slice none 0 0,[],by rw [rI g k5];rfl,by rw [rI g k5];rw [show(EX (fun a b=>decide (a<b)) (Cu q rows)).rows=[] from e8];exact Bf 5 _,rfl⟩)
 refine A0<|Zv (CK Y Y)<|A4 Y<|Aq Y (fun k6=>?_) (fun k6=>?_);·
  refine Zq<|BX<|Az (n:=7) (0::0::3::0::7::31::63::[]) 116 AE AE V<|Fk 0 V Wh (AA (cs:=#[_,_,_,_,_,_,_]) F2 CN Y B1 As)<|A2 1 V (AP Y)<|Fk 3 V Wh (Pa #[_,_,_] C6 B2 Y)<|Zz (l:=[2])<|B5 [true,false] [(3,(_,_))] V rfl (Zw [_,_] Y call184 Y V (N8 hv q G A1)) ?_ Bw Ah;rintro _ _ ⟨_,⟨sm,m,rfl⟩,rfl⟩;refine ⟨Zk (Aa),?_⟩;obtain ⟨W,cm,rfl⟩:=m.form;have I:FP sm W ((Cu q rows).map ivQ):=LQ m
  have U:=KT q rows;have O:=Ew m
  refine Zz (l:=[4])<|B5 [true] [(3,(_,_))] V rfl (Zw [_] Y call186 Y V (Ng (.func (.func 188) #[] #[]) V rfl)) ?_ Bw Ah;rintro _ _ ⟨_,⟨b9,rfl,rfl⟩,rfl⟩;refine BT<|Yw 5 63 V (Zu [_,_,_] Y call183 Y V (bF I A1 A1 b9 188 _ call188 iD))<|D4<|Yw 6 127 V (Xw B2 _)<|D4<|Ag<|Zx<|AJ<|Ac<|Zt<|Cs V de Y Wh (Am C6 B2 Wn (V)) (by
   have e8:=WS (fun a b=>decide (b<a)) (Cu q rows) CB.none;exact ⟨.slice none 0 0,[],by rw [rB g k6];rfl,by rw [rB g k6];rw [show(EX (fun a b=>decide (b<a)) (Cu q rows)).rows=[] from e8];exact Bf 5 _,rfl⟩)
 refine A0<|Zv (CK Y Y)<|A4 Y<|Aq Y (fun k7=>?_) (fun k7=>?_);·
  refine A0<|Zo Wh (AA (cs:=#[_,_,_,_,_,_,_]) F2 CN Y B1 As)<|Zm Y<|Zm Y<|Zc [_,_,_] Y call189 Y V (aK hv ho q G A1) ?_;rintro _ _ ⟨_,⟨sj,J,rfl⟩,rfl⟩;obtain ⟨gj,cj,rfl⟩:=J.form;refine Zv (BL (vs:=[(0,_)]) (cs:=#[_,_,_]) Y (AZ (pl:=#[(0,1),(1,1),(2,1)]) Gk CH (fun _=>by kernel_rfl) rfl))<|Xe (BM B2 Y Y (by(simp [Value.oneCell',Value.cells];done)) Wu As Fc AW (by exact BC _))<|A5<|AJ<|Ac<|Zt<|Cs rfl de Y Wh (Am C6 B2 Wn (rfl)) (by exact ⟨.slice gj _ cj,sj,by rw [r8 g k7];rfl,by rw [r8 g k7];exact J,rfl⟩)
 refine AC<|A8<|Zx<|A0<|Zm Y<|Zc [_] Y call99 Y V (Gp hv A1) ?_;rintro _ _ ⟨_,⟨sj,J,rfl⟩,rfl⟩;obtain ⟨gj,cj,rfl⟩:=J.form;refine Zv (BL (vs:=[(0,_)]) (cs:=#[_,_,_]) Y (AZ (pl:=#[(0,1),(1,1),(2,1)]) Gk CH (fun _=>by kernel_rfl) rfl))<|Xe (BM B2 Y Y (by(simp [Value.oneCell',Value.cells];done)) Wu As Fc AW (by exact BC _))<|A5<|AJ<|Cs rfl de Y Wh (Am C6 B2 Wn (rfl)) (by exact ⟨.slice gj _ cj,sj,by rw [rN g X Z k5 k6 k7];rfl,by rw [rN g X Z k5 k6 k7];exact J,rfl⟩)
theorem XP{x y:CB}:x=y↔x.val=y.val/\x.fnd=y.fnd/\x.rows=y.rows:=by
 obtain ⟨a,b,c⟩:=x;obtain ⟨d,e,f⟩:=y;simp only [CB.mk.injEq];constructor;· rintro ⟨g,h2,m⟩;exact ⟨h2,m,g⟩
 · rintro ⟨g,h2,m⟩;exact ⟨m,g,h2⟩
theorem X6(h:r.ok)(c:Int):-1000000000<=Bl r c/\Bl r c<=1000000000:=by
 obtain ⟨⟨g,h2,m⟩,G,I⟩:=h;unfold inV at g h2 m;unfold Bl;split;· omega
 · split
   · omega
   · split
     · omega
     · split<;>omega
variable{B:List A9}
theorem ul{A:List A9}(hv:DW A v rows)(I:DW B vo others)(q:QM)(m:rows.length<=1000000000)(G:BF q->∀r∈rows,-1000000000<=Bl r q.bq/\Bl r q.bq<=1000000000):BZ prog 126 #[.agg q.A98,v,vo] [A,B] (fun w H'=>∃g s,w= .agg #[g,I4 (Ie q rows others).val,.bool (Ie q rows others).fnd]/\Bd 5 72 g (Ie q rows others).rows.length (Af (Ie q rows others).rows) s/\H'=[s,A,B]):=by
 refine H6 (oC (hv.mono (fun c hc=>E7 B hc)) (I.mono (fun c hc=>GB A hc)) q m G) B4 ?_;rintro r H' ⟨g,s,rfl,h,rfl⟩;exact ⟨_,⟨g,s,V,h,V⟩,by simp⟩
theorem lF(v:A3)(p:Int)(rs:List AX)(s:List A9)(hv:Rh v p rs s)(t c lo hi:Int)(hc:0<=c/\c<=3):BZ prog 85 #[v,I4 t,I4 c,I4 lo,I4 hi] [s] (fun r H'=>∃g,Bd 5 72 r (Dt rs t c.toNat lo hi).length (Af (Dt rs t c.toNat lo hi)) g/\H'=[g,s]):=by
 have h:=YY v p rs s hv t c.toNat lo hi A1;rwa [show((c.toNat:Nat):Int)=c by omega]at h
theorem Su{rs:List AX}{t:Int}{c:Nat}{lo hi:Int}:(Dt rs t c lo hi).length<=rs.length/\∀r∈Dt rs t c lo hi,r∈rs:=by
 have h:=ET rs t c lo hi;exact ⟨by rw [h.length_eq];exact ON _ _,fun r g=>(FF.1 (h.mem_iff.1 g)).1⟩
theorem iJ{I J:A3}{x y:CB}(m:DW M I x.rows)(G:DW M J y.rows):BB prog 58 #[.agg #[I,I4 x.val,.bool x.fnd],.agg #[J,I4 y.val,.bool y.fnd]] [M] (.bool (decide (x=y))):=by
 obtain ⟨pa,X,rfl,_⟩:=id m;obtain ⟨pb,Z,rfl,_⟩:=id G;refine Se func58 ntmps58 [0,1] ?_;intro u R;refine A0<|Ze (Bx #[_,_,_])<|AG fun U=>Ze (Bx #[_,_,_])<|AG fun W=>A4 Y<|A0<|Zh 1 CH V rfl A6 Y<|Zl AF Y<|Zh 1 CH V rfl A6 Y<|Zl AF Y<|Zv (CK Y Y)<|Zm Y<|Aj (t:=10) Y V (fun O=>?_) (fun O=>?_);·
  refine Yf 2 CH V rfl Cp Y<|Yl E6 Y<|Yf 2 CH V rfl Cp Y<|Yl E6 Y<|Yg (TV LS Y Y)<|Zv (AV Y Y)<|Zm Y<|Aj (t:=17) Y V (fun h2=>?_) (fun h2=>?_);·
   refine Yf 0 CH V rfl CI Y<|Yl Fm Y<|Yf 0 CH V rfl CI Y<|Yl Fm Y<|Xr [_,_] Y call112 Y V (bJ m G)<|Zv (AV Y Y)<|AN Y<|Zn [4] ?_;refine Zx<|AJ<|AO V results58 Y (by
    have g:decide (x=y)=decide (x.val=y.val/\x.fnd=y.fnd/\x.rows=y.rows):=decide_eq_decide.2 XP;exact ⟨congrArg Value.bool (by rw [g];simp [*]),rfl⟩)
  refine A7 Y V<|A7 Y V<|A7 Y V<|A7 Y V<|A7 Y V<|Zv (AL Y Y)<|AN Y<|Zn [4] ?_;refine Zx<|AJ<|AO V results58 Y (by
   have g:decide (x=y)=decide (x.val=y.val/\x.fnd=y.fnd/\x.rows=y.rows):=decide_eq_decide.2 XP;exact ⟨congrArg Value.bool (by rw [g];simp [*]),rfl⟩)
 refine A7 Y V<|A7 Y V<|A7 Y V<|A7 Y V<|A7 Y V<|Zv (AL Y Y)<|Zm Y<|A7 Y V<|A7 Y V<|A7 Y V<|A7 Y V<|A7 Y V<|Zv (AL Y Y)<|AN Y<|Zn [4] ?_;refine Zx<|AJ<|AO V results58 Y (by
  have g:decide (x=y)=decide (x.val=y.val/\x.fnd=y.fnd/\x.rows=y.rows):=decide_eq_decide.2 XP;exact ⟨congrArg Value.bool (by rw [g];simp [*]),rfl⟩)
def K4(c:Chg)(x:AX):Bool:=decide (x.t=c.t)&&decide (x.k=c.k)
def Kc(q:QM)(y x:AX):Bool:=decide (Bl y q.cl<Bl x q.cl)||(decide (Bl x q.cl=Bl y q.cl)&&decide (y.k<x.k))
def RY(pd:AX->Bool)(rows:List AX)(y:AX):List AX:=rows.take ((rows.findIdx? pd).getD rows.length)++[y]++rows.drop ((rows.findIdx? pd).getD rows.length)
def EB(q:QM)(c:Chg)(rows:List AX):List AX:=match afQ q c with
 |some y=>RY (Kc q y) (rows.filter fun x=>!K4 c x) y
 |none=>rows.filter fun x=>!K4 c x
def Gf(lt:Int->Int->Bool)(b a:Bool)(o n:Int)(r:CB):CB×Bool:=
 if b&&(!r.fnd||!lt r.val o)then(⟨r.rows,n,r.fnd⟩,(a&&r.fnd)&&!lt r.val n)
 else if a then(⟨r.rows,if !r.fnd||lt n r.val then n else r.val,true⟩,true)else(r,true)
theorem uT(g:AX->Bool)(rows:List AX)(y:AX):(RY g rows y).length=rows.length+1:=by
 unfold RY;simp only [BW,CC,CD,Fl];omega
theorem Uk(q:QM)(c:Chg)(rows:List AX):(EB q c rows).length<=rows.length+1:=by
 have h:=ON (fun x=>!K4 c x) rows;unfold EB;split;· rw [uT];omega
 · omega
theorem NE(lt:Int->Int->Bool)(b a:Bool)(o n:Int)(r:CB):(Gf lt b a o n r).1.rows=r.rows:=by
 unfold Gf;split;· rfl
 · split<;>rfl
theorem iP{P:Program}{f:FuncId}{args:AH}{H:Hp}{Q:A3->Hp->Prop}(h:BZ P f args H Q)(F:Hp):BZ P f args (H++F) (fun v H'=>∃H1,Q v H1/\H'=H1++F):=fun u R w G=>
 Calls.mono (h u (F++R) w (by rw [<-D3];exact G)) fun e I m=>by
  rcases m with⟨v,H',rfl,g,h2⟩|⟨ch,H',rfl,g,h2⟩
  · exact .inl ⟨v,H'++F,rfl,⟨H',g,rfl⟩,by rw [D3];exact h2⟩
  · exact g.elim
theorem yV(g:AX->Bool)(rows:List AX):(Ra g rows<0/\(rows.findIdx? g).getD rows.length=rows.length)\/∃i:Nat,i<=rows.length/\Ra g rows=(i:Int)/\(rows.findIdx? g).getD rows.length=i:=by
 unfold Ra;cases h:rows.findIdx? g with
 |none=>exact .inl ⟨by simp,rfl⟩
 |some i=>
  obtain ⟨m,_,_⟩:=ab.1 h;exact .inr ⟨i,by omega,V,V⟩
theorem mF(q:QM)(c:Chg)(G I:B6)(o n:Int)(x:AX)(m:Nat):BB prog 256 #[.agg x.A97,I5 m] [[(m,.cells (q.GW c G I o n) 262 (0,0))]] (.bool (K4 c x)):=by
 refine Se func256 ntmps256 [0,1] ?_;intro u R;refine A0<|Ze (Bx #[_,_,_,_,_])<|AG fun J=>A4 Y<|A0<|Zh 0 G0 V rfl A6 Y<|Zl AF Y<|Zh 7 DP V rfl C7 Y<|Zv (Ar (off:=0) C0 V rfl A6 Y)<|Zl AF Y<|Zv (CK Y Y)<|Zm Y<|Aj (t:=10) Y V (fun g=>?_) (fun g=>?_);·
  refine Yf 1 G0 V rfl A6 Y<|Yl AF Y<|Yf 7 DP V rfl C7 Y<|Yg (Ar (off:=1) C0 V rfl A6 Y)<|Yl AF Y<|Yg (CK Y Y)<|Zv (AV Y Y)<|AN Y<|Zn [3] ?_;refine Zx<|AJ<|AO V results256 Y (by exact ⟨by simp [K4,g],V⟩)
 refine A7 Y V<|A7 Y V<|A7 Y V<|A7 Y V<|A7 Y V<|A7 Y V<|Zv (AL Y Y)<|AN Y<|Zn [3] ?_;refine Zx<|AJ<|AO V results256 Y (by exact ⟨by simp [K4,g],V⟩)
theorem X0{A:List A9}(hv:DW A v rows)(hn:rows.length<=1000000000)(g:Nat)(us:List A3)(m:AX->Bool)(G:∀(args:AH) (w:AD),(callFunc g args).run prog w= .ok (.enter g args) w)(J:∀x:AX,BB prog g (.agg x.A97::us).toArray [B] (.bool (m x))):BZ prog 255 #[v,.func (.func g) #[] us.toArray] [A,B] (fun r H'=>∃s,Bd 5 72 r (rows.filter fun x=>!m x).length (Af (rows.filter fun x=>!m x)) s/\H'=[s,A,B]):=by
 obtain ⟨p,cap,rfl,_⟩:=id hv;refine Se func255 ntmps255 [0,1] ?_;intro u R;refine A0<|A4 Y<|A0<|Zm Y<|Zc [_] Y call99 Y V (Gp hv A1) ?_;rintro _ _ ⟨_,⟨s1,I,rfl⟩,rfl⟩;obtain ⟨W,O,rfl⟩:=I.form;refine Zm Y<|Zc [_,_] Y call290 Y V (bS I hn g us m G J) ?_;rintro _ _ ⟨_,⟨s2,h2,rfl⟩,rfl⟩;obtain ⟨X,U,rfl⟩:=h2.form;refine A4 Y<|AJ<|AO V results255 Y (by exact ⟨_,h2,V⟩)
theorem Uu(G:Bd 5 72 v rows.length (Af rows) s)(hn:rows.length<=1000000000)(y:AX)(g:Nat)(us:List A3)(I:AX->Bool)(W:∀(args:AH) (w:AD),(callFunc g args).run prog w= .ok (.enter g args) w)(hf:∀x:AX,BB prog g (.agg x.A97::us).toArray [B] (.bool (I x))):BZ prog 257 #[v,.agg y.A97,.func (.func g) #[] us.toArray] [s,B] (fun r H'=>∃Z s2,Bd 5 72 r (RY I rows y).length (Af (RY I rows y)) Z/\H'=[Z,s2,B]):=by
 have af:=mL;obtain ⟨p,cap,rfl⟩:=G.form;have hU:=DY G A1
 refine Se func257 ntmps257 [0,1,2] ?_;intro u R;refine A0<|Ze (Bx #[_,_,_,_,_])<|AG fun bx=>A4 Y<|A0<|Zm Y<|Zm Y<|Xr [_,_] Y call140 Y V (U1 hU g us I W hf) ?_;obtain ⟨z9,U⟩:∃z,z=Ra I rows:=⟨_,rfl⟩;rw [<-U];have m:=yV I rows
 rw [<-U]at m;refine A4 Y<|Zb [7,0,4] ?_;refine DL (e0:=[(7,_)]) (H0:=[]) (fun e H=>∃(i:Nat),(i<=rows.length/\(rows.findIdx? I).getD rows.length=i)/\e=[(7,I4 (i:Int))]/\H=[]) Wp ?hx_1 ?hy_1
 case hx_1=>
  refine A0<|Zm Y<|Zv (Dw Y Y)<|A5<|Aq Y (fun O=>?_) (fun O=>?_);·
   refine Zg<|Zm Y<|Zv (AY BE Y)<|AN Y<|Zn [7,0,4] ?_;refine BN (e':=[(7,_)]) (by exact ⟨rows.length,⟨D2 _,by rcases m with⟨_,h⟩|⟨i,h1,h2,J⟩;exact h;omega⟩,rfl,rfl⟩)
  rcases m with⟨h9,_⟩|⟨i,h1,h2,J⟩
  · exact absurd h9 O
  subst h2;refine AC<|Zn [7,0,4] ?_;refine BN (e':=[(7,_)]) (by exact ⟨i,⟨h1,J⟩,V,V⟩)
 rintro _ _ ⟨i,⟨hi,X⟩,rfl,rfl⟩;refine A0<|Zm Y<|Zm Y<|Zo Wh (Pa #[_,_,_,_,_] D0 B0 Y)<|Ze (Ai (vs:=[_]) (cs:=[_,_,_,_,_]) BE B0 F0 Y V rfl V rfl V)<|AG fun gy=>Zc [_,_,_] Y call291 Y V (aS G hn i hi y gy) ?_;rintro _ _ ⟨_,⟨s3,s4,J,rfl⟩,rfl⟩;obtain ⟨g3,c3,rfl⟩:=J.form;refine A4 Y<|AJ<|AO rfl results257 Y (by exact ⟨_,s4,by unfold RY;rw [X];exact J,rfl⟩)
theorem YA(q:QM)(I:0<=q.cl/\q.cl<=3)(c:Chg)(J:B6)(o n:Int)(y:AX)(g:Nat):BZ prog 258 #[.agg #[I4 q.kd,I4 q.tb,I4 q.cl,I4 q.lo,I4 q.hi,I4 q.bq,I4 q.ot,I4 c.t,I4 c.k,.bool c.had,I4 c.o.a,I4 c.o.b,I4 c.o.c,.bool c.has,I4 c.n.a,I4 c.n.b,I4 c.n.c,.pointer J,I5 g,I4 o,I4 n]] [[(g,.cells y.A97 72 (0,0))]] (fun r H'=>∃G m,r= .func (.func 292) #[] #[I5 G,I5 m]/\H'=[[(G,.cells #[I4 q.kd,I4 q.tb,I4 q.cl,I4 q.lo,I4 q.hi,I4 q.bq,I4 q.ot,I4 c.t,I4 c.k,.bool c.had,I4 c.o.a,I4 c.o.b,I4 c.o.c,.bool c.has,I4 c.n.a,I4 c.n.b,I4 c.n.c,.pointer J,I5 g,I4 o,I4 n] 262 (0,0))],[(m,.cells #[I4 (Bl y q.cl)] 3 (0,0))],[(g,.cells y.A97 72 (0,0))]]):=by
 refine Se func258 ntmps258 [0] ?_;intro u R;refine A0<|Ze (Es Y (cs:=#[I4 q.kd,I4 q.tb,I4 q.cl,I4 q.lo,I4 q.hi,I4 q.bq,I4 q.ot,I4 c.t,I4 c.k,.bool c.had,I4 c.o.a,I4 c.o.b,I4 c.o.c,.bool c.has,I4 c.n.a,I4 c.n.b,I4 c.n.c,.pointer J,I5 g,I4 o,I4 n]) (GA q c J (some ⟨g,0,none⟩) o n))<|AG fun G=>A4 Y<|Zq<|Az (n:=10) (0::1::3::7::0::16::48::127::0::511::[]) 896 AE AE V<|A2 0 V (AB (off:=18) DP V rfl Kx Y)<|B9 1 V N3 Y ?_;refine A2 2 V (Ap Y V)<|Fk 3 V Wh (AA (cs:=#[_,_,_,_,_]) D0 B0 Y B1 As) ?_;refine A2 4 V (AB (off:=0) DP V rfl CN Y)<|A2 5 V (Ar (off:=2) CT V rfl A6 Y)<|B9 6 V AF Y ?_;refine Zz (l:=[7,8])<|B5 [false,false,false] [] V rfl (Zu [_,_] Y Sx Y V (Fy y q.cl I)) ?_ (fun _ _ h=>h.elim) ?_;·
  rintro _ _ ⟨rfl,rfl⟩;refine BT<|Yw 8 511 V (Al HG #[_])<|AG fun m=>Yw 9 1023 V (Zs A6 Y Y V (hi:=by decide))<|D4<|Ag<|Zx<|A0<|Zv (Bh (vs:=[]) (us:=[_,_]) Y Y)<|AN Y<|Zn [2] ?_;refine Zx<|AJ<|AO V results258 Y (by exact ⟨G,m,V,V⟩)
 refine B5 [true,true,true] [(6,(_,_)),(3,(_,_)),(1,(_,_))] V rfl (Al HG #[_]) ?_ (fun _ _ h=>h.elim) Ah;rintro _ _ ⟨m,rfl,rfl⟩;refine BT<|Yw 7 511 V (Zu [_,_] Y Sx Y V (Fy y q.cl I))<|D4<|Yw 9 1023 V (Zs A6 Y Y V (hi:=by decide))<|D4<|Ag<|Zx<|A0<|Zv (Bh (vs:=[]) (us:=[_,_]) Y Y)<|AN Y<|Zn [2] ?_;refine Zx<|AJ<|AO V results258 Y (by exact ⟨G,m,V,V⟩)
theorem pI(q:QM)(m:0<=q.cl/\q.cl<=3)(c:Chg)(O:B6)(o n:Int)(y:AX)(G I J:Nat)(x:AX):BB prog 292 #[.agg x.A97,I5 I,I5 J] [[(I,.cells #[I4 q.kd,I4 q.tb,I4 q.cl,I4 q.lo,I4 q.hi,I4 q.bq,I4 q.ot,I4 c.t,I4 c.k,.bool c.had,I4 c.o.a,I4 c.o.b,I4 c.o.c,.bool c.has,I4 c.n.a,I4 c.n.b,I4 c.n.c,.pointer O,I5 G,I4 o,I4 n] 262 (0,0))],[(J,.cells #[I4 (Bl y q.cl)] 3 (0,0))],[(G,.cells y.A97 72 (0,0))]] (.bool (Kc q y x)):=by
 refine Se func292 ntmps292 [0,1,2] ?_;intro u R;refine A0<|Ze (Bx #[_,_,_,_,_])<|AG fun U=>A4 Y<|A0<|Zo Wh (AA (cs:=#[_,_,_,_,_]) D0 B0 Y B1 As)<|Zh 0 DP V rfl CN Y<|Zv (Ar (off:=2) CT V rfl A6 Y)<|Zl AF Y<|Xr [_,_] Y Sx Y V (Fy x q.cl m)<|A4 Y<|Zq<|Az (n:=19) (0::0::3::7::15::15::63::127::255::511::255::1279::3327::7423::15615::32767::65535::131071::262143::[]) 0 AE AE V<|A2 0 V (AP Y)<|B9 1 V AF Y<|A2 2 V (Et Y Y)<|A2 3 V (AP Y)<|D8 (t:=14) Y (fun g=>?_) (fun g=>?_);·
  rw [DE g];refine AM 4 V<|AM 5 V<|AM 6 V<|AM 7 V<|AM 8 V<|AM 9 V<|AM 10 V<|AM 11 V<|AM 12 V<|AM 13 V<|AM 14 V<|AM 15 V<|AM 16 V<|A2 17 V (AV Y Y)<|A2 18 V (Aw Y)<|Ag<|Zn [4] ?_;refine Zx<|AJ<|AO V results292 Y (by exact ⟨by simp [Kc, *],V⟩)
 rw [Cd g];refine B3 4 V (AP Y)<|DQ 5 V Wh (BO AF Y As)<|B3 6 V (CK Y Y)<|B3 7 V (AP Y)<|D8 (t:=18) Y (fun h2=>?_) (fun h2=>?_);·
  rw [DE h2];refine B3 8 V (AB (off:=1) G0 V rfl A6 Y)<|DQ 9 V Wh (BO AF Y As)<|B3 10 V (AB (off:=18) DP V rfl Kx Y)<|DQ 11 V Wh (BO N3 Y As)<|B3 12 V (Ap Y V)<|B3 13 V (AB (off:=1) G0 V rfl A6 Y)<|DQ 14 V Wh (BO AF Y As)<|B3 15 V (Et Y Y)<|B3 16 V (AV Y Y)<|A2 17 V (AL Y Y)<|A2 18 V (Aw Y)<|Ag<|Zn [4] ?_;refine Zx<|AJ<|AO V results292 Y (by exact ⟨by simp [Kc, *],V⟩)
 rw [Cd h2];refine AM 8 V<|AM 9 V<|AM 10 V<|AM 11 V<|AM 12 V<|AM 13 V<|AM 14 V<|AM 15 V<|B3 16 V (AL Y Y)<|A2 17 V (AL Y Y)<|A2 18 V (Aw Y)<|Ag<|Zn [4] ?_;refine Zx<|AJ<|AO V results292 Y (by exact ⟨by simp [Kc, *],V⟩)
theorem RL(q:QM)(I:0<=q.cl/\q.cl<=3)(c:Chg)(J:B6)(o n:Int)(y:AX)(g:Nat):BZ prog 258 #[.agg #[I4 q.kd,I4 q.tb,I4 q.cl,I4 q.lo,I4 q.hi,I4 q.bq,I4 q.ot,I4 c.t,I4 c.k,.bool c.had,I4 c.o.a,I4 c.o.b,I4 c.o.c,.bool c.has,I4 c.n.a,I4 c.n.b,I4 c.n.c,.pointer J,I5 g,I4 o,I4 n]] [[(g,.cells y.A97 72 (0,0))]] (fun r H'=>∃m G,r= .func (.func 292) #[] ([I5 m,I5 G]:List A3).toArray/\H'=[[(m,.cells #[I4 q.kd,I4 q.tb,I4 q.cl,I4 q.lo,I4 q.hi,I4 q.bq,I4 q.ot,I4 c.t,I4 c.k,.bool c.had,I4 c.o.a,I4 c.o.b,I4 c.o.c,.bool c.has,I4 c.n.a,I4 c.n.b,I4 c.n.c,.pointer J,I5 g,I4 o,I4 n] 262 (0,0))]++[(G,.cells #[I4 (Bl y q.cl)] 3 (0,0))]++[(g,.cells y.A97 72 (0,0))]]):=by
 refine H6 (YA q I c J o n y g) V ?_;rintro r H' ⟨m,G,rfl,rfl⟩;exact ⟨_,⟨m,G,V,V⟩,by simp⟩
theorem cK(q:QM)(I:0<=q.cl/\q.cl<=3)(c:Chg)(J:B6)(o n:Int)(y:AX)(g m G:Nat)(x:AX):BB prog 292 (.agg x.A97::([I5 m,I5 G]:List A3)).toArray [[(m,.cells #[I4 q.kd,I4 q.tb,I4 q.cl,I4 q.lo,I4 q.hi,I4 q.bq,I4 q.ot,I4 c.t,I4 c.k,.bool c.had,I4 c.o.a,I4 c.o.b,I4 c.o.c,.bool c.has,I4 c.n.a,I4 c.n.b,I4 c.n.c,.pointer J,I5 g,I4 o,I4 n] 262 (0,0))]++[(G,.cells #[I4 (Bl y q.cl)] 3 (0,0))]++[(g,.cells y.A97 72 (0,0))]] (.bool (Kc q y x)):=by
 refine H6 (pI q I c J o n y g m G x) V ?_;rintro r H' ⟨rfl,rfl⟩;exact ⟨_,⟨V,V⟩,by simp⟩
set_option maxHeartbeats 1000000 in
theorem fB(q:QM)(c:Chg)(g m:B6)(o n:Int)(G:0<=q.cl/\q.cl<=3){r:CB}{rv:A3}{sr:List A9}(hr:Bd 5 72 rv r.rows.length (Af r.rows) sr)(hn:r.rows.length<=100000000){s2:List A9}(h2:Iq m (afQ q c) s2):BZ prog 209 #[.agg (q.GW c g m o n),.agg #[rv,I4 r.val,.bool r.fnd]] [sr,s2] (fun w H'=>∃I s',w= .tuple #[.agg #[I,I4 r.val,.bool r.fnd],.bool true]/\Bd 5 72 I (EB q c r.rows).length (Af (EB q c r.rows)) s'/\H'=[s']):=by
 have ax:=mL;obtain ⟨pv,cv,rfl⟩:=hr.form;have hU:=DY hr A1
 have af:(r.rows.filter fun x=>!K4 c x).length<=r.rows.length:=ON _ _;refine Se func209 ntmps209 [0,1] ?_;intro u R;refine A0<|Ze (Es Y (cs:=(q.GW c g m o n)) (GA q c g m o n))<|AG fun U=>Ze (Bx #[.slice pv r.rows.length cv,I4 r.val,.bool r.fnd])<|AG fun br=>Ze (Al Gk #[_,_,_])<|AG fun b3=>A4 Y<|A0<|Zh 0 CH V rfl CI Y<|Zl Fm Y ?_;refine Zv (Bh (vs:=[]) (us:=[_]) Y Y)<|Zc [_,_] Y call255 Y V (X0 (B:=[(U,.cells (q.GW c g m o n) 262 (0,0))]) hU A1 256 [I5 U] (K4 c) call256 (fun x=>mF q c g m o n x U)) ?_;rintro _ _ ⟨_,⟨s3,W,rfl⟩,rfl⟩;obtain ⟨g3,c3,rfl⟩:=W.form;refine Zh 0 CH V rfl CI Y<|Xe (Zs CI Y Y V (hi:=by(simp;done))) ?_;refine A5<|Zb [2,3,4] ?_;refine DL (e0:=[(2,_)]) (H0:=[[(br,.cells #[.slice g3 (r.rows.filter fun x=>!K4 c x).length c3,I4 r.val,.bool r.fnd] 54 (0,0))],s3,s2]) (fun e H=>∃(w:A3) (J:List A9),(Bd 5 72 w (EB q c r.rows).length (Af (EB q c r.rows)) J)/\e=[]/\H=[[(br,.cells #[w,I4 r.val,.bool r.fnd] 54 (0,0))],J]) Wp ?hx_1 ?hy_1
 case hx_1=>
  refine A0<|Zh 18 DP V rfl Kx Y<|Zl N3 Y ?_;refine Zv (Eo Sf Y Y)<|A5<|AU Y (fun X=>?_) (fun X=>?_);·
   obtain ⟨y,hy⟩:∃y,afQ q c=some y:=j1.1 (by rw [<-h2.some_];exact X);rw [hy]at h2;obtain ⟨O,rfl,rfl⟩:=h2;refine Az (n:=11) (0::1::0::4::12::28::0::64::255::511::1023::[]) 1408 AE AE V<|A2 0 V (AB (off:=0) CH V rfl CI Y)<|B9 1 V Fm Y ?_;refine A2 2 V (AB (off:=18) DP V rfl Kx Y)<|B9 3 V N3 Y ?_;refine A2 4 V (Ap Y V)<|Ce (b:=O) (x:= .cells y.A97 72 (0,0)) (D':=63) 5 V rfl V B4 (Pa y.A97 D0 B0 Y) ?_;refine Fk 6 V Wh (AA cG Z2 Y B1 (by exact BK V)) ?_;refine Zz (l:=[7])<|B5 [false,true,true,true] [(5,(_,_)),(3,(_,_)),(1,(_,_))] V rfl (Zw [_] Y call258 Y V (RL q G c g o n y O)) ?_ Bw Ah;rintro _ _ ⟨_,⟨Z,b9,rfl,rfl⟩,rfl⟩;refine ⟨FL (by simp [*]) (Zk (Zk (Aa))),?_⟩;refine Zz (l:=[8])<|B5 [false,false,false] [] V rfl (Zw [_,_,_] Y call257 Y V (Uu W A1 y 292 [I5 Z,I5 b9] (Kc q y) call292 (fun x=>cK q G c g o n y O Z b9 x))) ?_ Bw Ah;rintro _ _ ⟨_,⟨s5,s6,h5,rfl⟩,rfl⟩;refine ⟨Aa,?_⟩;obtain ⟨g5,c5,rfl⟩:=h5.form;refine A2 9 V (AB (off:=0) CH V rfl CI Y)<|Zz (l:=[10])<|B5 [] [] V rfl (Zs CI Y Y V (hi:=by(simp;done))) ?_ (fun _ _ h=>h.elim) Ah;rintro _ _ ⟨rfl,rfl⟩;refine BT<|Ag<|Zn [3,4] ?_;refine BN (e':=[]) (by exact ⟨_,s5,by unfold EB;rw [hy];exact h5,rfl,rfl⟩)
  have hy:afQ q c=none:=by have h9:=h2.some_;rw [X]at h9;exact sB.1 (by rw [<-h9];decide)
  refine AC<|Zn [3,4] ?_;refine BN (e':=[]) (by exact ⟨_,s3,by unfold EB;rw [hy];exact W,rfl,rfl⟩)
 rintro _ _ ⟨w,J,h4,rfl,rfl⟩;obtain ⟨p4,c4,rfl⟩:=h4.form;refine A0<|Zo Wh (AA (cs:=#[_,_,_]) C6 B2 Y B1 (by exact BK V)) ?_;refine Xe (BM B2 Y Y HT Wu (by exact Dx rfl) Fc AW (by exact BC _)) ?_;refine A4 Y<|AJ<|Bj V results209 Y Wh (Am C6 B2 Wn (V)) Y (by exact ⟨_,J,V,h4,V⟩)
theorem ZI(q:QM)(c:Chg)(J g:B6)(o n:Int){r:CB}(O:B6)(I m:Nat)(hv:-4000000000000000000<=r.val/\r.val<=4000000000000000000):BB prog 211 #[.agg (q.GW c J g o n),.agg #[.slice O I m,I4 r.val,.bool r.fnd]] [] (.tuple #[.agg #[.slice O I m,I4 (if g.isSome then r.val+1 else r.val -1),.bool r.fnd],.bool true]):=by
 refine Se func211 ntmps211 [0,1] ?_;intro u R;refine A0<|Ze (Es Y (cs:=(q.GW c J g o n)) (GA q c J g o n))<|AG fun W=>Ze (Bx #[.slice O I m,I4 r.val,.bool r.fnd])<|AG fun X=>Ze (Al Gk #[_,_,_])<|AG fun U=>A4 Y<|Zq<|A0<|Zh 18 DP V rfl Kx Y<|Zl N3 Y ?_;refine Zv (Eo Sf Y Y)<|A5<|AU Y (fun G=>?_) (fun G=>?_);·
  refine Zg<|Zh 1 CH V rfl A6 Y<|Zl AF Y ?_;refine Yi Y Y<|Zh 1 CH V rfl A6 Y<|Xe (Zs A6 Y Y V (hi:=by(simp;done))) ?_;refine A5<|A0<|Zo Wh (AA (cs:=#[_,_,_]) C6 B2 Y B1 As) ?_;refine Xe (Xw B2 _) ?_;refine AN Y<|Zn [4,5] ?_;refine Zx<|AJ<|Bj rfl results211 Y Wh (Am C6 B2 Wn (rfl)) Y (by exact ⟨by rw [G];rfl,rfl⟩)
 refine Zg<|Zh 1 CH V rfl A6 Y<|Zl AF Y ?_
 (refine BV (GN Y Y (IntWalk.i64_in _ ?_)) ?_;(focus (omega)))
 refine Zh 1 CH V rfl A6 Y<|Xe (Zs A6 Y Y V (hi:=by(simp;done))) ?_;refine A5<|A0<|Zo Wh (AA (cs:=#[_,_,_]) C6 B2 Y B1 As) ?_;refine Xe (Xw B2 _) ?_;refine AN Y<|Zn [4,5] ?_;refine Zx<|AJ<|Bj rfl results211 Y Wh (Am C6 B2 Wn (rfl)) Y (by exact ⟨by rw [G];rfl,rfl⟩)
theorem lq(q:QM)(c:Chg)(G I:B6)(o n:Int){r:CB}(J:B6)(m g:Nat)(hv:-4000000000000000000<=r.val/\r.val<=4000000000000000000)(X:(-1000000000<=o/\o<=1000000000)/\-1000000000<=n/\n<=1000000000):BB prog 213 #[.agg (q.GW c G I o n),.agg #[.slice J m g,I4 r.val,.bool r.fnd]] [] (.tuple #[.agg #[.slice J m g,I4 (r.val+(n -o)),.bool r.fnd],.bool true]):=by
 refine Se func213 ntmps213 [0,1] ?_;intro u R;refine A0<|Ze (Es Y (cs:=(q.GW c G I o n)) (GA q c G I o n))<|AG fun U=>Ze (Bx #[.slice J m g,I4 r.val,.bool r.fnd])<|AG fun W=>Ze (Al Gk #[_,_,_])<|AG fun O=>A4 Y<|A0<|Zh 1 CH V rfl A6 Y<|Zl AF Y ?_;refine Zh 20 DP V rfl A6 Y<|Zl AF Y ?_;refine Zh 19 DP V rfl A6 Y<|Zl AF Y ?_
 (refine BV (GN Y Y (IntWalk.i64_in _ ?_)) ?_;(focus (omega)))
 refine Yi Y Y<|Zh 1 CH V rfl A6 Y<|Xe (Zs A6 Y Y V (hi:=by(simp;done))) ?_;refine Z0<|Zn [3,4] ?_;refine Zx<|A0<|Zo Wh (AA (cs:=#[_,_,_]) C6 B2 Y B1 As) ?_;refine Xe (Xw B2 _) ?_;refine A4 Y<|AJ<|Bj V results213 Y Wh (Am C6 B2 Wn (V)) Y (by exact ⟨V,V⟩)
end Go.Proofs.YtfhjaegddfehhabGreatDoor
