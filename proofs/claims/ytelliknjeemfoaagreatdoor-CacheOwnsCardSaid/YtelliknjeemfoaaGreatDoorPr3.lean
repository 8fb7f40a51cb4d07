/- predicate.kinds, Touches. -/
import Derived.Test.YtelliknjeemfoaaGreatDoorQe3
set_option linter.unusedVariables false
set_option linter.unusedSimpArgs false
namespace Go.Proofs.YtelliknjeemfoaaGreatDoor
open Go.Proofs.Tryz
open Go Go.RowKit Gw
set_option maxRecDepth 100000
attribute [local irreducible] Gw.At Gw.Nx Gw.Ops
def Lr(b5 b6:Nat):List (Int×A2):=[(1,.agg #[.func (.func 200) #[] #[],.func (.func 201) #[] #[]]),(2,.agg #[.func (.func 200) #[] #[],.func (.func 201) #[] #[]]),(3,.agg #[.func (.func 202) #[] #[],.func (.func 203) #[] #[]]),(4,.agg #[.func (.func 204) #[] #[],.func (.func 205) #[] #[]]),(5,.agg #[.func (.func 206) #[] #[],.func (.func 251) #[] #[I1 b5]]),(6,.agg #[.func (.func 209) #[] #[],.func (.func 251) #[] #[I1 b6]]),(7,.agg #[.func (.func 211) #[] #[],.func (.func 212) #[] #[]])]
variable{lm:List (Int×A2)}{k:Int}{v:A2}
theorem Yy{g m:Nat}(h:∀p,p∈lm↔p∈Lr g m)(hn:(lm.map (·.1)).Nodup)(G:(k,v)∈Lr g m):EL k lm=some v:=Cw hn ((h _).2 G)
def Ha(k:Int):Nat:=if k=1 then 200 else if k=2 then 200 else if k=3 then 202 else if k=4 then 204 else if k=5 then 206 else if k=6 then 209 else 211
theorem tL{g m:Nat}(h:∀p,p∈lm↔p∈Lr g m)(hn:(lm.map (·.1)).Nodup)(G:1<=k/\k<=7):∃pf,EL k lm=some (.agg #[.func (.func (Ha k)) #[] #[],pf]):=by
 obtain h9|h9|h9|h9|h9|h9|h9:k=1\/k=2\/k=3\/k=4\/k=5\/k=6\/k=7:=by omega
 all_goals subst h9
 all_goals exact ⟨_,Yy h hn (by simp [Lr,Ha];rfl)⟩
theorem Ou(v:A2)(g:v.oneCell'=true)(hc:v.cells=#[v]):BQ prog 207 #[v] [] (fun r H'=>∃b,r= .func (.func 251) #[] #[I1 b]/\H'=[[(b,.cells #[v] 223 (0,0))]]):=by
 refine Se func207 ntmps207 [0] ?_;intro u R;refine A3<|Ze (FN Y (cs:=#[v]) hc)<|AF fun b=>AH Y<|A3<|Zv (Bg (vs:=[]) (us:=[_]) Y Y)<|Ax Y<|AX V results207 Y (by exact ⟨b,V,V⟩)
theorem Na:BQ prog 150 #[] [] (fun v H'=>∃b es ck lm g m,v= .map (some b)/\Ck (fun k:Int=>I0 k) es ck lm/\(∀p,p∈lm↔p∈Lr g m)/\H'=[[(b,.map es ck)],[(g,.cells #[.func (.func 208) #[] #[]] 223 (0,0))],[(m,.cells #[.func (.func 210) #[] #[]] 223 (0,0))]]):=by
 refine Se func150 ntmps150 [] ?_;intro u R;refine A3<|AH Y<|A3<|Ze (DK)<|AF fun mb=>Zv (BM (vs:=[(0,.func (.func 200) #[] #[]),(1,.func (.func 201) #[] #[])]) (cs:=#[.func (.func 200) #[] #[],.func (.func 201) #[] #[]]) Y (Aa (pl:=#[(0,1),(1,1)]) aw ab (fun _=>by kernel_rfl) AD))<|Ze (EI Hy al (EX _) (fun _ _=>trivial) (trivial) Y Y Y Wo) ?_;rintro _ _ ⟨rfl,l5,gq,p8,J,af,rfl⟩;refine Zv (BM (vs:=[(0,.func (.func 200) #[] #[]),(1,.func (.func 201) #[] #[])]) (cs:=#[.func (.func 200) #[] #[],.func (.func 201) #[] #[]]) Y (Aa (pl:=#[(0,1),(1,1)]) aw ab (fun _=>by kernel_rfl) AD))<|Ze (EI Hy al J (fun _ _=>trivial) (trivial) Y Y Y Wo) ?_;rintro _ _ ⟨rfl,l8,gy,p9,K,ax,rfl⟩;refine Zv (BM (vs:=[(0,.func (.func 202) #[] #[]),(1,.func (.func 203) #[] #[])]) (cs:=#[.func (.func 202) #[] #[],.func (.func 203) #[] #[]]) Y (Aa (pl:=#[(0,1),(1,1)]) aw ab (fun _=>by kernel_rfl) AD))<|Ze (EI Hy al K (fun _ _=>trivial) (trivial) Y Y Y Wo) ?_;rintro _ _ ⟨rfl,l9,ic,pg,O,bn,rfl⟩;refine Zv (BM (vs:=[(0,.func (.func 204) #[] #[]),(1,.func (.func 205) #[] #[])]) (cs:=#[.func (.func 204) #[] #[],.func (.func 205) #[] #[]]) Y (Aa (pl:=#[(0,1),(1,1)]) aw ab (fun _=>by kernel_rfl) AD))<|Ze (EI Hy al O (fun _ _=>trivial) (trivial) Y Y Y Wo) ?_;rintro _ _ ⟨rfl,o8,j3,pq,U,cu,rfl⟩;refine Zc [_] Y call207 Y V (Ou (.func (.func 208) #[] #[]) V rfl) ?_;rintro _ _ ⟨_,⟨g,rfl,rfl⟩,rfl⟩;refine Zv (BM (vs:=[(0,.func (.func 206) #[] #[]),(1,.func (.func 251) #[] #[I1 g])]) (cs:=#[.func (.func 206) #[] #[],.func (.func 251) #[] #[I1 g]]) Y (Aa (pl:=#[(0,1),(1,1)]) aw ab (fun _=>by kernel_rfl) AD))<|Ze (EI Hy al U (fun _ _=>trivial) (trivial) Y Y Y Wo) ?_;rintro _ _ ⟨rfl,o9,j5,pz,W,cO,rfl⟩;refine Zc [_] Y call207 Y V (Ou (.func (.func 210) #[] #[]) V rfl) ?_;rintro _ _ ⟨_,⟨m,rfl,rfl⟩,rfl⟩
 refine Zv (BM (vs:=[(0,.func (.func 209) #[] #[]),(1,.func (.func 251) #[] #[I1 m])]) (cs:=#[.func (.func 209) #[] #[],.func (.func 251) #[] #[I1 m]]) Y (Aa (pl:=#[(0,1),(1,1)]) aw ab (fun _=>by kernel_rfl) AD))<|Ze (EI Hy al W (fun _ _=>trivial) (trivial) Y Y Y Wo) ?_;rintro _ _ ⟨rfl,ow,kv,q9,X,d9,rfl⟩;refine Zv (BM (vs:=[(0,.func (.func 211) #[] #[]),(1,.func (.func 212) #[] #[])]) (cs:=#[.func (.func 211) #[] #[],.func (.func 212) #[] #[]]) Y (Aa (pl:=#[(0,1),(1,1)]) aw ab (fun _=>by kernel_rfl) AD))<|Ze (EI Hy al X (fun _ _=>trivial) (trivial) Y Y Y Wo) ?_;rintro _ _ ⟨rfl,I,G,gm,Z,ek,rfl⟩;refine Zm Y<|B1 Y<|Zn [0] ?_;refine Zx<|AJ<|AX V results150 Y (by
  refine ⟨mb,I,G,gm,g,m,V,Z,fun p=>?_,V⟩;rw [ek,d9,cO,cu,bn,ax,af];simp only [Lr,Dg,T0,Sf,false_and];constructor;· rintro (rfl|⟨rfl|⟨rfl|⟨rfl|⟨rfl|⟨rfl|⟨rfl,-⟩,-⟩,-⟩,-⟩,-⟩,-⟩)<;>simp
  · rintro (h|h|h|h|h|h|h)<;>subst h<;>simp)
theorem fF(q:QM)(c:Chg)(Z:BG q){g m:B8}{s1 s2:List A8}(U:Ib g (bfQ q c) s1)(h2:Ib m (afQ q c) s2):Az prog (Ha q.kd) #[.agg (q.HH c g m (mQ q (bfQ q c)) (mQ q (afQ q c)))] [] (.bool (Cr q c)):=by
 have e1:=U.some_;have e2:=h2.some_
 have X:q.kd=1\/q.kd=2\/q.kd=3\/q.kd=4\/q.kd=5\/q.kd=6\/q.kd=7:=by have:=Z.2.2.2;omega
 have G:=aj q c g m (mQ q (bfQ q c)) (mQ q (afQ q c));have O:=Sr q c g m (mQ q (bfQ q c)) (mQ q (afQ q c))
 have W:=xk q c g m (mQ q (bfQ q c)) (mQ q (afQ q c));have I:=xh q c g m (mQ q (bfQ q c)) (mQ q (afQ q c))
 have J:=xg q c g m (mQ q (bfQ q c)) (mQ q (afQ q c));have K:=xe q c g m (mQ q (bfQ q c)) (mQ q (afQ q c))
 rw [e1,e2]at G O I J K;rcases X with h|h|h|h|h|h|h
 · rw [show Ha q.kd=200 by rw [h];rfl,show Cr q c=Nt q c by unfold Cr;rw [B0 A0]];exact G
 · rw [show Ha q.kd=200 by rw [h];rfl,show Cr q c=Nt q c by unfold Cr;rw [B0 A0]];exact G
 · rw [show Ha q.kd=202 by rw [h];rfl,show Cr q c=UO q c by unfold Cr;rw [As A0,B0 A0]];exact O
 · rw [show Ha q.kd=204 by rw [h];rfl,show Cr q c=decide (mQ q (bfQ q c)≠mQ q (afQ q c)) by unfold Cr;rw [As A0,As A0,B0 A0]];exact W
 · rw [show Ha q.kd=206 by rw [h];rfl,show Cr q c=(UO q c||decide (mQ q (bfQ q c)≠mQ q (afQ q c))) by unfold Cr;rw [As A0,As A0,As A0,B0 A0]];exact I
 · rw [show Ha q.kd=209 by rw [h];rfl,show Cr q c=(UO q c||decide (mQ q (bfQ q c)≠mQ q (afQ q c))) by unfold Cr;rw [As A0,As A0,As A0,B0 A0]];exact J
 · rw [show Ha q.kd=211 by rw [h];rfl,show Cr q c=(Nt q c||decide (c.t=q.ot)) by unfold Cr;rw [As A0,As A0,As A0,As A0]];exact K
theorem lu(g:1<=k/\k<=7):∀(args:AM) (w:A4),(callFunc (Ha k) args).run prog w= .ok (.enter (Ha k) args) w:=by
 obtain h|h|h|h|h|h|h:k=1\/k=2\/k=3\/k=4\/k=5\/k=6\/k=7:=by omega
 all_goals (subst h;simp only [Ha];first|exact call200|exact call202|exact call204|exact call206|exact call209|exact call211)
variable{q:QM}
theorem BG.kind(h:BG q):1<=q.kd/\q.kd<=7:=by have:=h.2.2.2;omega
theorem KR(q:QM)(c:Chg):Az prog 98 #[.agg q.A89,.agg c.A87] [] (.bool (decide (BG q)&&(decide c.ok&&Cr q c))):=by
 refine Se func98 ntmps98 [0,1] ?_;intro u R;refine A3<|Ze (Bx #[_,_,_,_,_,_,_])<|AF fun pq=>Ze (Bx #[_,_,_,_,_,_,_,_,_,_])<|AF fun pc=>D2 Y<|Aw (n:=18) (0::1::3::7::15::31::63::127::127::383::1023::2047::127::127::12543::32767::65535::131071::[]) 49298 AD AD V<|GB 0 V Wh (AA (cs:=#[_,_,_,_,_,_,_]) FG D4 Y B9 B2)<|Yw 1 3 V (Zu [_] Y call28 Y V (JR q))<|F1<|A1 2 V (AQ Y)<|Cb (t:=7) Y (fun g=>?_) (fun g=>?_);·
  rw [g];refine Fk 3 V Wh (AA (cs:=#[_,_,_,_,_,_,_,_,_,_]) HG Cd Y B9 B2)<|Yw 4 31 V (Zu [_] Y call95 Y V (Uu c))<|F1<|A1 5 V (AL Y Y)<|A1 6 V (AQ Y)<|Cb (t:=11) Y (fun h2=>?_) (fun h2=>?_);focus
   rw [h2];refine B5 8 V (AB (off:=0) DB V rfl A6 Y)<|Fk 9 V Wh (BL AE Y B2)<|Fk 12 V Wh (AA (cs:=#[_,_,_,_,_,_,_]) FG D4 Y B9 B2)<|Fk 13 V Wh (AA (cs:=#[_,_,_,_,_,_,_,_,_,_]) HG Cd Y B9 B2)<|Zz (l:=[7])<|C0 [true,true,true] [(13,(_,_)),(12,(_,_)),(9,(_,_))] V rfl (Zw [] Y call150 Y V (Na)) ?hk_3 Bz ?hl_3
   case' hk_3=>
    rintro _ _ ⟨_,⟨mb,es,ck,lm,U,W,rfl,K,O,rfl⟩,rfl⟩;refine ⟨Zk (Zk (Zk (Ac))),?_⟩;have G:BG q:=IF g
    obtain ⟨pf,m⟩:=tL O K.keys G.kind;refine Fk 10 rfl Wh (De Hy al aw K (fun _ _=>trivial) (trivial) ((by rw [m];exact rfl:_=Value.agg #[.func (.func (Ha q.kd)) #[] #[],pf])) Y Y)<|B5 11 rfl (X4 ab rfl isAgg251 Y rfl)<|Zz (l:=[14])<|C0 [true,false,false,true] [(10,(_,_)),(9,(_,_))] rfl rfl (Zw [_,_] Y call151 Y rfl (Jc q G.2.1 (by have:=G.2.2.2;omega) c)) ?hk_4 Bz ?hl_4
    case' hk_4=>
     rintro _ _ ⟨_,⟨X,Z,s1,s2,rfl,I,J,rfl⟩,rfl⟩;refine CA<|Yw 15 65535 V (Zu [_] Y (lu G.kind) Y V (fF q c G I J))<|F1<|A1 16 V (AL Y Y) ?_
    case' hl_4=>
     exact Am
   case' hl_3=>
    exact Am
  rotate_left
  focus
   rw [h2];refine AW 7 V<|AW 8 V<|AW 9 V<|AW 10 V<|AW 11 V<|AW 12 V<|AW 13 V<|AW 14 V<|AW 15 V<|A1 16 V (AO Y Y) ?_
  all_goals
   refine A1 17 V (BI Y)<|Ao<|Zn [4] ?_;refine Zx<|AJ<|AX V results98 Y (by exact ⟨by simp [g,h2],V⟩)
 rw [g];refine AW 3 V<|AW 4 V<|A1 5 V (AO Y Y)<|A1 6 V (AQ Y)<|AW 7 V<|AW 8 V<|AW 9 V<|AW 10 V<|AW 11 V<|AW 12 V<|AW 13 V<|AW 14 V<|AW 15 V<|A1 16 V (AO Y Y)<|A1 17 V (BI Y)<|Ao<|Zn [4] ?_;refine Zx<|AJ<|AX V results98 Y (by exact ⟨by simp [g],V⟩)
def ivQ(n:Int):A2:=I0 n
theorem kC(e:AK)(g c:Nat)(z:A2)(h:c<=maxLen):BX 1 e (I2 g 0 c) 0 [] [(g,.cells (List.replicate c z).toArray e (0,0))]:=⟨rfl,.inr ⟨g,c,_,(0,0),rfl,rfl,C7 _,h,by simp,by simp,BA _⟩⟩
variable{rows:List AU}{i:Nat}{r:AU}
theorem lU(h:rows[i]?=some r):Cu q (rows.take (i+1))=Cu q (rows.take i)++[Bj r q.bq]:=by
 unfold Cu;rw [Bq h,CN];rfl
theorem K9(q:QM)(rows:List AU):(Cu q rows).length=rows.length:=by unfold Cu;rw [Bm]
theorem xP(h:rows[i]?=some r):(Cu q rows)[i]?=some (Bj r q.bq):=by unfold Cu;rw [FF,h];rfl
variable{M:List A8}
theorem fw(hv:DV M v rows){v0:Int}{U:Bool}(st:Nat->Int×Bool)(h0:st 0=(v0,U))(G:Nat)(us:List A2)(K:∀(args:AM) (w:A4),(callFunc G args).run prog w= .ok (.enter G args) w)(hf:∀(i:Nat) (r:AU),rows[i]?=some r->Az prog G (.agg #[.slice none 0 0,I0 (st i).1,.bool (st i).2]:: .agg r.A88::us).toArray [M] (.agg #[.slice none 0 0,I0 (st (i+1)).1,.bool (st (i+1)).2])):Az prog 188 #[v,.agg #[.slice none 0 0,I0 v0,.bool U],.func (.func G) #[] us.toArray] [M] (.agg #[.slice none 0 0,I0 (st rows.length).1,.bool (st rows.length).2]):=by
 have ax:=mL;obtain ⟨p,cap,rfl,⟨hl,af⟩,hg⟩:=id hv;refine Se func188 ntmps188 [0,1,2] ?_;intro u R;refine A3<|Ze (Bx #[_,_,_])<|AF fun Z=>Ze (Al HP #[_,_,_])<|AF fun re=>A5<|B7 Y<|Zv (AR C1 Y)<|Zm Y<|A5<|AP<|Zb [11,2,4,6,9,10] ?_;refine Ay (e0:=[(11,_)]) (fun m e H=>∃(i:Nat),m=rows.length -i/\(i<=rows.length)/\e=[(11,I0 (i:Int))]/\H=[[(Z,.cells #[.slice none 0 0,I0 (st i).1,.bool (st i).2] 50 (0,0))]]) (by exact ⟨0,rfl,C7 _,rfl,by rw [h0]⟩) Wp ?_;rintro _ _ _ ⟨i,rfl,hi,rfl,rfl⟩;refine A3<|Zv (Ar Y Y)<|A5<|Zq<|Ap Y (fun J=>?_) (fun J=>?_);·
  obtain ⟨r,W⟩:∃r,rows[i]?=some r:=⟨_,BE J⟩;obtain ⟨g,off,cur,T,zz,rfl,O,X,I⟩:=hg i r W;refine B4<|Zq<|AP<|A3<|Ba (AZ C1 B3 Y Y A0)<|CO (cs:=[(g,.cells cur T zz)]) (by simp [O]) (AA (cs:=r.A88) DE B3 Y A0 I) V rfl<|Ze (Al G1 #[_,_,_,_,_])<|AF fun rb=>Xe (Xw B3 r.A88)<|A5<|Zg<|Zm Y<|Zo Wh (AA (cs:=#[_,_,_]) E3 C3 Y B9 B2)<|Zo Wh (AA (cs:=#[_,_,_,_,_]) DE B3 Y B9 B2)<|Xr [_,_] Y (K) Y rfl (hf i r W)<|Xe (BF C3 Y Y HT Wu (by exact (rfl:_=(#[.slice none 0 0,I0 (st (i+1)).1,.bool (st (i+1)).2]:AM))) Fm B9 (by exact BA _))<|Z0<|A9<|Zx<|E6 Y Y Y<|HB (by exact ⟨i+1,V,by omega,V,V⟩)
 have ei:i=rows.length:=by omega
 subst ei;refine BB<|Zt<|Zt<|AV<|CD<|Zo Wh (AA (cs:=#[_,_,_]) E3 C3 Y B9 B2)<|Xe (Xw C3 _)<|A5<|AJ<|Cv V results188 Y Wh (Av E3 C3 Wn (V)) (by exact ⟨V,V⟩)
variable{p:B8}{cap:Nat}{ms:List Int}
theorem TR(hc:FL M p (ms.map ivQ))(hl:ms.length<=maxLen)(af:ms.length<=cap){v0:Int}{W:Bool}(st:Nat->Int×Bool)(h0:st 0=(v0,W))(G:Nat)(us:List A2)(O:∀(args:AM) (w:A4),(callFunc G args).run prog w= .ok (.enter G args) w)(hf:∀(i:Nat) (x:Int),ms[i]?=some x->Az prog G (.agg #[.slice none 0 0,I0 (st i).1,.bool (st i).2]::I0 x::us).toArray [M] (.agg #[.slice none 0 0,I0 (st (i+1)).1,.bool (st (i+1)).2])):Az prog 190 #[.slice p ms.length cap,.agg #[.slice none 0 0,I0 v0,.bool W],.func (.func G) #[] us.toArray] [M] (.agg #[.slice none 0 0,I0 (st ms.length).1,.bool (st ms.length).2]):=by
 have ax:=mL;refine Se func190 ntmps190 [0,1,2] ?_;intro u R;refine A3<|Ze (Bx #[_,_,_])<|AF fun X=>Ze (Al HP #[_,_,_])<|AF fun re=>A5<|B7 Y<|Zv (AR DS Y)<|Zm Y<|A5<|AP<|Zb [11,2,4,6,9,10] ?_;refine Ay (e0:=[(11,_)]) (fun m e H=>∃(i:Nat),m=ms.length -i/\(i<=ms.length)/\e=[(11,I0 (i:Int))]/\H=[[(X,.cells #[.slice none 0 0,I0 (st i).1,.bool (st i).2] 50 (0,0))]]) (by exact ⟨0,rfl,C7 _,rfl,by rw [h0]⟩) Wp ?_;rintro _ _ _ ⟨i,rfl,hi,rfl,rfl⟩;refine A3<|Zv (Ar Y Y)<|A5<|Zq<|Ap Y (fun K=>?_) (fun K=>?_);·
  obtain ⟨x,hx⟩:∃x,ms[i]?=some x:=⟨_,BE K⟩;obtain ⟨g,off,cur,T,zz,rfl,U,J⟩:=hc i (ivQ x) (by rw [FF,hx];rfl);have I:cur[off+i]?=some (I0 x):=J
  refine B4<|Zq<|AP<|A3<|Ba (Bu DS A6 Y Y PC)<|CO (cs:=[(g,.cells cur T zz)]) (by simp [U]) (BL AE Y I) rfl rfl<|AH Y<|Zg<|Zm Y<|Zo Wh (AA (cs:=#[_,_,_]) E3 C3 Y B9 B2)<|Zm Y<|Xr [_,_] Y (O) Y rfl (hf i x hx)<|Xe (BF C3 Y Y HT Wu (by exact (rfl:_=(#[.slice none 0 0,I0 (st (i+1)).1,.bool (st (i+1)).2]:AM))) Fm B9 (by exact BA _))<|Z0<|A9<|Zx<|E6 Y Y Y<|HB (by exact ⟨i+1,V,by omega,V,V⟩)
 have Z:i=ms.length:=by omega
 subst Z;refine BB<|Zt<|Zt<|AV<|CD<|Zo Wh (AA (cs:=#[_,_,_]) E3 C3 Y B9 B2)<|Xe (Xw C3 _)<|A5<|AJ<|Cv V results190 Y Wh (Av E3 C3 Wn (V)) (by exact ⟨V,V⟩)
theorem MZ(hv:DV M v rows)(q:QM)(U:0<=q.bq/\q.bq<=3)(hb:rows.length<=1000000000000):BQ prog 191 #[.agg q.A89,v] [M] (fun r H'=>∃s,BX 1 3 r (Cu q rows).length ((Cu q rows).map ivQ) s/\H'=[s,M]):=by
 have cu:=mL;obtain ⟨p,cap,rfl,⟨hl,bn⟩,hg⟩:=id hv;refine Se func191 ntmps191 [0,1] ?_;intro u R;refine A3<|Ze (Bx #[_,_,_,_,_,_,_])<|AF fun bq=>AH Y<|AN Y<|Zv (AR C1 Y)<|Ze (Gd (by_:=8) (l:=0) DS (V:Tryz.prog.info? 3=some Tryz.t3) V rfl V rfl Y Y ?_ ?_ ?_) ?_
 (focus (omega))
 (focus (omega))
 (focus (omega))
 rintro _ _ ⟨mk,rfl,rfl⟩;refine AH Y<|B7 Y<|Zv (AR C1 Y)<|Zm Y<|A5<|AP<|Zb [5,13,2,11,12] ?_;refine Ay (e0:=[(5,_),(13,_)]) (fun m e H=>∃(i:Nat) (vo:A2) (O:List A8),m=rows.length -i/\(i<=rows.length/\BX 1 3 vo i ((Cu q (rows.take i)).map ivQ) O)/\e=[(5,vo),(13,I0 (i:Int))]/\H=[O]) (by exact ⟨0,_,_,rfl,⟨C7 _,by rw [MT];exact kC _ _ _ (I0 0) A0⟩,rfl,rfl⟩) Wp ?_;rintro _ _ _ ⟨i,vo,O,rfl,⟨hi,I⟩,rfl,rfl⟩;obtain ⟨qo,co,rfl⟩:=I.form;refine A3<|Zv (Ar Y Y)<|A5<|Zq<|Ap Y (fun K=>?_) (fun K=>?_);·
  obtain ⟨r,X⟩:∃r,rows[i]?=some r:=⟨_,BE K⟩;obtain ⟨g,off,cur,T,zz,rfl,W,Z,J⟩:=hg i r X;refine B4<|Zq<|AP<|A3<|Ba (AZ C1 B3 Y Y A0)<|CO (cs:=[(g,.cells cur T zz)]) (by simp [W]) (AA (cs:=r.A88) DE B3 Y A0 J) V rfl<|Ze (Al G1 #[_,_,_,_,_])<|AF fun rb=>Xe (Xw B3 r.A88)<|A5<|Zg<|Zm Y<|Zo Wh (AA (cs:=#[_,_,_,_,_]) DE B3 Y B9 B2)<|Zh 5 DB V rfl A6 Y<|Zl AE Y<|Xr [_,_] Y UP Y V (G5 r q.bq U)<|Ze (Ah (vs:=[_]) (cs:=[_]) DS A6 HX Y V rfl V rfl V)<|AF fun gb=>Ze (BS (by_:=8) (sz:=1) DS (V:Tryz.prog.info? 3=some Tryz.t3) V rfl V rfl Y (I) Y (Dn 1 gb 1 1 3 (0,0) [I0 (Bj r q.bq)] V) Wo Wo HQ A0 A0) ?_;rintro _ _ ⟨cO,G,rfl⟩;obtain ⟨ax,af,rfl⟩:=G.form;refine B1 Y<|Zn [2,5,11,12,13] ?_;refine A9<|Zx<|E6 Y Y Y<|DM (e:=[(5,_),(13,_)]) (h:=by exact ⟨i+1,_,_,rfl,⟨by omega,Bb G rfl (by rw [lU X,CN];rfl)⟩,rfl,rfl⟩)
 have ei:i=rows.length:=by omega
 subst ei;refine BB<|Zt<|Zt<|AV<|Zx<|AN Y<|Ax Y<|AX rfl results191 Y (by exact ⟨O,Bb I (K9 q rows).symm (by rw [HI]),rfl⟩)
theorem NF(v:A2)(g:v.oneCell'=true)(hc:v.cells=#[v]):BQ prog 193 #[v] [] (fun r H'=>∃b,r= .func (.func 246) #[] #[I1 b]/\H'=[[(b,.cells #[v] 223 (0,0))]]):=by
 refine Se func193 ntmps193 [0] ?_;intro u R;refine A3<|Ze (FN Y (cs:=#[v]) hc)<|AF fun b=>AH Y<|A3<|Zv (Bg (vs:=[]) (us:=[_]) Y Y)<|Ax Y<|AX V results193 Y (by exact ⟨b,V,V⟩)
theorem nJ(v n:Int)(f:Bool)(b g:Nat)(lt:Int->Int->Bool)(m:∀(args:AM) (w:A4),(callFunc g args).run prog w= .ok (.enter g args) w)(G:∀x y:Int,Az prog g #[I0 x,I0 y] [] (.bool (lt x y))):Az prog 246 #[.agg #[.slice none 0 0,I0 v,.bool f],I0 n,I1 b] [[(b,.cells #[.func (.func g) #[] #[]] 223 (0,0))]] (.agg #[.slice none 0 0,I0 (if !f||lt n v then n else v),.bool true]):=by
 refine Se func246 ntmps246 [0,1,2] ?_;intro u R;refine A3<|Ze (Bx #[_,_,_])<|AF fun J=>Ze (Al HP #[_,_,_])<|AF fun bs=>A5<|Zq<|A3<|Zh 2 E4 V rfl FA Y<|Zl GW Y ?_;refine Zv (Bh Y)<|Zm Y<|Ab (t:=9) Y V (fun I=>?_) (fun I=>?_);focus
  refine AG<|AG<|C5<|BT Y Y<|A5<|Cg Y<|Zg<|Zm Y<|Zh 1 E4 V rfl A6 Y<|Xe (Zs A6 Y Y V (hi:=by(simp;done))) ?_;refine Z0<|Zn [3,5] ?_;refine CD<|Zh 2 E4 V rfl FA Y<|Xe (Zs FA Y Y V (hi:=by(simp;done))) ?_;refine Z0 ?_
 rotate_left
 focus
  refine Yl isAgg223 Y ?_;refine Zf Y Y<|Yf 1 E4 V rfl A6 Y<|Yl AE Y ?_;refine Xr [_,_] Y (m) Y V (G n v) ?_;refine BW Y Y<|A5<|AY Y (fun h2=>?_) (fun h2=>?_);focus
   refine Zg<|Zm Y<|Zh 1 E4 V rfl A6 Y<|Xe (Zs A6 Y Y V (hi:=by(simp;done))) ?_;refine Z0<|Zn [3,5] ?_;refine CD<|Zh 2 E4 V rfl FA Y<|Xe (Zs FA Y Y V (hi:=by(simp;done))) ?_;refine Z0 ?_
  rotate_left
  focus
   refine AC<|CD<|Zh 2 E4 V rfl FA Y<|Xe (Zs FA Y Y V (hi:=by(simp;done))) ?_;refine Z0<|Zn [3,5] ?_
 all_goals
  refine CD<|Zo Wh (AA (cs:=#[_,_,_]) E3 C3 Y B9 B2) ?_;refine Xe (Xw C3 _) ?_;refine A5<|AJ<|Cv V results246 Y Wh (Av E3 C3 Wn (V)) (by exact ⟨by simp_all;rfl,V⟩)
theorem fZ(x y:Int):Az prog 194 #[I0 x,I0 y] [] (.bool (decide (x<y))):=by
 refine Se func194 ntmps194 [0,1] ?_;intro u R;refine A3<|AH Y<|AN Y<|Zm Y<|Zv (Dz Y Y)<|Ax Y<|AX V results194 Y (by exact ⟨by rfl,V⟩)
theorem fV(x y:Int):Az prog 195 #[I0 x,I0 y] [] (.bool (decide (y<x))):=by
 refine Se func195 ntmps195 [0,1] ?_;intro u R;refine A3<|AH Y<|AN Y<|Zm Y<|Zv (Ev Y Y)<|Ax Y<|AX V results195 Y (by exact ⟨by rfl,V⟩)
theorem fo(v:Int)(f:Bool)(r:AU)(h:-9223372036854775807<=v/\v<=9223372036854775806):Az prog 189 #[.agg #[.slice none 0 0,I0 v,.bool f],.agg r.A88] [] (.agg #[.slice none 0 0,I0 (v+1),.bool f]):=by
 refine Se func189 ntmps189 [0,1] ?_;intro u R;refine A3<|Ze (Bx #[_,_,_])<|AF fun m=>Ze (Bx #[_,_,_,_,_])<|AF fun G=>Ze (Al HP #[_,_,_])<|AF fun g=>A5<|A3<|Zh 1 E4 V rfl A6 Y<|Zl AE Y<|Yi Y Y<|Zh 1 E4 V rfl A6 Y<|Xe (Zs A6 Y Y V (hi:=by(simp;done)))<|A5<|A3<|Zo Wh (AA (cs:=#[_,_,_]) E3 C3 Y B9 B2)<|Xe (Xw C3 _)<|A5<|AJ<|Cv V results189 Y Wh (Av E3 C3 Wn (V)) (by exact ⟨V,V⟩)
theorem fe(v n:Int)(f:Bool)(h:-9223372036854775807<=v+n/\v+n<=9223372036854775806):Az prog 192 #[.agg #[.slice none 0 0,I0 v,.bool f],I0 n] [] (.agg #[.slice none 0 0,I0 (v+n),.bool f]):=by
 refine Se func192 ntmps192 [0,1] ?_;intro u R;refine A3<|Ze (Bx #[_,_,_])<|AF fun m=>Ze (Al HP #[_,_,_])<|AF fun g=>A5<|A3<|Zh 1 E4 V rfl A6 Y<|Zl AE Y<|Zm Y<|Yi Y Y<|Zh 1 E4 V rfl A6 Y<|Xe (Zs A6 Y Y V (hi:=by(simp;done)))<|A5<|A3<|Zo Wh (AA (cs:=#[_,_,_]) E3 C3 Y B9 B2)<|Xe (Xw C3 _)<|A5<|AJ<|Cv V results192 Y Wh (Av E3 C3 Wn (V)) (by exact ⟨V,V⟩)
def zA(r:AU):A2:= .agg r.A88
theorem sN{g:List (Int×A2)}{I:Int}(hn:(lm.map (·.1)).Nodup)(m:(g.map (·.1)).Nodup)(G:∀p,p∈g↔p=(I,v)\/(p∈lm/\p.1≠I))(k:Int):EL k g=if k=I then some v else EL k lm:=by
 split
 · rename_i h
   rw [h];exact Cw m ((G _).2 (.inl V))
 · rename_i h
   cases hg:EL k lm with
   |some x=>exact Cw m ((G _).2 (.inr ⟨VZ hg,h⟩))
   |none=>
    cases hg2:EL k g with
    |none=>rfl
    |some x=>
     rcases (G _).1 (VZ hg2)with e|⟨e,_⟩
     · injection e with e1 e2;exact absurd e1 h
     · rw [Cw hn e]at hg;cases hg
variable{others:List AU}{x:AU}
theorem VP(h:others[i]?=some x)(k:Int):Dc q (others.take (i+1)) k=(Dc q (others.take i) k).or (if x.t=q.ot/\x.k=k then some x else none):=by
 unfold Dc;rw [Bq h,List.find?_append];congr 1;simp only [List.find?_cons,List.find?_nil];split<;>simp_all
def U4(q:QM)(others:List AU)(lm:List (Int×A2)):Prop:=∀k,EL k lm=(Dc q others k).map zA
theorem df(h:others[i]?=some x)(m:U4 q (others.take i) lm)(hx:¬x.t=q.ot\/(Dc q (others.take i) x.k).isSome=true):U4 q (others.take (i+1)) lm:=by
 intro k;rw [m k,VP h k];cases hg:Dc q (others.take i) k with
 |some y=>rfl
 |none=>
  rw [As];· rfl
  · rintro ⟨g,rfl⟩
    rcases hx with hx|hx
    · exact hx g
    · rw [hg]at hx;cases hx
theorem kU{g:List (Int×A2)}(h:others[i]?=some x)(J:U4 q (others.take i) lm)(hx:x.t=q.ot)(G:(Dc q (others.take i) x.k).isSome=false)(hn:(lm.map (·.1)).Nodup)(m:(g.map (·.1)).Nodup)(K:∀p,p∈g↔p=(x.k,zA x)\/(p∈lm/\p.1≠x.k)):U4 q (others.take (i+1)) g:=by
 intro k;rw [sN hn m K k,VP h k];split
 · rename_i hk
   have:Dc q (others.take i) k=none:=by
    rw [hk];cases hg:Dc q (others.take i) x.k with
    |none=>rfl
    |some y=>rw [hg]at G;cases G
   rw [this,B0 ⟨hx,hk.symm⟩];rfl
 · rename_i hk
   rw [J k,As (fun I=>hk I.2.symm)];cases Dc q (others.take i) k<;>rfl
variable{y:AU}
theorem VQ(g:U4 q others lm)(k:Int)(hy:y=(Dc q others k).getD ⟨0,0,⟨0,0,0⟩⟩):(EL k lm).getD (.agg #[I0 (⟨0,0,⟨0,0,0⟩⟩:AU).t,I0 (⟨0,0,⟨0,0,0⟩⟩:AU).k,I0 (⟨0,0,⟨0,0,0⟩⟩:AU).v.a,I0 (⟨0,0,⟨0,0,0⟩⟩:AU).v.b,I0 (⟨0,0,⟨0,0,0⟩⟩:AU).v.c])= .agg y.A88/\(EL k lm).isSome=(Dc q others k).isSome:=by
 rw [g k,hy];cases Dc q others k<;>exact ⟨rfl,rfl⟩
theorem VO(hy:y=(Dc q others k).getD ⟨0,0,⟨0,0,0⟩⟩)(h:(Dc q others k).isSome=true):Dc q others k=some y:=by
 rw [hy];cases hp:Dc q others k with
 |none=>rw [hp]at h;cases h
 |some x=>rfl
variable{s:List A8}
theorem Km{sz:Nat}{e:AK}{n c k:Nat}{xs:List A2}(h:BX sz e (.slice p n c) k xs s):FL s p xs:=by
 intro j u G;obtain ⟨J,⟨_,rfl,_⟩|⟨g,cap,cur,z,hv,rfl,_,_,_,m,_⟩⟩:=h
 · have:xs=[]:=OR A0
   subst this;cases G
 · injection hv with h1 h2 h3
   subst h1;refine ⟨g,0,cur,e,z,V,by simp,?_⟩;have I:=(C6.1 G).1
   rw [<-m,HU,B0 A0,Hs]at G;rwa [DP]
theorem Q0(h:rows[i]?=some r):Ig q (rows.take (i+1)) others=Ig q (rows.take i) others++Ie q others r:=by
 unfold Ig;rw [Bq h,S0,pP]
theorem VR(h:Dc q others (Bj r q.bq)=some y):Ie q others r=[r,y]:=by unfold Ie;rw [h]
theorem kX(h:Dc q others (Bj r q.bq)=none):Ie q others r=[]:=by unfold Ie;rw [h]
theorem rA(q:QM)(others:List AU)(r:AU):(Ie q others r).length<=2:=by unfold Ie;split<;>simp
theorem TC(q:QM)(rows others:List AU):(Ig q rows others).length<=2*rows.length:=by
 induction rows with
 |nil=>simp [Ig]
 |cons r rows ih=>
  have:=rA q others r;unfold Ig at*;rw [IH,C2,EV];omega
variable{vo:A2}
set_option maxHeartbeats 1000000 in
theorem Z9(hv:DV M v rows)(ho:DV M vo others)(q:QM)(gy:0<=q.bq/\q.bq<=3)(hb:rows.length<=100000000000):BQ prog 196 #[.agg q.A89,v,vo] [M] (fun r H'=>∃s,BX 5 61 r (Ig q rows others).length (Ad (Ig q rows others)) s/\H'=[s,M]):=by
 have r9:=mL;obtain ⟨p,cap,rfl,⟨hl,qy⟩,hg⟩:=id hv;obtain ⟨po,ow,rfl,⟨qz,p8⟩,j3⟩:=id ho;refine Se func196 ntmps196 [0,1,2] ?_;intro u R;refine A3<|Ze (Bx #[_,_,_,_,_,_,_])<|AF fun bq=>AH Y<|A3<|Ze (DK)<|AF fun mb=>AH Y<|B7 Y<|Zv (AR C1 Y)<|Zm Y<|A5<|AP<|Zb [19,1,3,6,7,17,18] ?_;refine Ay (e0:=[(19,_)]) (fun m e H=>∃(i:Nat) (es:Array MapEntry) (ck:Nat) (lm:List (Int×A2)),m=others.length -i/\(i<=others.length/\Ck (fun k:Int=>I0 k) es ck lm/\U4 q (others.take i) lm)/\e=[(19,I0 (i:Int))]/\H=[[(mb,.map es ck)]]) (by exact ⟨0,#[],0,[],V,⟨C7 _,EX _,fun k=>rfl⟩,V,V⟩) Wp ?_;rintro _ _ _ ⟨i,es,ck,lm,rfl,⟨hi,hm,Z⟩,rfl,rfl⟩;refine A3<|Zv (Ar Y Y)<|A5<|Zq<|Ap Y (fun G=>?_) (fun G=>?_);·
  obtain ⟨x,hx⟩:∃x,others[i]?=some x:=⟨_,BE G⟩;obtain ⟨g1,pz,W,T1,l9,rfl,j5,pg,af⟩:=j3 i x hx;refine B4<|Zq<|AP<|A3<|Ba (AZ C1 B3 Y Y A0)<|CO (cs:=[(g1,.cells W T1 l9)]) (by simp [j5]) (AA (cs:=x.A88) DE B3 Y A0 af) V rfl<|Ze (Al G1 #[_,_,_,_,_])<|AF fun bx=>Xe (Xw B3 x.A88)<|A5<|Zq ?_;obtain ⟨y0,d9⟩:∃y,y=(Dc q (others.take i) x.k).getD ⟨0,0,⟨0,0,0⟩⟩:=⟨_,rfl⟩;refine Zg<|Zm Y<|Zh 1 H3 V rfl A6 Y<|Zl AE Y<|Zo Wh (EN Hy underlying355 G1 hm (fun _ _=>trivial) (trivial) (VQ Z x.k d9) Y Y)<|Zm Y<|Zd Y V<|Zd Y V<|Ze (Al G1 #[_,_,_,_,_])<|AF fun bt=>Xe (Xw B3 y0.A88)<|B1 Y<|Zn [1,3,6,7,9,11,17,18,19] ?_;refine Zx<|Zq ?_;obtain ⟨y0,d9⟩:∃y,y=(Dc q (others.take i) x.k).getD ⟨0,0,⟨0,0,0⟩⟩:=⟨_,rfl⟩;refine Zg<|Zh 0 H3 V rfl A6 Y<|Zl AE Y<|Zh 6 DB V rfl A6 Y<|Zl AE Y<|Zv (CJ Y Y)<|Zm Y<|Ae (t:=35) Y V (fun h1=>?_) (fun h1=>?_);focus
   refine Zf Y Y<|Yg (Bh Y)<|BT Y Y<|A5<|AY Y (fun h2=>?_) (fun h2=>?_);refine Zg<|Zm Y<|Zh 1 H3 V rfl A6 Y<|Zl AE Y<|Zo Wh (AA (cs:=#[_,_,_,_,_]) DE B3 Y B9 B2)<|Ze (FD Hy underlying355 hm (fun _ _=>trivial) (trivial) Y Y Y Wo) ?_;rintro _ _ ⟨rfl,ql,qj,l8,I,l5,rfl⟩;have gq:U4 q (others.take (i+1)) l8:=kU hx Z h1 (by simpa using h2) hm.keys I.keys l5
   refine Z0<|Zn [1,3,6,7,17,18,19] ?_;refine A9<|Zx<|E6 Y Y Y<|DM (e:=[(19,_)]) (h:=by exact ⟨i+1,_,_,_,V,⟨by omega,I,gq⟩,V,V⟩)
  rotate_left
  focus
   refine AG<|BW Y Y<|A5<|DW Y ?_
  all_goals
   refine AC<|A9<|Zx<|E6 Y Y Y<|DM (e:=[(19,_)]) (h:=by exact ⟨i+1,es,ck,lm,rfl,⟨by omega,hm,df hx Z (by first|exact .inl A0|exact .inr (by simpa using h2))⟩,rfl,rfl⟩)
 have ei:i=others.length:=by omega
 subst ei;rw [HI]at Z;refine BB<|Zt<|Zt<|AV<|Zx<|Zq<|A3<|Zo Wh (AA (cs:=#[_,_,_,_,_,_,_]) FG D4 Y B9 B2)<|Zm Y<|Zc [_,_] Y call191 Y V (MZ hv q gy A0) ?_;rintro _ _ ⟨_,⟨sm,cO,rfl⟩,rfl⟩;obtain ⟨gm,cm,rfl⟩:=cO.form;refine Zv (AR DS Y)<|Zm Y<|A5<|AP<|Bc ?_;have ic:FL sm gm ((Cu q rows).map ivQ):=Km cO
 have p9:=K9 q rows;refine Zb [6,48,1,7,46,47] ?_;refine Ay (e0:=[(6,_),(48,_)]) (fun m e H=>∃(i:Nat) (w:A2) (so:List A8),m=rows.length -i/\(i<=rows.length/\BX 5 61 w (Ig q (rows.take i) others).length (Ad (Ig q (rows.take i) others)) so)/\e=[(6,w),(48,I0 (i:Int))]/\H=[so]) (by exact ⟨0,.slice none 0 0,[],rfl,⟨C7 _,by rw [MT];exact Bi 5 _⟩,rfl,rfl⟩) Wp ?_;rintro _ _ _ ⟨i,w,so,rfl,⟨hi,g⟩,rfl,rfl⟩;obtain ⟨qo,co,rfl⟩:=g.form;have qx:(Ig q (rows.take i) others).length<=2*i:=On (TC _ _ _) (by rw [Cl];omega)
 refine A3<|Zv (Ar Y Y)<|A5<|Zq<|Ap Y (fun G=>?_) (fun G=>?_);·
  obtain ⟨r,hr⟩:∃r,rows[i]?=some r:=⟨_,BE A0⟩;obtain ⟨g2,ek,J,T2,o8,rfl,I,ax⟩:=ic i (ivQ (Bj r q.bq)) (by rw [FF,xP hr];rfl);have cu:J[ek+i]?=some (I0 (Bj r q.bq)):=ax
  obtain ⟨U,O⟩:∃y,y=(Dc q others (Bj r q.bq)).getD ⟨0,0,⟨0,0,0⟩⟩:=⟨_,rfl⟩;refine B4<|Zq<|AP<|AN Y<|Ba (Bu DS A6 Y Y PC)<|CO (cs:=[(g2,.cells J T2 o8)]) (by simp [I]) (BL AE Y cu) rfl rfl<|Za Y<|AH Y<|AN Y<|Zm Y<|Zo Wh (EN Hy underlying355 G1 hm (fun _ _=>trivial) (trivial) (VQ Z (Bj r q.bq) O) Y Y)<|Zm Y<|Zd Y rfl<|Zd Y rfl<|Ze (Al G1 #[_,_,_,_,_])<|AF fun qa=>Xe (Xw B3 U.A88)<|B1 Y<|Zn [1,6,7,12,14,15,46,47,48] ?_;refine Zx<|AN Y<|A5<|AY Y (fun h5=>?_) (fun h5=>?_);·
   obtain ⟨g3,q9,X,T3,o9,rfl,kv,pq,bn⟩:=hg i r hr;refine Aw (n:=9) (0::0::0::6::14::0::62::127::255::[]) 192 AD AD V<|A1 0 V (AQ Y)<|A1 1 V (AQ Y)<|A1 2 V (AQ Y)<|A1 3 V (AZ C1 B3 Y Y A0)<|CS (b:=g3) (x:= .cells X T3 o9) (D':=31) 4 V rfl V (by simp [kv]) (AA (cs:=r.A88) DE B3 Y A0 bn) ?_;refine GB 5 V Wh (AA (cs:=#[_,_,_,_,_]) DE B3 Y B9 B2)<|Yw 6 127 V (Ah (vs:=[_,_]) (cs:=[_,_,_,_,_,_,_,_,_,_]) C1 B3 G1 Y V rfl V rfl V)<|AF fun gb=>Yw 7 255 V (BS (by_:=40) (sz:=5) C1 (V:Tryz.prog.info? 61=some Tryz.t61) V rfl V rfl Y (g) Y (Dn 5 gb 2 2 61 (0,0) [I0 r.t,I0 r.k,I0 r.v.a,I0 r.v.b,I0 r.v.c,I0 U.t,I0 U.k,I0 U.v.a,I0 U.v.b,I0 U.v.c] V) Wo Wo HQ A0 A0) ?_;rintro _ _ ⟨sj,K,rfl⟩;obtain ⟨qw,qb,rfl⟩:=K.form;refine A1 8 V (BI Y)<|Ao<|A9<|Zx<|E6 Y Y Y<|DM (e:=[(6,_),(48,_)]) (h:=by exact ⟨i+1,_,_,rfl,⟨by omega,Bb K (by rw [Q0 hr,VR (VO O h5),C2];rfl) (by rw [Q0 hr,VR (VO O h5),Br];rfl)⟩,rfl,rfl⟩)
  refine AC<|A9<|Zx<|E6 Y Y Y<|DM (e:=[(6,_),(48,_)]) (h:=by exact ⟨i+1,_,so,rfl,⟨by omega,by rw [Q0 hr,kX (tI.1 (by simpa using h5)),DQ];exact g⟩,rfl,rfl⟩)
 have ei:i=rows.length:=by omega
 subst ei;rw [HI]at g⊢;refine BB<|Zt<|Zt<|AV<|Zx<|AN Y<|Ax Y<|AX V results196 Y (by exact ⟨so,g,V⟩)
def IP(q:QM)(rows others:List AU):C8:=if BG q then FQ q rows others else C8.none
theorem zN(h:¬BG q):IP q rows others=⟨[],0,false⟩:=As h
theorem Oo(h:BG q):IP q rows others=FQ q rows others:=B0 h
theorem sY(h:BG q)(k:q.kd=3):IP q rows others=⟨[],rows.length,false⟩:=by rw [Oo h];unfold FQ;rw [B0 k]
theorem sX(h:BG q)(k:q.kd=4):IP q rows others=⟨[],LK (Cu q rows),false⟩:=by rw [Oo h];unfold FQ;rw [As A0,B0 k]
theorem sL(h:BG q)(k:q.kd=5):IP q rows others=EZ (fun a b=>decide (a<b)) (Cu q rows):=by rw [Oo h];unfold FQ;rw [As A0,As A0,B0 k]
theorem sE(h:BG q)(k:q.kd=6):IP q rows others=EZ (fun a b=>decide (b<a)) (Cu q rows):=by rw [Oo h];unfold FQ;rw [As A0,As A0,As A0,B0 k]
theorem sC(h:BG q)(k:q.kd=7):IP q rows others=⟨Ig q rows others,0,false⟩:=by rw [Oo h];unfold FQ;rw [As A0,As A0,As A0,As A0,B0 k]
theorem sn(h:BG q)(g:¬q.kd=3)(m:¬q.kd=4)(G:¬q.kd=5)(I:¬q.kd=6)(J:¬q.kd=7):IP q rows others=⟨rows,0,false⟩:=by rw [Oo h];unfold FQ;rw [As g,As m,As G,As I,As J]
theorem jh{x:Int}(h:ms[i]?=some x):LK (ms.take (i+1))=LK (ms.take i)+x:=by unfold LK;rw [Bq h,cQ];rfl
theorem RY(B:Int):∀(ms:List Int),(∀m∈ms,-B<=m/\m<=B)->-(ms.length*B)<=Jh ms/\Jh ms<=ms.length*B
 |[],_=>by simp [Jh]
 |m::ms,h=>by
  have g:=h m B6;have h2:=RY B ms (fun y hy=>h y (G3 _ hy))
  have G:((m::ms).length:Int)*B=ms.length*B+B:=by rw [EV];push_cast;rw [Int.add_mul,Int.one_mul]
  simp only [Jh];omega
theorem iP(h:∀m∈ms,-1000000000<=m/\m<=1000000000)(I:ms.length<=1000000000)(i:Nat):-1000000000000000000<=LK (ms.take i)/\LK (ms.take i)<=1000000000000000000:=by
 have G:=RY 1000000000 (ms.take i) (fun m g=>h m (R0 g));have h2:(ms.take i).length<=1000000000:=by rw [Cl];omega
 unfold LK;rw [Md];omega
theorem nI{lt:Int->Int->Bool}{x:Int}(h:ms[i]?=some x):EZ lt (ms.take (i+1))=⟨(EZ lt (ms.take i)).rows,if !(EZ lt (ms.take i)).fnd||lt x (EZ lt (ms.take i)).val then x else(EZ lt (ms.take i)).val,true⟩:=by unfold EZ;rw [Bq h,cQ];rfl
theorem Vs(lt:Int->Int->Bool)(ms:List Int):∀r:C8,(ms.foldl (fun r n=>⟨r.rows,if !r.fnd||lt n r.val then n else r.val,true⟩:C8->Int->C8) r).rows=r.rows:=by
 induction ms with
 |nil=>intro r;rfl
 |cons m ms ih=>intro r;rw [W8,ih]
theorem gP(hv:DV M v rows)(G:rows.length<=1000000000):Az prog 188 #[v,.agg #[.slice none 0 0,I0 0,.bool false],.func (.func 189) #[] #[]] [M] (.agg #[.slice none 0 0,I0 (rows.length:Int),.bool false]):=
 fw hv (fun i=>((i:Int),false)) rfl 189 [] call189 (fun i r m=>by
  have g:=(C6.1 m).1;have:=fo (i:Int) false r A0
  exact Qb this)
theorem oq(hc:FL s p (ms.map ivQ))(J:ms.length<=1000000000)(g:ms.length<=cap)(G:∀m∈ms,-1000000000<=m/\m<=1000000000):Az prog 190 #[.slice p ms.length cap,.agg #[.slice none 0 0,I0 0,.bool false],.func (.func 192) #[] #[]] [s] (.agg #[.slice none 0 0,I0 (LK ms),.bool false]):=by
 have K:=mL;have h:=TR hc A0 g (fun i=>(LK (ms.take i),false)) rfl 192 [] call192 (fun i x hx=>by
  have O:=iP G J i;have h2:=G x (E7 hx)
  have I:=fe (LK (ms.take i)) x false A0;show Az _ _ _ _ (.agg #[.slice none 0 0,I0 (LK (ms.take (i+1))),.bool false])
  rw [jh hx];exact Qb I)
 rwa [HI]at h
theorem aG(hc:FL s p (ms.map ivQ))(X:ms.length<=1000000000)(I:ms.length<=cap)(b m:Nat)(lt:Int->Int->Bool)(G:∀(args:AM) (w:A4),(callFunc m args).run prog w= .ok (.enter m args) w)(J:∀x y:Int,Az prog m #[I0 x,I0 y] [] (.bool (lt x y))):Az prog 190 #[.slice p ms.length cap,.agg #[.slice none 0 0,I0 0,.bool false],.func (.func 246) #[] #[I1 b]] [s,[(b,.cells #[.func (.func m) #[] #[]] 223 (0,0))]] (.agg #[.slice none 0 0,I0 (EZ lt ms).val,.bool (EZ lt ms).fnd]):=by
 have U:=mL;refine nO ?_;have h:=TR (M:=s++[(b,.cells #[.func (.func m) #[] #[]] 223 (0,0))]) (ms:=ms) (p:=p) (fun j u W=>by
  obtain ⟨g,o,c,T,z,K,h2,O⟩:=hc j u W;exact ⟨g,o,c,T,z,K,Fc _ h2,O⟩) A0 I (fun i=>((EZ lt (ms.take i)).val,(EZ lt (ms.take i)).fnd)) V 246 [I1 b] call246 (fun i x hx=>by
  show Az _ _ _ _ (.agg #[.slice none 0 0,I0 (EZ lt (ms.take (i+1))).val,.bool (EZ lt (ms.take (i+1))).fnd]);rw [nI hx];exact aO (nJ (EZ lt (ms.take i)).val x (EZ lt (ms.take i)).fnd b m lt G J))
 rwa [HI]at h
theorem jA(h:∀r∈rows,-1000000000<=Bj r q.bq/\Bj r q.bq<=1000000000):∀m∈Cu q rows,-1000000000<=m/\m<=1000000000:=by
 intro m g;obtain ⟨r,G,rfl⟩:=CM.1 g;exact h r G
set_option maxHeartbeats 1000000 in
theorem mg(hv:DV M v rows)(ho:DV M vo others)(q:QM)(hb:rows.length<=1000000000)(hm:BG q->∀r∈rows,-1000000000<=Bj r q.bq/\Bj r q.bq<=1000000000):BQ prog 140 #[.agg q.A89,v,vo] [M] (fun w H'=>∃rv s,w= .agg #[rv,I0 (IP q rows others).val,.bool (IP q rows others).fnd]/\BX 5 61 rv (IP q rows others).rows.length (Ad (IP q rows others).rows) s/\H'=[s,M]):=by
 have ax:=mL;refine Se func140 ntmps140 [0,1,2] ?_;intro u R;refine A3<|Ze (Bx #[_,_,_,_,_,_,_])<|AF fun bq=>Ze (Al HP #[_,_,_])<|AF fun br=>A5<|Zq<|A3<|Zo Wh (AA (cs:=#[_,_,_,_,_,_,_]) FG D4 Y B9 B2)<|Xr [_] Y call28 Y V (JR q)<|Zv (Cz Y)<|A5<|AY Y (fun hq=>?_) (fun hq=>?_);·
  have g:¬BG q:=by simpa using hq
  refine Zq<|Bc<|Zg<|Zv (BM (vs:=[]) (cs:=#[_,_,_]) Y (Aa (pl:=#[(0,1),(1,1),(2,1)]) HP E4 (fun _=>by kernel_rfl) rfl))<|Xe (Xw C3 _)<|A5<|AJ<|Zt<|Cv rfl eC Y Wh (Av E3 C3 Wn (rfl)) (by exact ⟨.slice none 0 0,[],by rw [zN g];rfl,by rw [zN g];exact Bi 5 _,rfl⟩)
 have g:BG q:=by simpa using hq
 have G:0<=q.bq/\q.bq<=3:=by have:=g.2.2.2;omega
 have af:=jA (hm g);refine AC<|CD<|Ze (Al HP #[_,_,_])<|AF fun bn=>A5<|Zq<|A3<|Zh 0 DB V rfl A6 Y<|Zl AE Y<|A5<|AP<|A3<|Zv (CJ Y Y)<|AH Y<|Ap Y (fun W=>?_) (fun W=>?_);·
  refine Zq<|Bc<|Zg<|Zm Y<|Zo Wh (Pa #[_,_,_] E3 C3 Y)<|Xr [_,_,_] Y call188 Y V (gP hv hb)<|Xe (Xw C3 _)<|Z0<|Zn [6] ?_;refine Zx<|AJ<|Ag<|Zt<|Cv rfl eC Y Wh (Av E3 C3 Wn (rfl)) (by exact ⟨.slice none 0 0,[],by rw [sY g W];rfl,by rw [sY g W];exact Bi 5 _,rfl⟩)
 refine A3<|Zv (CJ Y Y)<|AH Y<|Ap Y (fun X=>?_) (fun X=>?_);·
  refine Zq<|Bc<|Aw (n:=6) (0::0::3::0::15::31::[]) 52 AD AD V<|GB 0 V Wh (AA (cs:=#[_,_,_,_,_,_,_]) FG D4 Y B9 B2)<|A1 1 V (AQ Y)<|GB 3 V Wh (Pa #[_,_,_] E3 C3 Y)<|Zz (l:=[2])<|C0 [true,false] [(3,(_,_))] V rfl (Zw [_,_] Y call191 Y V (MZ hv q G A0)) ?_ Bz Am;rintro _ _ ⟨_,⟨sm,m,rfl⟩,rfl⟩;refine ⟨Zk (Ac),?_⟩;obtain ⟨U,cm,rfl⟩:=m.form;have I:FL sm U ((Cu q rows).map ivQ):=Km m
  have O:=K9 q rows;have K:=Ez m
  refine Yw 4 31 V (Zu [_,_,_] Y call190 Y V (oq I A0 A0 af))<|F1<|Yw 5 63 V (Xw C3 _)<|F1<|Ao<|Zn [6] ?_;refine Zx<|AJ<|Ag<|Zt<|Cv rfl eC Y Wh (Av E3 C3 Wn (rfl)) (by exact ⟨.slice none 0 0,[],by rw [sX g X];rfl,by rw [sX g X];exact Bi 5 _,rfl⟩)
 refine A3<|Zv (CJ Y Y)<|B1 Y<|Zn [1,2,3,6,7,13,26] ?_;refine Zx<|Ap Y (fun Z=>?_) (fun Z=>?_);·
  refine Zq<|Bc<|Aw (n:=7) (0::0::3::0::7::31::63::[]) 116 AD AD V<|GB 0 V Wh (AA (cs:=#[_,_,_,_,_,_,_]) FG D4 Y B9 B2)<|A1 1 V (AQ Y)<|GB 3 V Wh (Pa #[_,_,_] E3 C3 Y)<|Zz (l:=[2])<|C0 [true,false] [(3,(_,_))] V rfl (Zw [_,_] Y call191 Y V (MZ hv q G A0)) ?_ Bz Am;rintro _ _ ⟨_,⟨sm,m,rfl⟩,rfl⟩;refine ⟨Zk (Ac),?_⟩;obtain ⟨U,cm,rfl⟩:=m.form;have I:FL sm U ((Cu q rows).map ivQ):=Km m
  have O:=K9 q rows;have K:=Ez m
  refine Zz (l:=[4])<|C0 [true] [(3,(_,_))] V rfl (Zw [_] Y call193 Y V (NF (.func (.func 194) #[] #[]) V rfl)) ?_ Bz Am;rintro _ _ ⟨_,⟨b9,rfl,rfl⟩,rfl⟩;refine CA<|Yw 5 63 V (Zu [_,_,_] Y call190 Y V (aG I A0 A0 b9 194 _ call194 fZ))<|F1<|Yw 6 127 V (Xw C3 _)<|F1<|Ao<|Zx<|AJ<|Ag<|Zt<|Cv V eC Y Wh (Av E3 C3 Wn (V)) (by
   have e8:=Vs (fun a b=>decide (a<b)) (Cu q rows) C8.none;exact ⟨.slice none 0 0,[],by rw [sL g Z];rfl,by rw [sL g Z];rw [show(EZ (fun a b=>decide (a<b)) (Cu q rows)).rows=[] from e8];exact Bi 5 _,rfl⟩)
 refine A3<|Zv (CJ Y Y)<|AH Y<|Ap Y (fun k6=>?_) (fun k6=>?_);·
  refine Zq<|Bc<|Aw (n:=7) (0::0::3::0::7::31::63::[]) 116 AD AD V<|GB 0 V Wh (AA (cs:=#[_,_,_,_,_,_,_]) FG D4 Y B9 B2)<|A1 1 V (AQ Y)<|GB 3 V Wh (Pa #[_,_,_] E3 C3 Y)<|Zz (l:=[2])<|C0 [true,false] [(3,(_,_))] V rfl (Zw [_,_] Y call191 Y V (MZ hv q G A0)) ?_ Bz Am;rintro _ _ ⟨_,⟨sm,m,rfl⟩,rfl⟩;refine ⟨Zk (Ac),?_⟩;obtain ⟨U,cm,rfl⟩:=m.form;have I:FL sm U ((Cu q rows).map ivQ):=Km m
  have O:=K9 q rows;have K:=Ez m
  refine Zz (l:=[4])<|C0 [true] [(3,(_,_))] V rfl (Zw [_] Y call193 Y V (NF (.func (.func 195) #[] #[]) V rfl)) ?_ Bz Am;rintro _ _ ⟨_,⟨b9,rfl,rfl⟩,rfl⟩;refine CA<|Yw 5 63 V (Zu [_,_,_] Y call190 Y V (aG I A0 A0 b9 195 _ call195 fV))<|F1<|Yw 6 127 V (Xw C3 _)<|F1<|Ao<|Zx<|AJ<|Ag<|Zt<|Cv V eC Y Wh (Av E3 C3 Wn (V)) (by
   have e8:=Vs (fun a b=>decide (b<a)) (Cu q rows) C8.none;exact ⟨.slice none 0 0,[],by rw [sE g k6];rfl,by rw [sE g k6];rw [show(EZ (fun a b=>decide (b<a)) (Cu q rows)).rows=[] from e8];exact Bi 5 _,rfl⟩)
 refine A3<|Zv (CJ Y Y)<|AH Y<|Ap Y (fun k7=>?_) (fun k7=>?_);·
  refine A3<|Zo Wh (AA (cs:=#[_,_,_,_,_,_,_]) FG D4 Y B9 B2)<|Zm Y<|Zm Y<|Zc [_,_,_] Y call196 Y V (Z9 hv ho q G A0) ?_;rintro _ _ ⟨_,⟨sj,J,rfl⟩,rfl⟩;obtain ⟨gj,cj,rfl⟩:=J.form;refine Zv (BM (vs:=[(0,_)]) (cs:=#[_,_,_]) Y (Aa (pl:=#[(0,1),(1,1),(2,1)]) HP E4 (fun _=>by kernel_rfl) rfl))<|Xe (BF C3 Y Y (by(simp [Value.oneCell',Value.cells];done)) Wu B2 Fm An (by exact BA _))<|A5<|AJ<|Ag<|Zt<|Cv rfl eC Y Wh (Av E3 C3 Wn (rfl)) (by exact ⟨.slice gj _ cj,sj,by rw [sC g k7];rfl,by rw [sC g k7];exact J,rfl⟩)
 refine AC<|A9<|Zx<|AN Y<|Zc [_] Y call97 Y V (Gi hv A0) ?_;rintro _ _ ⟨_,⟨sj,J,rfl⟩,rfl⟩;obtain ⟨gj,cj,rfl⟩:=J.form;refine Zv (BM (vs:=[(0,_)]) (cs:=#[_,_,_]) Y (Aa (pl:=#[(0,1),(1,1),(2,1)]) HP E4 (fun _=>by kernel_rfl) rfl))<|Xe (BF C3 Y Y (by(simp [Value.oneCell',Value.cells];done)) Wu B2 Fm An (by exact BA _))<|A5<|AJ<|Cv rfl eC Y Wh (Av E3 C3 Wn (rfl)) (by exact ⟨.slice gj _ cj,sj,by rw [sn g W X Z k6 k7];rfl,by rw [sn g W X Z k6 k7];exact J,rfl⟩)
theorem WQ(h:r.ok)(c:Int):-1000000000<=Bj r c/\Bj r c<=1000000000:=by
 obtain ⟨⟨g,h2,m⟩,G,I⟩:=h;unfold inV at g h2 m;unfold Bj;split;· omega
 · split
   · omega
   · split
     · omega
     · split<;>omega
variable{B:List A8}
theorem uJ{A:List A8}(hv:DV A v rows)(I:DV B vo others)(q:QM)(m:rows.length<=1000000000)(G:BG q->∀r∈rows,-1000000000<=Bj r q.bq/\Bj r q.bq<=1000000000):BQ prog 140 #[.agg q.A89,v,vo] [A,B] (fun w H'=>∃g s,w= .agg #[g,I0 (IP q rows others).val,.bool (IP q rows others).fnd]/\BX 5 61 g (IP q rows others).rows.length (Ad (IP q rows others).rows) s/\H'=[s,A,B]):=by
 refine Gz (mg (hv.mono (fun c hc=>Fc B hc)) (I.mono (fun c hc=>HC A hc)) q m G) B6 ?_;rintro r H' ⟨g,s,rfl,h,rfl⟩;exact ⟨_,⟨g,s,V,h,V⟩,by simp⟩
theorem jm(v:A2)(p:Int)(rs:List AU)(s:List A8)(hv:Qz v p rs s)(t c lo hi:Int)(hc:0<=c/\c<=3):BQ prog 82 #[v,I0 t,I0 c,I0 lo,I0 hi] [s] (fun r H'=>∃g,BX 5 61 r (Dv rs t c.toNat lo hi).length (Ad (Dv rs t c.toNat lo hi)) g/\H'=[g,s]):=by
 have h:=Y1 v p rs s hv t c.toNat lo hi A0;rwa [show((c.toNat:Nat):Int)=c by omega]at h
theorem S9{rs:List AU}{t:Int}{c:Nat}{lo hi:Int}:(Dv rs t c lo hi).length<=rs.length/\∀r∈Dv rs t c lo hi,r∈rs:=by
 have h:=ET rs t c lo hi;exact ⟨by rw [h.length_eq];exact RW _ _,fun r g=>(GP.1 (h.mem_iff.1 g)).1⟩
def KC(c:Chg)(x:AU):Bool:=decide (x.t=c.t)&&decide (x.k=c.k)
def L8(q:QM)(y x:AU):Bool:=decide (Bj y q.cl<Bj x q.cl)||(decide (Bj x q.cl=Bj y q.cl)&&decide (y.k<x.k))
def Qs(pd:AU->Bool)(rows:List AU)(y:AU):List AU:=rows.take ((rows.findIdx? pd).getD rows.length)++[y]++rows.drop ((rows.findIdx? pd).getD rows.length)
def EC(q:QM)(c:Chg)(rows:List AU):List AU:=match afQ q c with
 |some y=>Qs (L8 q y) (rows.filter fun x=>!KC c x) y
 |none=>rows.filter fun x=>!KC c x
def Ke(lt:Int->Int->Bool)(b a:Bool)(o n:Int)(r:C8):C8×Bool:=
 if b&&(!r.fnd||!lt r.val o)then(⟨r.rows,n,r.fnd⟩,(a&&r.fnd)&&!lt r.val n)
 else if a then(⟨r.rows,if !r.fnd||lt n r.val then n else r.val,true⟩,true)else(r,true)
theorem u6(g:AU->Bool)(rows:List AU)(y:AU):(Qs g rows y).length=rows.length+1:=by
 unfold Qs;simp only [C2,Cl,D0,G0];omega
theorem UG(q:QM)(c:Chg)(rows:List AU):(EC q c rows).length<=rows.length+1:=by
 have h:=RW (fun x=>!KC c x) rows;unfold EC;split;· rw [u6];omega
 · omega
theorem Me(lt:Int->Int->Bool)(b a:Bool)(o n:Int)(r:C8):(Ke lt b a o n r).1.rows=r.rows:=by
 unfold Ke;split;· rfl
 · split<;>rfl
theorem gJ{P:Program}{f:FuncId}{args:AM}{H:Hp}{Q:A2->Hp->Prop}(h:BQ P f args H Q)(F:Hp):BQ P f args (H++F) (fun v H'=>∃H1,Q v H1/\H'=H1++F):=fun u R w G=>
 Calls.mono (h u (F++R) w (by rw [<-DG];exact G)) fun e I m=>by
  rcases m with⟨v,H',rfl,g,h2⟩|⟨ch,H',rfl,g,h2⟩
  · exact .inl ⟨v,H'++F,rfl,⟨H',g,rfl⟩,by rw [DG];exact h2⟩
  · exact g.elim
theorem y8(g:AU->Bool)(rows:List AU):(Qu g rows<0/\(rows.findIdx? g).getD rows.length=rows.length)\/∃i:Nat,i<=rows.length/\Qu g rows=(i:Int)/\(rows.findIdx? g).getD rows.length=i:=by
 unfold Qu;cases h:rows.findIdx? g with
 |none=>exact .inl ⟨by simp,rfl⟩
 |some i=>
  obtain ⟨m,_,_⟩:=cH.1 h;exact .inr ⟨i,by omega,V,V⟩
theorem kT(q:QM)(c:Chg)(G I:B8)(o n:Int)(x:AU)(g:Nat):Az prog 248 #[.agg x.A88,I1 g] [[(g,.cells (q.HH c G I o n) 259 (0,0))]] (.bool (KC c x)):=by
 refine Se func248 ntmps248 [0,1] ?_;intro u R;refine A3<|Ze (Bx #[_,_,_,_,_])<|AF fun J=>AH Y<|A3<|Zh 0 H3 V rfl A6 Y<|Zl AE Y<|Zh 7 Fl V rfl Cd Y<|Zv (Ai (off:=0) CC V rfl A6 Y)<|Zl AE Y<|Zv (CJ Y Y)<|Zm Y<|Ae (t:=10) Y V (fun m=>?_) (fun m=>?_);focus
  refine Yf 1 H3 V rfl A6 Y<|Yl AE Y<|Yf 7 Fl V rfl Cd Y<|Yg (Ai (off:=1) CC V rfl A6 Y)<|Yl AE Y<|Yg (CJ Y Y)<|Zv (AL Y Y) ?_
 rotate_left
 focus
  refine AG<|AG<|AG<|Zv (AO Y Y) ?_
 all_goals
  refine B1 Y<|Zn [3] ?_;refine Zx<|AJ<|AX V results248 Y (by exact ⟨by simp [KC,m],V⟩)
theorem WL{A:List A8}(hv:DV A v rows)(hn:rows.length<=1000000000)(g:Nat)(us:List A2)(m:AU->Bool)(G:∀(args:AM) (w:A4),(callFunc g args).run prog w= .ok (.enter g args) w)(J:∀x:AU,Az prog g (.agg x.A88::us).toArray [B] (.bool (m x))):BQ prog 247 #[v,.func (.func g) #[] us.toArray] [A,B] (fun r H'=>∃s,BX 5 61 r (rows.filter fun x=>!m x).length (Ad (rows.filter fun x=>!m x)) s/\H'=[s,A,B]):=by
 obtain ⟨p,cap,rfl,_⟩:=id hv;refine Se func247 ntmps247 [0,1] ?_;intro u R;refine A3<|AH Y<|AN Y<|Zc [_] Y call97 Y V (Gi hv A0) ?_;rintro _ _ ⟨_,⟨s1,I,rfl⟩,rfl⟩;obtain ⟨U,K,rfl⟩:=I.form;refine Zm Y<|Zc [_,_] Y call282 Y V (aR I hn g us m G J) ?_;rintro _ _ ⟨_,⟨s2,h2,rfl⟩,rfl⟩;obtain ⟨W,O,rfl⟩:=h2.form;refine Ax Y<|AX V results247 Y (by exact ⟨_,h2,V⟩)
theorem UR(G:BX 5 61 v rows.length (Ad rows) s)(hn:rows.length<=1000000000)(y:AU)(g:Nat)(us:List A2)(I:AU->Bool)(U:∀(args:AM) (w:A4),(callFunc g args).run prog w= .ok (.enter g args) w)(hf:∀x:AU,Az prog g (.agg x.A88::us).toArray [B] (.bool (I x))):BQ prog 249 #[v,.agg y.A88,.func (.func g) #[] us.toArray] [s,B] (fun r H'=>∃X s2,BX 5 61 r (Qs I rows y).length (Ad (Qs I rows y)) X/\H'=[X,s2,B]):=by
 have af:=mL;obtain ⟨p,cap,rfl⟩:=G.form;have hU:=Db G A0
 refine Se func249 ntmps249 [0,1,2] ?_;intro u R;refine A3<|Ze (Bx #[_,_,_,_,_])<|AF fun bx=>AH Y<|AN Y<|Zm Y<|Xr [_,_] Y call126 Y V (TI hU g us I U hf) ?_;obtain ⟨z9,O⟩:∃z,z=Qu I rows:=⟨_,rfl⟩;rw [<-O];have m:=y8 I rows
 rw [<-O]at m;refine AH Y<|Zb [7,0,4] ?_;refine Ch (e0:=[(7,_)]) (H0:=[]) (fun e H=>∃(i:Nat),(i<=rows.length/\(rows.findIdx? I).getD rows.length=i)/\e=[(7,I0 (i:Int))]/\H=[]) Wp ?hx_1 ?hy_1
 case hx_1=>
  refine AN Y<|Zv (Dz Y Y)<|A5<|Ap Y (fun K=>?_) (fun K=>?_);·
   refine Zg<|Zm Y<|Zv (AR C1 Y)<|B1 Y<|HM (e:=[(7,_)]) (h:=by exact ⟨rows.length,⟨CT _,by rcases m with⟨_,h⟩|⟨i,h1,h2,J⟩;exact h;omega⟩,rfl,rfl⟩)
  rcases m with⟨h9,_⟩|⟨i,h1,h2,J⟩
  · exact absurd h9 K
  subst h2;refine AC<|Hx (by exact ⟨i,⟨h1,J⟩,V,V⟩)
 rintro _ _ ⟨i,⟨hi,W⟩,rfl,rfl⟩;refine AN Y<|Zm Y<|Zo Wh (Pa #[_,_,_,_,_] DE B3 Y)<|Ze (Ah (vs:=[_]) (cs:=[_,_,_,_,_]) C1 B3 G1 Y V rfl V rfl V)<|AF fun Z=>Zc [_,_,_] Y call283 Y V (ZJ G hn i hi y Z) ?_;rintro _ _ ⟨_,⟨s3,s4,J,rfl⟩,rfl⟩;obtain ⟨g3,c3,rfl⟩:=J.form;refine Ax Y<|AX rfl results249 Y (by exact ⟨_,s4,by unfold Qs;rw [W];exact J,rfl⟩)
theorem Xb(q:QM)(G:0<=q.cl/\q.cl<=3)(c:Chg)(J:B8)(o n:Int)(y:AU)(g:Nat):BQ prog 250 #[.agg #[I0 q.kd,I0 q.tb,I0 q.cl,I0 q.lo,I0 q.hi,I0 q.bq,I0 q.ot,I0 c.t,I0 c.k,.bool c.had,I0 c.o.a,I0 c.o.b,I0 c.o.c,.bool c.has,I0 c.n.a,I0 c.n.b,I0 c.n.c,.pointer J,I1 g,I0 o,I0 n]] [[(g,.cells y.A88 61 (0,0))]] (fun r H'=>∃I m,r= .func (.func 284) #[] #[I1 I,I1 m]/\H'=[[(I,.cells #[I0 q.kd,I0 q.tb,I0 q.cl,I0 q.lo,I0 q.hi,I0 q.bq,I0 q.ot,I0 c.t,I0 c.k,.bool c.had,I0 c.o.a,I0 c.o.b,I0 c.o.c,.bool c.has,I0 c.n.a,I0 c.n.b,I0 c.n.c,.pointer J,I1 g,I0 o,I0 n] 259 (0,0))],[(m,.cells #[I0 (Bj y q.cl)] 3 (0,0))],[(g,.cells y.A88 61 (0,0))]]):=by
 refine Se func250 ntmps250 [0] ?_;intro u R;refine A3<|Ze (FN Y (cs:=#[I0 q.kd,I0 q.tb,I0 q.cl,I0 q.lo,I0 q.hi,I0 q.bq,I0 q.ot,I0 c.t,I0 c.k,.bool c.had,I0 c.o.a,I0 c.o.b,I0 c.o.c,.bool c.has,I0 c.n.a,I0 c.n.b,I0 c.n.c,.pointer J,I1 g,I0 o,I0 n]) (GD q c J (some ⟨g,0,none⟩) o n))<|AF fun I=>D2 Y<|Aw (n:=10) (0::1::3::7::0::16::48::127::0::511::[]) 896 AD AD V<|A1 0 V (AB (off:=18) Fl V rfl NO Y)<|Bk 1 V RM Y ?_;refine A1 2 V (Aq Y V)<|GB 3 V Wh (AA (cs:=#[_,_,_,_,_]) DE B3 Y B9 B2) ?_;refine A1 4 V (AB (off:=0) Fl V rfl D4 Y)<|A1 5 V (Ai (off:=2) DB V rfl A6 Y)<|Bk 6 V AE Y ?_;refine Zz (l:=[7,8])<|C0 [false,false,false] [] V rfl (Zu [_,_] Y UP Y V (G5 y q.cl G)) ?hk_1 (fun _ _ h=>h.elim) ?hl_1
 case' hk_1=>
  rintro _ _ ⟨rfl,rfl⟩;refine CA<|Yz 8 0 511 [] [] [] V Y V rfl V rfl (Al HX #[_]) ?_;rintro _ _ ⟨m,rfl,rfl⟩
 case' hl_1=>
  refine C0 [true,true,true] [(6,(_,_)),(3,(_,_)),(1,(_,_))] V rfl (Al HX #[_]) ?hk_5 (fun _ _ h=>h.elim) ?hl_5
  case' hk_5=>
   rintro _ _ ⟨m,rfl,rfl⟩;refine CA<|Yz 7 127 511 [6,3,1] [false,false,false] [] V Y V rfl V rfl (Zu [_,_] Y UP Y V (G5 y q.cl G)) ?_;rintro _ _ ⟨rfl,rfl⟩
  case' hl_5=>
   exact Am
 all_goals
  refine CA<|Yw 9 1023 V (Zs A6 Y Y V (hi:=by decide))<|F1<|Ao<|CD<|Zv (Bg (vs:=[]) (us:=[_,_]) Y Y)<|B1 Y<|Zn [2] ?_;refine Zx<|AJ<|AX V results250 Y (by exact ⟨I,m,V,V⟩)
theorem ny(q:QM)(m:0<=q.cl/\q.cl<=3)(c:Chg)(K:B8)(o n:Int)(y:AU)(G I J:Nat)(x:AU):Az prog 284 #[.agg x.A88,I1 I,I1 J] [[(I,.cells #[I0 q.kd,I0 q.tb,I0 q.cl,I0 q.lo,I0 q.hi,I0 q.bq,I0 q.ot,I0 c.t,I0 c.k,.bool c.had,I0 c.o.a,I0 c.o.b,I0 c.o.c,.bool c.has,I0 c.n.a,I0 c.n.b,I0 c.n.c,.pointer K,I1 G,I0 o,I0 n] 259 (0,0))],[(J,.cells #[I0 (Bj y q.cl)] 3 (0,0))],[(G,.cells y.A88 61 (0,0))]] (.bool (L8 q y x)):=by
 refine Se func284 ntmps284 [0,1,2] ?_;intro u R;refine A3<|Ze (Bx #[_,_,_,_,_])<|AF fun O=>AH Y<|A3<|Zo Wh (AA (cs:=#[_,_,_,_,_]) DE B3 Y B9 B2)<|Zh 0 Fl V rfl D4 Y<|Zv (Ai (off:=2) DB V rfl A6 Y)<|Zl AE Y<|Xr [_,_] Y UP Y V (G5 x q.cl m)<|D2 Y<|Aw (n:=19) (0::0::3::7::15::15::63::127::255::511::255::1279::3327::7423::15615::32767::65535::131071::262143::[]) 0 AD AD V<|A1 0 V (AQ Y)<|Bk 1 V AE Y<|A1 2 V (Ev Y Y)<|A1 3 V (AQ Y)<|Dh (t:=14) Y (fun g=>?_) (fun g=>?_);focus
  rw [DO g];refine AW 4 V<|AW 5 V<|AW 6 V<|AW 7 V<|AW 8 V<|AW 9 V<|AW 10 V<|AW 11 V<|AW 12 V<|AW 13 V<|AW 14 V<|AW 15 V<|AW 16 V<|A1 17 V (AL Y Y) ?_
 rotate_left
 focus
  rw [F0 g];refine B5 4 V (AQ Y)<|Fk 5 V Wh (BL AE Y B2)<|B5 6 V (CJ Y Y)<|B5 7 V (AQ Y)<|Dh (t:=18) Y (fun h2=>?_) (fun h2=>?_);focus
   rw [DO h2];refine B5 8 V (AB (off:=1) H3 V rfl A6 Y)<|Fk 9 V Wh (BL AE Y B2)<|B5 10 V (AB (off:=18) Fl V rfl NO Y)<|Fk 11 V Wh (BL RM Y B2)<|B5 12 V (Aq Y V)<|B5 13 V (AB (off:=1) H3 V rfl A6 Y)<|Fk 14 V Wh (BL AE Y B2)<|B5 15 V (Ev Y Y)<|B5 16 V (AL Y Y)<|A1 17 V (AO Y Y) ?_
  rotate_left
  focus
   rw [F0 h2];refine AW 8 V<|AW 9 V<|AW 10 V<|AW 11 V<|AW 12 V<|AW 13 V<|AW 14 V<|AW 15 V<|B5 16 V (AO Y Y)<|A1 17 V (AO Y Y) ?_
 all_goals
  refine A1 18 V (BI Y)<|Ao<|Zn [4] ?_;refine Zx<|AJ<|AX V results284 Y (by exact ⟨by simp [L8, *],V⟩)
theorem Qj(q:QM)(I:0<=q.cl/\q.cl<=3)(c:Chg)(J:B8)(o n:Int)(y:AU)(g:Nat):BQ prog 250 #[.agg #[I0 q.kd,I0 q.tb,I0 q.cl,I0 q.lo,I0 q.hi,I0 q.bq,I0 q.ot,I0 c.t,I0 c.k,.bool c.had,I0 c.o.a,I0 c.o.b,I0 c.o.c,.bool c.has,I0 c.n.a,I0 c.n.b,I0 c.n.c,.pointer J,I1 g,I0 o,I0 n]] [[(g,.cells y.A88 61 (0,0))]] (fun r H'=>∃m G,r= .func (.func 284) #[] ([I1 m,I1 G]:List A2).toArray/\H'=[[(m,.cells #[I0 q.kd,I0 q.tb,I0 q.cl,I0 q.lo,I0 q.hi,I0 q.bq,I0 q.ot,I0 c.t,I0 c.k,.bool c.had,I0 c.o.a,I0 c.o.b,I0 c.o.c,.bool c.has,I0 c.n.a,I0 c.n.b,I0 c.n.c,.pointer J,I1 g,I0 o,I0 n] 259 (0,0))]++[(G,.cells #[I0 (Bj y q.cl)] 3 (0,0))]++[(g,.cells y.A88 61 (0,0))]]):=by
 refine Gz (Xb q I c J o n y g) V ?_;rintro r H' ⟨m,G,rfl,rfl⟩;exact ⟨_,⟨m,G,V,V⟩,by simp⟩
theorem ag(q:QM)(I:0<=q.cl/\q.cl<=3)(c:Chg)(J:B8)(o n:Int)(y:AU)(g m G:Nat)(x:AU):Az prog 284 (.agg x.A88::([I1 m,I1 G]:List A2)).toArray [[(m,.cells #[I0 q.kd,I0 q.tb,I0 q.cl,I0 q.lo,I0 q.hi,I0 q.bq,I0 q.ot,I0 c.t,I0 c.k,.bool c.had,I0 c.o.a,I0 c.o.b,I0 c.o.c,.bool c.has,I0 c.n.a,I0 c.n.b,I0 c.n.c,.pointer J,I1 g,I0 o,I0 n] 259 (0,0))]++[(G,.cells #[I0 (Bj y q.cl)] 3 (0,0))]++[(g,.cells y.A88 61 (0,0))]] (.bool (L8 q y x)):=by
 refine Gz (ny q I c J o n y g m G x) V ?_;rintro r H' ⟨rfl,rfl⟩;exact ⟨_,⟨V,V⟩,by simp⟩
set_option maxHeartbeats 1000000 in
theorem dI(q:QM)(c:Chg)(g m:B8)(o n:Int)(G:0<=q.cl/\q.cl<=3){r:C8}{rv:A2}{sr:List A8}(hr:BX 5 61 rv r.rows.length (Ad r.rows) sr)(hn:r.rows.length<=100000000){s2:List A8}(h2:Ib m (afQ q c) s2):BQ prog 201 #[.agg (q.HH c g m o n),.agg #[rv,I0 r.val,.bool r.fnd]] [sr,s2] (fun w H'=>∃I s',w= .tuple #[.agg #[I,I0 r.val,.bool r.fnd],.bool true]/\BX 5 61 I (EC q c r.rows).length (Ad (EC q c r.rows)) s'/\H'=[s']):=by
 have ax:=mL;obtain ⟨pv,cv,rfl⟩:=hr.form;have hU:=Db hr A0
 have af:(r.rows.filter fun x=>!KC c x).length<=r.rows.length:=RW _ _;refine Se func201 ntmps201 [0,1] ?_;intro u R;refine A3<|Ze (FN Y (cs:=(q.HH c g m o n)) (GD q c g m o n))<|AF fun O=>Ze (Bx #[.slice pv r.rows.length cv,I0 r.val,.bool r.fnd])<|AF fun br=>Ze (Al HP #[_,_,_])<|AF fun b3=>AH Y<|A3<|Zh 0 E4 V rfl DH Y<|Zl GS Y ?_;refine Zv (Bg (vs:=[]) (us:=[_]) Y Y)<|Zc [_,_] Y call247 Y V (WL (B:=[(O,.cells (q.HH c g m o n) 259 (0,0))]) hU A0 248 [I1 O] (KC c) call248 (fun x=>kT q c g m o n x O)) ?_;rintro _ _ ⟨_,⟨s3,U,rfl⟩,rfl⟩;obtain ⟨g3,c3,rfl⟩:=U.form;refine Zh 0 E4 V rfl DH Y<|Xe (Zs DH Y Y V (hi:=by(simp;done))) ?_;refine A5<|Zb [2,3,4] ?_;refine Ch (e0:=[(2,_)]) (H0:=[[(br,.cells #[.slice g3 (r.rows.filter fun x=>!KC c x).length c3,I0 r.val,.bool r.fnd] 50 (0,0))],s3,s2]) (fun e H=>∃(w:A2) (J:List A8),(BX 5 61 w (EC q c r.rows).length (Ad (EC q c r.rows)) J)/\e=[]/\H=[[(br,.cells #[w,I0 r.val,.bool r.fnd] 50 (0,0))],J]) Wp ?hx_1 ?hy_1
 case hx_1=>
  refine A3<|Zh 18 Fl V rfl NO Y<|Zl RM Y ?_;refine Zv (Fp Wc Y Y)<|A5<|AY Y (fun W=>?_) (fun W=>?_);·
   obtain ⟨y,hy⟩:∃y,afQ q c=some y:=kB.1 (by rw [<-h2.some_];exact W);rw [hy]at h2;obtain ⟨K,rfl,rfl⟩:=h2;refine Aw (n:=11) (0::1::0::4::12::28::0::64::255::511::1023::[]) 1408 AD AD V<|A1 0 V (AB (off:=0) E4 V rfl DH Y)<|Bk 1 V GS Y ?_;refine A1 2 V (AB (off:=18) Fl V rfl NO Y)<|Bk 3 V RM Y ?_;refine A1 4 V (Aq Y V)<|CS (b:=K) (x:= .cells y.A88 61 (0,0)) (D':=63) 5 V rfl V B6 (Pa y.A88 DE B3 Y) ?_;refine GB 6 V Wh (AA cn cA Y B9 (by exact Au V)) ?_;refine Zz (l:=[7])<|C0 [false,true,true,true] [(5,(_,_)),(3,(_,_)),(1,(_,_))] V rfl (Zw [_] Y call250 Y V (Qj q G c g o n y K)) ?_ Bz Am;rintro _ _ ⟨_,⟨X,Z,rfl,rfl⟩,rfl⟩;refine ⟨Fs (by simp [*]) (Zk (Zk (Ac))),?_⟩;refine Zz (l:=[8])<|C0 [false,false,false] [] V rfl (Zw [_,_,_] Y call249 Y V (UR U A0 y 284 [I1 X,I1 Z] (L8 q y) call284 (fun x=>ag q G c g o n y K X Z x))) ?_ Bz Am;rintro _ _ ⟨_,⟨s5,s6,h5,rfl⟩,rfl⟩;refine ⟨Ac,?_⟩;obtain ⟨g5,c5,rfl⟩:=h5.form;refine A1 9 V (AB (off:=0) E4 V rfl DH Y)<|Zz (l:=[10])<|C0 [] [] V rfl (Zs DH Y Y V (hi:=by(simp;done))) ?_ (fun _ _ h=>h.elim) Am;rintro _ _ ⟨rfl,rfl⟩;refine CA<|Ao<|HM (e:=[]) (h:=by exact ⟨_,s5,by unfold EC;rw [hy];exact h5,rfl,rfl⟩)
  have hy:afQ q c=none:=by have h9:=h2.some_;rw [W]at h9;exact tI.1 (by rw [<-h9];decide)
  refine AC<|HM (e:=[]) (h:=by exact ⟨_,s3,by unfold EC;rw [hy];exact U,rfl,rfl⟩)
 rintro _ _ ⟨w,J,h4,rfl,rfl⟩;obtain ⟨p4,c4,rfl⟩:=h4.form;refine A3<|Zo Wh (AA (cs:=#[_,_,_]) E3 C3 Y B9 (by exact Au V)) ?_;refine Xe (BF C3 Y Y HT Wu (by exact D9 rfl) Fm An (by exact BA _)) ?_;refine Ax Y<|CP V results201 Y Wh (Av E3 C3 Wn (V)) Y (by exact ⟨_,J,V,h4,V⟩)
theorem YU(q:QM)(c:Chg)(I g:B8)(o n:Int){r:C8}(J:B8)(G m:Nat)(hv:-4000000000000000000<=r.val/\r.val<=4000000000000000000):Az prog 203 #[.agg (q.HH c I g o n),.agg #[.slice J G m,I0 r.val,.bool r.fnd]] [] (.tuple #[.agg #[.slice J G m,I0 (if g.isSome then r.val+1 else r.val -1),.bool r.fnd],.bool true]):=by
 refine Se func203 ntmps203 [0,1] ?_;intro u R;refine A3<|Ze (FN Y (cs:=(q.HH c I g o n)) (GD q c I g o n))<|AF fun U=>Ze (Bx #[.slice J G m,I0 r.val,.bool r.fnd])<|AF fun W=>Ze (Al HP #[_,_,_])<|AF fun O=>D2 Y<|A3<|Zh 18 Fl V rfl NO Y<|Zl RM Y ?_;refine Zv (Fp Wc Y Y)<|A5<|AY Y (fun K=>?_) (fun K=>?_);focus
  refine Zg<|Zh 1 E4 V rfl A6 Y<|Zl AE Y ?_;refine Yi Y Y ?_
 rotate_left
 focus
  refine Zg<|Zh 1 E4 V rfl A6 Y<|Zl AE Y ?_
  (refine Ba (Gu Y Y (IntWalk.i64_in _ ?_)) ?_;(focus (omega)))
 all_goals
  refine Zh 1 E4 V rfl A6 Y<|Xe (Zs A6 Y Y V (hi:=by(simp;done))) ?_;refine A5<|A3<|Zo Wh (AA (cs:=#[_,_,_]) E3 C3 Y B9 B2) ?_;refine Xe (Xw C3 _) ?_;refine B1 Y<|Zn [4,5] ?_;refine Zx<|AJ<|CP rfl results203 Y Wh (Av E3 C3 Wn (rfl)) Y (by exact ⟨by rw [K];rfl,rfl⟩)
theorem kN(q:QM)(c:Chg)(G I:B8)(o n:Int){r:C8}(J:B8)(m g:Nat)(hv:-4000000000000000000<=r.val/\r.val<=4000000000000000000)(W:(-1000000000<=o/\o<=1000000000)/\-1000000000<=n/\n<=1000000000):Az prog 205 #[.agg (q.HH c G I o n),.agg #[.slice J m g,I0 r.val,.bool r.fnd]] [] (.tuple #[.agg #[.slice J m g,I0 (r.val+(n -o)),.bool r.fnd],.bool true]):=by
 refine Se func205 ntmps205 [0,1] ?_;intro u R;refine A3<|Ze (FN Y (cs:=(q.HH c G I o n)) (GD q c G I o n))<|AF fun O=>Ze (Bx #[.slice J m g,I0 r.val,.bool r.fnd])<|AF fun U=>Ze (Al HP #[_,_,_])<|AF fun K=>AH Y<|A3<|Zh 1 E4 V rfl A6 Y<|Zl AE Y ?_;refine Zh 20 Fl V rfl A6 Y<|Zl AE Y ?_;refine Zh 19 Fl V rfl A6 Y<|Zl AE Y ?_
 (refine Ba (Gu Y Y (IntWalk.i64_in _ ?_)) ?_;(focus (omega)))
 refine Yi Y Y<|Zh 1 E4 V rfl A6 Y<|Xe (Zs A6 Y Y V (hi:=by(simp;done))) ?_;refine Z0<|Zn [3,4] ?_;refine CD<|Zo Wh (AA (cs:=#[_,_,_]) E3 C3 Y B9 B2) ?_;refine Xe (Xw C3 _) ?_;refine Ax Y<|CP V results205 Y Wh (Av E3 C3 Wn (V)) Y (by exact ⟨V,V⟩)
end Go.Proofs.YtelliknjeemfoaaGreatDoor
