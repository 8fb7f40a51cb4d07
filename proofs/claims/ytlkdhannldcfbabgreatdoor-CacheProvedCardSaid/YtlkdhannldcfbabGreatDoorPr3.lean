/- predicate.kinds, Touches. -/
import Derived.Test.YtlkdhannldcfbabGreatDoorQe3
set_option linter.unusedVariables false
set_option linter.unusedSimpArgs false
namespace Go.Proofs.YtlkdhannldcfbabGreatDoor
open Go.Proofs.Tryz
open Go Go.RowKit Gw
set_option maxRecDepth 100000
attribute [local irreducible] Gw.At Gw.Nx Gw.Ops
def Mm(b5 b6:Nat):List (Int×A2):=[(1,.agg #[.func (.func 250) #[] #[],.func (.func 251) #[] #[]]),(2,.agg #[.func (.func 250) #[] #[],.func (.func 251) #[] #[]]),(3,.agg #[.func (.func 252) #[] #[],.func (.func 253) #[] #[]]),(4,.agg #[.func (.func 254) #[] #[],.func (.func 255) #[] #[]]),(5,.agg #[.func (.func 256) #[] #[],.func (.func 299) #[] #[I5 b5]]),(6,.agg #[.func (.func 259) #[] #[],.func (.func 299) #[] #[I5 b6]]),(7,.agg #[.func (.func 261) #[] #[],.func (.func 262) #[] #[]])]
variable{lm:List (Int×A2)}{k:Int}{v:A2}
theorem bM{g m:Nat}(h:∀p,p∈lm↔p∈Mm g m)(hn:(lm.map (·.1)).Nodup)(G:(k,v)∈Mm g m):EM k lm=some v:=D8 hn ((h _).2 G)
def I9(k:Int):Nat:=if k=1 then 250 else if k=2 then 250 else if k=3 then 252 else if k=4 then 254 else if k=5 then 256 else if k=6 then 259 else 261
theorem A74{g m:Nat}(h:∀p,p∈lm↔p∈Mm g m)(hn:(lm.map (·.1)).Nodup)(G:1<=k/\k<=7):∃pf,EM k lm=some (.agg #[.func (.func (I9 k)) #[] #[],pf]):=by
 obtain h9|h9|h9|h9|h9|h9|h9:k=1\/k=2\/k=3\/k=4\/k=5\/k=6\/k=7:=by omega
 all_goals subst h9
 all_goals exact ⟨_,bM h hn (by simp [Mm,I9];rfl)⟩
theorem Q4(v:A2)(g:v.oneCell'=true)(hc:v.cells=#[v]):BS prog 257 #[v] [] (fun r H'=>∃b,r= .func (.func 299) #[] #[I5 b]/\H'=[[(b,.cells #[v] 286 (0,0))]]):=by
 refine Se func257 ntmps257 [0] ?_;intro u R;refine A3<|Ze (Fu Y (cs:=#[v]) hc)<|AF fun b=>AH Y<|A3<|Zv (Be (vs:=[]) (us:=[_]) Y Y)<|An Y<|AO V results257 Y (by exact ⟨b,V,V⟩)
theorem OX:BS prog 183 #[] [] (fun v H'=>∃b es ck lm g m,v= .map (some b)/\Co (fun k:Int=>I4 k) es ck lm/\(∀p,p∈lm↔p∈Mm g m)/\H'=[[(b,.map es ck)],[(g,.cells #[.func (.func 258) #[] #[]] 286 (0,0))],[(m,.cells #[.func (.func 260) #[] #[]] 286 (0,0))]]):=by
 refine Se func183 ntmps183 [] ?_;intro u R;refine A3<|AH Y<|A3<|Ze (DV)<|AF fun mb=>Zv (BN (vs:=[(0,.func (.func 250) #[] #[]),(1,.func (.func 251) #[] #[])]) (cs:=#[.func (.func 250) #[] #[],.func (.func 251) #[] #[]]) Y (Aa (pl:=#[(0,1),(1,1)]) bj aE (fun _=>by kernel_rfl) AD))<|Ze (EH IJ ab (EU _) (fun _ _=>trivial) (trivial) Y Y Y Wo) ?_;rintro _ _ ⟨rfl,kv,gq,p8,J,af,rfl⟩;refine Zv (BN (vs:=[(0,.func (.func 250) #[] #[]),(1,.func (.func 251) #[] #[])]) (cs:=#[.func (.func 250) #[] #[],.func (.func 251) #[] #[]]) Y (Aa (pl:=#[(0,1),(1,1)]) bj aE (fun _=>by kernel_rfl) AD))<|Ze (EH IJ ab J (fun _ _=>trivial) (trivial) Y Y Y Wo) ?_;rintro _ _ ⟨rfl,l5,gy,p9,K,ax,rfl⟩;refine Zv (BN (vs:=[(0,.func (.func 252) #[] #[]),(1,.func (.func 253) #[] #[])]) (cs:=#[.func (.func 252) #[] #[],.func (.func 253) #[] #[]]) Y (Aa (pl:=#[(0,1),(1,1)]) bj aE (fun _=>by kernel_rfl) AD))<|Ze (EH IJ ab K (fun _ _=>trivial) (trivial) Y Y Y Wo) ?_;rintro _ _ ⟨rfl,l8,gQ,pg,O,bn,rfl⟩;refine Zv (BN (vs:=[(0,.func (.func 254) #[] #[]),(1,.func (.func 255) #[] #[])]) (cs:=#[.func (.func 254) #[] #[],.func (.func 255) #[] #[]]) Y (Aa (pl:=#[(0,1),(1,1)]) bj aE (fun _=>by kernel_rfl) AD))<|Ze (EH IJ ab O (fun _ _=>trivial) (trivial) Y Y Y Wo) ?_;rintro _ _ ⟨rfl,l9,ic,pq,U,cu,rfl⟩;refine Zc [_] Y call257 Y V (Q4 (.func (.func 258) #[] #[]) V rfl) ?_;rintro _ _ ⟨_,⟨g,rfl,rfl⟩,rfl⟩;refine Zv (BN (vs:=[(0,.func (.func 256) #[] #[]),(1,.func (.func 299) #[] #[I5 g])]) (cs:=#[.func (.func 256) #[] #[],.func (.func 299) #[] #[I5 g]]) Y (Aa (pl:=#[(0,1),(1,1)]) bj aE (fun _=>by kernel_rfl) AD))<|Ze (EH IJ ab U (fun _ _=>trivial) (trivial) Y Y Y Wo) ?_;rintro _ _ ⟨rfl,o8,j3,pz,W,cO,rfl⟩;refine Zc [_] Y call257 Y V (Q4 (.func (.func 260) #[] #[]) V rfl) ?_;rintro _ _ ⟨_,⟨m,rfl,rfl⟩,rfl⟩
 refine Zv (BN (vs:=[(0,.func (.func 259) #[] #[]),(1,.func (.func 299) #[] #[I5 m])]) (cs:=#[.func (.func 259) #[] #[],.func (.func 299) #[] #[I5 m]]) Y (Aa (pl:=#[(0,1),(1,1)]) bj aE (fun _=>by kernel_rfl) AD))<|Ze (EH IJ ab W (fun _ _=>trivial) (trivial) Y Y Y Wo) ?_;rintro _ _ ⟨rfl,o9,j5,q9,X,d9,rfl⟩;refine Zv (BN (vs:=[(0,.func (.func 261) #[] #[]),(1,.func (.func 262) #[] #[])]) (cs:=#[.func (.func 261) #[] #[],.func (.func 262) #[] #[]]) Y (Aa (pl:=#[(0,1),(1,1)]) bj aE (fun _=>by kernel_rfl) AD))<|Ze (EH IJ ab X (fun _ _=>trivial) (trivial) Y Y Y Wo) ?_;rintro _ _ ⟨rfl,I,G,gm,Z,ek,rfl⟩;refine Zm Y<|B2 Y<|Zn [0] ?_;refine Zx<|AL<|AO V results183 Y (by
  refine ⟨mb,I,G,gm,g,m,V,Z,fun p=>?_,V⟩;rw [ek,d9,cO,cu,bn,ax,af];simp only [Mm,DS,PA,PF,false_and];constructor;· rintro (rfl|⟨rfl|⟨rfl|⟨rfl|⟨rfl|⟨rfl|⟨rfl,-⟩,-⟩,-⟩,-⟩,-⟩,-⟩)<;>simp
  · rintro (h|h|h|h|h|h|h)<;>subst h<;>simp)
theorem jM(q:QM)(c:Chg)(Z:BH q){g m:BE}{s1 s2:List A8}(U:J2 g (bfQ q c) s1)(h2:J2 m (afQ q c) s2):Au prog (I9 q.kd) #[.agg (q.HL c g m (mQ q (bfQ q c)) (mQ q (afQ q c)))] [] (.bool (Ct q c)):=by
 have e1:=U.some_;have e2:=h2.some_
 have X:q.kd=1\/q.kd=2\/q.kd=3\/q.kd=4\/q.kd=5\/q.kd=6\/q.kd=7:=by have:=Z.2.2.2;omega
 have G:=eu q c g m (mQ q (bfQ q c)) (mQ q (afQ q c));have O:=UH q c g m (mQ q (bfQ q c)) (mQ q (afQ q c))
 have W:=w4 q c g m (mQ q (bfQ q c)) (mQ q (afQ q c));have I:=vv q c g m (mQ q (bfQ q c)) (mQ q (afQ q c))
 have J:=vu q c g m (mQ q (bfQ q c)) (mQ q (afQ q c));have K:=vq q c g m (mQ q (bfQ q c)) (mQ q (afQ q c))
 rw [e1,e2]at G O I J K;rcases X with h|h|h|h|h|h|h
 · rw [show I9 q.kd=250 by rw [h];rfl,show Ct q c=Ou q c by unfold Ct;rw [Ax A0]];exact G
 · rw [show I9 q.kd=250 by rw [h];rfl,show Ct q c=Ou q c by unfold Ct;rw [Ax A0]];exact G
 · rw [show I9 q.kd=252 by rw [h];rfl,show Ct q c=VU q c by unfold Ct;rw [As A0,Ax A0]];exact O
 · rw [show I9 q.kd=254 by rw [h];rfl,show Ct q c=decide (mQ q (bfQ q c)≠mQ q (afQ q c)) by unfold Ct;rw [As A0,As A0,Ax A0]];exact W
 · rw [show I9 q.kd=256 by rw [h];rfl,show Ct q c=(VU q c||decide (mQ q (bfQ q c)≠mQ q (afQ q c))) by unfold Ct;rw [As A0,As A0,As A0,Ax A0]];exact I
 · rw [show I9 q.kd=259 by rw [h];rfl,show Ct q c=(VU q c||decide (mQ q (bfQ q c)≠mQ q (afQ q c))) by unfold Ct;rw [As A0,As A0,As A0,Ax A0]];exact J
 · rw [show I9 q.kd=261 by rw [h];rfl,show Ct q c=(Ou q c||decide (c.t=q.ot)) by unfold Ct;rw [As A0,As A0,As A0,As A0]];exact K
theorem q8(g:1<=k/\k<=7):∀(args:AN) (w:A5),(callFunc (I9 k) args).run prog w= .ok (.enter (I9 k) args) w:=by
 obtain h|h|h|h|h|h|h:k=1\/k=2\/k=3\/k=4\/k=5\/k=6\/k=7:=by omega
 all_goals (subst h;simp only [I9];first|exact call250|exact call252|exact call254|exact call256|exact call259|exact call261)
variable{q:QM}
theorem BH.kind(h:BH q):1<=q.kd/\q.kd<=7:=by have:=h.2.2.2;omega
theorem L9(q:QM)(c:Chg):Au prog 108 #[.agg q.BM5,.agg c.BM3] [] (.bool (decide (BH q)&&(decide c.ok&&Ct q c))):=by
 refine Se func108 ntmps108 [0,1] ?_;intro u R;refine A3<|Ze (Bx #[_,_,_,_,_,_,_])<|AF fun pq=>Ze (Bx #[_,_,_,_,_,_,_,_,_,_])<|AF fun pc=>CT Y<|Ay (n:=18) (0::1::3::7::15::31::63::127::127::383::1023::2047::127::127::12543::32767::65535::131071::[]) 49298 AD AD V<|G3 0 V Wh (A9 (cs:=#[_,_,_,_,_,_,_]) Fm D4 Y B5 B1)<|Yw 1 3 V (Zu [_] Y call63 Y V (Js q))<|F0<|A1 2 V (AP Y)<|DK (t:=7) Y (fun g=>?_) (fun g=>?_);·
  rw [g];refine FF 3 V Wh (A9 (cs:=#[_,_,_,_,_,_,_,_,_,_]) HD Cl Y B5 B1)<|Yw 4 31 V (Zu [_] Y call105 Y V (WE c))<|F0<|A1 5 V (AU Y Y)<|A1 6 V (AP Y)<|DK (t:=11) Y (fun h2=>?_) (fun h2=>?_);focus
   rw [h2];refine B4 8 V (AB (off:=0) DB V rfl A6 Y)<|FF 9 V Wh (BK AE Y B1)<|FF 12 V Wh (A9 (cs:=#[_,_,_,_,_,_,_]) Fm D4 Y B5 B1)<|FF 13 V Wh (A9 (cs:=#[_,_,_,_,_,_,_,_,_,_]) HD Cl Y B5 B1)<|Zz (l:=[7])<|BW [true,true,true] [(13,(_,_)),(12,(_,_)),(9,(_,_))] V rfl (Zw [] Y call183 Y V (OX)) ?hk_3 Bv ?hl_3
   case' hk_3=>
    rintro _ _ ⟨_,⟨mb,es,ck,lm,U,W,rfl,K,O,rfl⟩,rfl⟩;refine ⟨Zk (Zk (Zk (Ab))),?_⟩;have G:BH q:=IH g
    obtain ⟨pf,m⟩:=A74 O K.keys G.kind;refine FF 10 rfl Wh (Du IJ ab bj K (fun _ _=>trivial) (trivial) ((by rw [m];exact rfl:_=Value.agg #[.func (.func (I9 q.kd)) #[] #[],pf])) Y Y)<|B4 11 rfl (YF aE rfl isAgg303 Y rfl)<|Zz (l:=[14])<|BW [true,false,false,true] [(10,(_,_)),(9,(_,_))] rfl rfl (Zw [_,_] Y call184 Y rfl (K6 q G.2.1 (by have:=G.2.2.2;omega) c)) ?hk_4 Bv ?hl_4
    case' hk_4=>
     rintro _ _ ⟨_,⟨X,Z,s1,s2,rfl,I,J,rfl⟩,rfl⟩;refine C3<|Yw 15 65535 V (Zu [_] Y (q8 G.kind) Y V (jM q c G I J))<|F0<|A1 16 V (AU Y Y) ?_
    case' hl_4=>
     exact Aj
   case' hl_3=>
    exact Aj
  rotate_left
  focus
   rw [h2];refine AW 7 V<|AW 8 V<|AW 9 V<|AW 10 V<|AW 11 V<|AW 12 V<|AW 13 V<|AW 14 V<|AW 15 V<|A1 16 V (AJ Y Y) ?_
  all_goals
   refine A1 17 V (BC Y)<|Aq<|Zn [4] ?_;refine Zx<|AL<|AO V results108 Y (by exact ⟨by simp [g,h2],V⟩)
 rw [g];refine AW 3 V<|AW 4 V<|A1 5 V (AJ Y Y)<|A1 6 V (AP Y)<|AW 7 V<|AW 8 V<|AW 9 V<|AW 10 V<|AW 11 V<|AW 12 V<|AW 13 V<|AW 14 V<|AW 15 V<|A1 16 V (AJ Y Y)<|A1 17 V (BC Y)<|Aq<|Zn [4] ?_;refine Zx<|AL<|AO V results108 Y (by exact ⟨by simp [g],V⟩)
def ivQ(n:Int):A2:=I4 n
theorem nu(e:AM)(g c:Nat)(z:A2)(h:c<=maxLen):BU 1 e (I6 g 0 c) 0 [] [(g,.cells (List.replicate c z).toArray e (0,0))]:=⟨rfl,.inr ⟨g,c,_,(0,0),rfl,rfl,CM _,h,by simp,by simp,BB _⟩⟩
variable{rows:List AV}{i:Nat}{r:AV}
theorem pK(h:rows[i]?=some r):Cz q (rows.take (i+1))=Cz q (rows.take i)++[Bj r q.bq]:=by
 unfold Cz;rw [Bl h,CN];rfl
theorem Kg(q:QM)(rows:List AV):(Cz q rows).length=rows.length:=by unfold Cz;rw [Bk]
theorem vY(h:rows[i]?=some r):(Cz q rows)[i]?=some (Bj r q.bq):=by unfold Cz;rw [E6,h];rfl
variable{M:List A8}
theorem jh(hv:Dp M v rows){v0:Int}{U:Bool}(st:Nat->Int×Bool)(h0:st 0=(v0,U))(G:Nat)(us:List A2)(K:∀(args:AN) (w:A5),(callFunc G args).run prog w= .ok (.enter G args) w)(hf:∀(i:Nat) (r:AV),rows[i]?=some r->Au prog G (.agg #[.slice none 0 0,I4 (st i).1,.bool (st i).2]:: .agg r.BM4::us).toArray [M] (.agg #[.slice none 0 0,I4 (st (i+1)).1,.bool (st (i+1)).2])):Au prog 234 #[v,.agg #[.slice none 0 0,I4 v0,.bool U],.func (.func G) #[] us.toArray] [M] (.agg #[.slice none 0 0,I4 (st rows.length).1,.bool (st rows.length).2]):=by
 have ax:=mL;obtain ⟨p,cap,rfl,⟨hl,af⟩,hg⟩:=id hv;refine Se func234 ntmps234 [0,1,2] ?_;intro u R;refine A3<|Ze (Bx #[_,_,_])<|AF fun Z=>Ze (Al HS #[_,_,_])<|AF fun re=>A4<|B8 Y<|Zv (AR C2 Y)<|Zm Y<|A4<|AQ<|Zb [11,2,4,6,9,10] ?_;refine Aw (e0:=[(11,_)]) (fun m e H=>∃(i:Nat),m=rows.length -i/\(i<=rows.length)/\e=[(11,I4 (i:Int))]/\H=[[(Z,.cells #[.slice none 0 0,I4 (st i).1,.bool (st i).2] 60 (0,0))]]) (by exact ⟨0,rfl,CM _,rfl,by rw [h0]⟩) Wp ?_;rintro _ _ _ ⟨i,rfl,hi,rfl,rfl⟩;refine A3<|Zv (Ap Y Y)<|A4<|Zq<|Ak Y (fun J=>?_) (fun J=>?_);·
  obtain ⟨r,W⟩:∃r,rows[i]?=some r:=⟨_,BT J⟩;obtain ⟨g,off,cur,T,zz,rfl,O,X,I⟩:=hg i r W;refine B3<|Zq<|AQ<|A3<|BX (AZ C2 B6 Y Y A0)<|Bu (cs:=[(g,.cells cur T zz)]) (by simp [O]) (A9 (cs:=r.BM4) DM B6 Y A0 I) V rfl<|Ze (Al Ft #[_,_,_,_,_])<|AF fun rb=>Xe (Xw B6 r.BM4)<|A4<|Zg<|Zm Y<|Zo Wh (A9 (cs:=#[_,_,_]) EV C5 Y B5 B1)<|Zo Wh (A9 (cs:=#[_,_,_,_,_]) DM B6 Y B5 B1)<|Xr [_,_] Y (K) Y rfl (hf i r W)<|Xe (BJ C5 Y Y K0 Wu (by exact (rfl:_=(#[.slice none 0 0,I4 (st (i+1)).1,.bool (st (i+1)).2]:AN))) G4 B5 (by exact BB _))<|Z0<|AA<|Zx<|Dg Y Y Y<|HJ (by exact ⟨i+1,V,by omega,V,V⟩)
 have ei:i=rows.length:=by omega
 subst ei;refine BA<|Zt<|Zt<|AX<|C6<|Zo Wh (A9 (cs:=#[_,_,_]) EV C5 Y B5 B1)<|Xe (Xw C5 _)<|A4<|AL<|D7 V results234 Y Wh (Av EV C5 Wn (V)) (by exact ⟨V,V⟩)
variable{p:BE}{cap:Nat}{ms:List Int}
theorem Ui(hc:FX M p (ms.map ivQ))(hl:ms.length<=maxLen)(af:ms.length<=cap){v0:Int}{W:Bool}(st:Nat->Int×Bool)(h0:st 0=(v0,W))(G:Nat)(us:List A2)(O:∀(args:AN) (w:A5),(callFunc G args).run prog w= .ok (.enter G args) w)(hf:∀(i:Nat) (x:Int),ms[i]?=some x->Au prog G (.agg #[.slice none 0 0,I4 (st i).1,.bool (st i).2]::I4 x::us).toArray [M] (.agg #[.slice none 0 0,I4 (st (i+1)).1,.bool (st (i+1)).2])):Au prog 236 #[.slice p ms.length cap,.agg #[.slice none 0 0,I4 v0,.bool W],.func (.func G) #[] us.toArray] [M] (.agg #[.slice none 0 0,I4 (st ms.length).1,.bool (st ms.length).2]):=by
 have ax:=mL;refine Se func236 ntmps236 [0,1,2] ?_;intro u R;refine A3<|Ze (Bx #[_,_,_])<|AF fun X=>Ze (Al HS #[_,_,_])<|AF fun re=>A4<|B8 Y<|Zv (AR DP Y)<|Zm Y<|A4<|AQ<|Zb [11,2,4,6,9,10] ?_;refine Aw (e0:=[(11,_)]) (fun m e H=>∃(i:Nat),m=ms.length -i/\(i<=ms.length)/\e=[(11,I4 (i:Int))]/\H=[[(X,.cells #[.slice none 0 0,I4 (st i).1,.bool (st i).2] 60 (0,0))]]) (by exact ⟨0,rfl,CM _,rfl,by rw [h0]⟩) Wp ?_;rintro _ _ _ ⟨i,rfl,hi,rfl,rfl⟩;refine A3<|Zv (Ap Y Y)<|A4<|Zq<|Ak Y (fun K=>?_) (fun K=>?_);·
  obtain ⟨x,hx⟩:∃x,ms[i]?=some x:=⟨_,BT K⟩;obtain ⟨g,off,cur,T,zz,rfl,U,J⟩:=hc i (ivQ x) (by rw [E6,hx];rfl);have I:cur[off+i]?=some (I4 x):=J
  refine B3<|Zq<|AQ<|A3<|BX (Bg DP A6 Y Y Q2)<|Bu (cs:=[(g,.cells cur T zz)]) (by simp [U]) (BK AE Y I) rfl rfl<|AH Y<|Zg<|Zm Y<|Zo Wh (A9 (cs:=#[_,_,_]) EV C5 Y B5 B1)<|Zm Y<|Xr [_,_] Y (O) Y rfl (hf i x hx)<|Xe (BJ C5 Y Y K0 Wu (by exact (rfl:_=(#[.slice none 0 0,I4 (st (i+1)).1,.bool (st (i+1)).2]:AN))) G4 B5 (by exact BB _))<|Z0<|AA<|Zx<|Dg Y Y Y<|HJ (by exact ⟨i+1,V,by omega,V,V⟩)
 have Z:i=ms.length:=by omega
 subst Z;refine BA<|Zt<|Zt<|AX<|C6<|Zo Wh (A9 (cs:=#[_,_,_]) EV C5 Y B5 B1)<|Xe (Xw C5 _)<|A4<|AL<|D7 V results236 Y Wh (Av EV C5 Wn (V)) (by exact ⟨V,V⟩)
theorem NZ(hv:Dp M v rows)(q:QM)(U:0<=q.bq/\q.bq<=3)(hb:rows.length<=1000000000000):BS prog 237 #[.agg q.BM5,v] [M] (fun r H'=>∃s,BU 1 3 r (Cz q rows).length ((Cz q rows).map ivQ) s/\H'=[s,M]):=by
 have cu:=mL;obtain ⟨p,cap,rfl,⟨hl,bn⟩,hg⟩:=id hv;refine Se func237 ntmps237 [0,1] ?_;intro u R;refine A3<|Ze (Bx #[_,_,_,_,_,_,_])<|AF fun bq=>AH Y<|AK Y<|Zv (AR C2 Y)<|Ze (Gq (by_:=8) (l:=0) DP (V:Tryz.prog.info? 3=some Tryz.t3) V rfl V rfl Y Y ?_ ?_ ?_) ?_
 (focus (omega))
 (focus (omega))
 (focus (omega))
 rintro _ _ ⟨mk,rfl,rfl⟩;refine AH Y<|B8 Y<|Zv (AR C2 Y)<|Zm Y<|A4<|AQ<|Zb [5,13,2,11,12] ?_;refine Aw (e0:=[(5,_),(13,_)]) (fun m e H=>∃(i:Nat) (vo:A2) (O:List A8),m=rows.length -i/\(i<=rows.length/\BU 1 3 vo i ((Cz q (rows.take i)).map ivQ) O)/\e=[(5,vo),(13,I4 (i:Int))]/\H=[O]) (by exact ⟨0,_,_,rfl,⟨CM _,by rw [JT];exact nu _ _ _ (I4 0) A0⟩,rfl,rfl⟩) Wp ?_;rintro _ _ _ ⟨i,vo,O,rfl,⟨hi,I⟩,rfl,rfl⟩;obtain ⟨qo,co,rfl⟩:=I.form;refine A3<|Zv (Ap Y Y)<|A4<|Zq<|Ak Y (fun K=>?_) (fun K=>?_);·
  obtain ⟨r,X⟩:∃r,rows[i]?=some r:=⟨_,BT K⟩;obtain ⟨g,off,cur,T,zz,rfl,W,Z,J⟩:=hg i r X;refine B3<|Zq<|AQ<|A3<|BX (AZ C2 B6 Y Y A0)<|Bu (cs:=[(g,.cells cur T zz)]) (by simp [W]) (A9 (cs:=r.BM4) DM B6 Y A0 J) V rfl<|Ze (Al Ft #[_,_,_,_,_])<|AF fun rb=>Xe (Xw B6 r.BM4)<|A4<|Zg<|Zm Y<|Zo Wh (A9 (cs:=#[_,_,_,_,_]) DM B6 Y B5 B1)<|Zh 5 DB V rfl A6 Y<|Zl AE Y<|Xr [_,_] Y Up Y V (GI r q.bq U)<|Ze (Ah (vs:=[_]) (cs:=[_]) DP A6 HT Y V rfl V rfl V)<|AF fun gb=>Ze (BP (by_:=8) (sz:=1) DP (V:Tryz.prog.info? 3=some Tryz.t3) V rfl V rfl Y (I) Y (Cu 1 gb 1 1 3 (0,0) [I4 (Bj r q.bq)] V) Wo Wo HO A0 A0) ?_;rintro _ _ ⟨cO,G,rfl⟩;obtain ⟨ax,af,rfl⟩:=G.form;refine B2 Y<|Zn [2,5,11,12,13] ?_;refine AA<|Zx<|Dg Y Y Y<|DG (e:=[(5,_),(13,_)]) (h:=by exact ⟨i+1,_,_,rfl,⟨by omega,BZ G rfl (by rw [pK X,CN];rfl)⟩,rfl,rfl⟩)
 have ei:i=rows.length:=by omega
 subst ei;refine BA<|Zt<|Zt<|AX<|Zx<|AK Y<|An Y<|AO rfl results237 Y (by exact ⟨O,BZ I (Kg q rows).symm (by rw [HE]),rfl⟩)
theorem O8(v:A2)(g:v.oneCell'=true)(hc:v.cells=#[v]):BS prog 239 #[v] [] (fun r H'=>∃b,r= .func (.func 292) #[] #[I5 b]/\H'=[[(b,.cells #[v] 286 (0,0))]]):=by
 refine Se func239 ntmps239 [0] ?_;intro u R;refine A3<|Ze (Fu Y (cs:=#[v]) hc)<|AF fun b=>AH Y<|A3<|Zv (Be (vs:=[]) (us:=[_]) Y Y)<|An Y<|AO V results239 Y (by exact ⟨b,V,V⟩)
theorem rE(v n:Int)(f:Bool)(b g:Nat)(lt:Int->Int->Bool)(m:∀(args:AN) (w:A5),(callFunc g args).run prog w= .ok (.enter g args) w)(G:∀x y:Int,Au prog g #[I4 x,I4 y] [] (.bool (lt x y))):Au prog 292 #[.agg #[.slice none 0 0,I4 v,.bool f],I4 n,I5 b] [[(b,.cells #[.func (.func g) #[] #[]] 286 (0,0))]] (.agg #[.slice none 0 0,I4 (if !f||lt n v then n else v),.bool true]):=by
 refine Se func292 ntmps292 [0,1,2] ?_;intro u R;refine A3<|Ze (Bx #[_,_,_])<|AF fun J=>Ze (Al HS #[_,_,_])<|AF fun bs=>A4<|Zq<|A3<|Zh 2 FA V rfl F1 Y<|Zl G0 Y ?_;refine Zv (Bo Y)<|Zm Y<|Ad (t:=9) Y V (fun I=>?_) (fun I=>?_);focus
  refine AG<|AG<|C4<|C1 Y Y<|A4<|Cy Y<|Zg<|Zm Y<|Zh 1 FA V rfl A6 Y<|Xe (Zs A6 Y Y V (hi:=by(simp;done))) ?_;refine Z0<|Zn [3,5] ?_;refine C6<|Zh 2 FA V rfl F1 Y<|Xe (Zs F1 Y Y V (hi:=by(simp;done))) ?_;refine Z0 ?_
 rotate_left
 focus
  refine Yl isAgg286 Y ?_;refine Zf Y Y<|Yf 1 FA V rfl A6 Y<|Yl AE Y ?_;refine Xr [_,_] Y (m) Y V (G n v) ?_;refine B9 Y Y<|A4<|AY Y (fun h2=>?_) (fun h2=>?_);focus
   refine Zg<|Zm Y<|Zh 1 FA V rfl A6 Y<|Xe (Zs A6 Y Y V (hi:=by(simp;done))) ?_;refine Z0<|Zn [3,5] ?_;refine C6<|Zh 2 FA V rfl F1 Y<|Xe (Zs F1 Y Y V (hi:=by(simp;done))) ?_;refine Z0 ?_
  rotate_left
  focus
   refine AC<|C6<|Zh 2 FA V rfl F1 Y<|Xe (Zs F1 Y Y V (hi:=by(simp;done))) ?_;refine Z0<|Zn [3,5] ?_
 all_goals
  refine C6<|Zo Wh (A9 (cs:=#[_,_,_]) EV C5 Y B5 B1) ?_;refine Xe (Xw C5 _) ?_;refine A4<|AL<|D7 V results292 Y Wh (Av EV C5 Wn (V)) (by exact ⟨by simp_all;rfl,V⟩)
theorem jb(x y:Int):Au prog 240 #[I4 x,I4 y] [] (.bool (decide (x<y))):=by
 refine Se func240 ntmps240 [0,1] ?_;intro u R;refine A3<|AH Y<|AK Y<|Zm Y<|Zv (Dy Y Y)<|An Y<|AO V results240 Y (by exact ⟨by rfl,V⟩)
theorem ja(x y:Int):Au prog 241 #[I4 x,I4 y] [] (.bool (decide (y<x))):=by
 refine Se func241 ntmps241 [0,1] ?_;intro u R;refine A3<|AH Y<|AK Y<|Zm Y<|Zv (F4 Y Y)<|An Y<|AO V results241 Y (by exact ⟨by rfl,V⟩)
theorem jd(v:Int)(f:Bool)(r:AV)(h:-9223372036854775807<=v/\v<=9223372036854775806):Au prog 235 #[.agg #[.slice none 0 0,I4 v,.bool f],.agg r.BM4] [] (.agg #[.slice none 0 0,I4 (v+1),.bool f]):=by
 refine Se func235 ntmps235 [0,1] ?_;intro u R;refine A3<|Ze (Bx #[_,_,_])<|AF fun m=>Ze (Bx #[_,_,_,_,_])<|AF fun G=>Ze (Al HS #[_,_,_])<|AF fun g=>A4<|A3<|Zh 1 FA V rfl A6 Y<|Zl AE Y<|Yi Y Y<|Zh 1 FA V rfl A6 Y<|Xe (Zs A6 Y Y V (hi:=by(simp;done)))<|A4<|A3<|Zo Wh (A9 (cs:=#[_,_,_]) EV C5 Y B5 B1)<|Xe (Xw C5 _)<|A4<|AL<|D7 V results235 Y Wh (Av EV C5 Wn (V)) (by exact ⟨V,V⟩)
theorem jc(v n:Int)(f:Bool)(h:-9223372036854775807<=v+n/\v+n<=9223372036854775806):Au prog 238 #[.agg #[.slice none 0 0,I4 v,.bool f],I4 n] [] (.agg #[.slice none 0 0,I4 (v+n),.bool f]):=by
 refine Se func238 ntmps238 [0,1] ?_;intro u R;refine A3<|Ze (Bx #[_,_,_])<|AF fun m=>Ze (Al HS #[_,_,_])<|AF fun g=>A4<|A3<|Zh 1 FA V rfl A6 Y<|Zl AE Y<|Zm Y<|Yi Y Y<|Zh 1 FA V rfl A6 Y<|Xe (Zs A6 Y Y V (hi:=by(simp;done)))<|A4<|A3<|Zo Wh (A9 (cs:=#[_,_,_]) EV C5 Y B5 B1)<|Xe (Xw C5 _)<|A4<|AL<|D7 V results238 Y Wh (Av EV C5 Wn (V)) (by exact ⟨V,V⟩)
def tt(r:AV):A2:= .agg r.BM4
theorem A63{g:List (Int×A2)}{I:Int}(hn:(lm.map (·.1)).Nodup)(m:(g.map (·.1)).Nodup)(G:∀p,p∈g↔p=(I,v)\/(p∈lm/\p.1≠I))(k:Int):EM k g=if k=I then some v else EM k lm:=by
 split
 · rename_i h
   rw [h];exact D8 m ((G _).2 (.inl V))
 · rename_i h
   cases hg:EM k lm with
   |some x=>exact D8 m ((G _).2 (.inr ⟨X0 hg,h⟩))
   |none=>
    cases hg2:EM k g with
    |none=>rfl
    |some x=>
     rcases (G _).1 (X0 hg2)with e|⟨e,_⟩
     · injection e with e1 e2;exact absurd e1 h
     · rw [D8 hn e]at hg;cases hg
variable{others:List AV}{x:AV}
theorem Wm(h:others[i]?=some x)(k:Int):Dm q (others.take (i+1)) k=(Dm q (others.take i) k).or (if x.t=q.ot/\x.k=k then some x else none):=by
 unfold Dm;rw [Bl h,List.find?_append];congr 1;simp only [List.find?_cons,List.find?_nil];split<;>simp_all
def VA(q:QM)(others:List AV)(lm:List (Int×A2)):Prop:=∀k,EM k lm=(Dm q others k).map tt
theorem iT(h:others[i]?=some x)(m:VA q (others.take i) lm)(hx:¬x.t=q.ot\/(Dm q (others.take i) x.k).isSome=true):VA q (others.take (i+1)) lm:=by
 intro k;rw [m k,Wm h k];cases hg:Dm q (others.take i) k with
 |some y=>rfl
 |none=>
  rw [As];· rfl
  · rintro ⟨g,rfl⟩
    rcases hx with hx|hx
    · exact hx g
    · rw [hg]at hx;cases hx
theorem oN{g:List (Int×A2)}(h:others[i]?=some x)(J:VA q (others.take i) lm)(hx:x.t=q.ot)(G:(Dm q (others.take i) x.k).isSome=false)(hn:(lm.map (·.1)).Nodup)(m:(g.map (·.1)).Nodup)(K:∀p,p∈g↔p=(x.k,tt x)\/(p∈lm/\p.1≠x.k)):VA q (others.take (i+1)) g:=by
 intro k;rw [A63 hn m K k,Wm h k];split
 · rename_i hk
   have:Dm q (others.take i) k=none:=by
    rw [hk];cases hg:Dm q (others.take i) x.k with
    |none=>rfl
    |some y=>rw [hg]at G;cases G
   rw [this,Ax ⟨hx,hk.symm⟩];rfl
 · rename_i hk
   rw [J k,As (fun I=>hk I.2.symm)];cases Dm q (others.take i) k<;>rfl
variable{y:AV}
theorem Wq(g:VA q others lm)(k:Int)(hy:y=(Dm q others k).getD ⟨0,0,⟨0,0,0⟩⟩):(EM k lm).getD (.agg #[I4 (⟨0,0,⟨0,0,0⟩⟩:AV).t,I4 (⟨0,0,⟨0,0,0⟩⟩:AV).k,I4 (⟨0,0,⟨0,0,0⟩⟩:AV).v.a,I4 (⟨0,0,⟨0,0,0⟩⟩:AV).v.b,I4 (⟨0,0,⟨0,0,0⟩⟩:AV).v.c])= .agg y.BM4/\(EM k lm).isSome=(Dm q others k).isSome:=by
 rw [g k,hy];cases Dm q others k<;>exact ⟨rfl,rfl⟩
theorem Wl(hy:y=(Dm q others k).getD ⟨0,0,⟨0,0,0⟩⟩)(h:(Dm q others k).isSome=true):Dm q others k=some y:=by
 rw [hy];cases hp:Dm q others k with
 |none=>rw [hp]at h;cases h
 |some x=>rfl
variable{s:List A8}
theorem Ld{sz:Nat}{e:AM}{n c k:Nat}{xs:List A2}(h:BU sz e (.slice p n c) k xs s):FX s p xs:=by
 intro j u G;obtain ⟨J,⟨_,rfl,_⟩|⟨g,cap,cur,z,hv,rfl,_,_,_,m,_⟩⟩:=h
 · have:xs=[]:=NX A0
   subst this;cases G
 · injection hv with h1 h2 h3
   subst h1;refine ⟨g,0,cur,e,z,V,by simp,?_⟩;have I:=(C7.1 G).1
   rw [<-m,HR,Ax A0,Hx]at G;rwa [Dd]
theorem Qz(h:rows[i]?=some r):J7 q (rows.take (i+1)) others=J7 q (rows.take i) others++J5 q others r:=by
 unfold J7;rw [Bl h,On,rm]
theorem Wt(h:Dm q others (Bj r q.bq)=some y):J5 q others r=[r,y]:=by unfold J5;rw [h]
theorem oO(h:Dm q others (Bj r q.bq)=none):J5 q others r=[]:=by unfold J5;rw [h]
theorem A48(q:QM)(others:List AV)(r:AV):(J5 q others r).length<=2:=by unfold J5;split<;>simp
theorem UR(q:QM)(rows others:List AV):(J7 q rows others).length<=2*rows.length:=by
 induction rows with
 |nil=>simp [J7]
 |cons r rows ih=>
  have:=A48 q others r;unfold J7 at*;rw [Hv,C0,F2];omega
variable{vo:A2}
set_option maxHeartbeats 1000000 in
theorem bR(hv:Dp M v rows)(ho:Dp M vo others)(q:QM)(gy:0<=q.bq/\q.bq<=3)(hb:rows.length<=100000000000):BS prog 242 #[.agg q.BM5,v,vo] [M] (fun r H'=>∃s,BU 5 83 r (J7 q rows others).length (Ae (J7 q rows others)) s/\H'=[s,M]):=by
 have r9:=mL;obtain ⟨p,cap,rfl,⟨hl,qx⟩,hg⟩:=id hv;obtain ⟨po,o9,rfl,⟨qz,p8⟩,ic⟩:=id ho;refine Se func242 ntmps242 [0,1,2] ?_;intro u R;refine A3<|Ze (Bx #[_,_,_,_,_,_,_])<|AF fun bq=>AH Y<|A3<|Ze (DV)<|AF fun mb=>AH Y<|B8 Y<|Zv (AR C2 Y)<|Zm Y<|A4<|AQ<|Zb [19,1,3,6,7,17,18] ?_;refine Aw (e0:=[(19,_)]) (fun m e H=>∃(i:Nat) (es:Array MapEntry) (ck:Nat) (lm:List (Int×A2)),m=others.length -i/\(i<=others.length/\Co (fun k:Int=>I4 k) es ck lm/\VA q (others.take i) lm)/\e=[(19,I4 (i:Int))]/\H=[[(mb,.map es ck)]]) (by exact ⟨0,#[],0,[],V,⟨CM _,EU _,fun k=>rfl⟩,V,V⟩) Wp ?_;rintro _ _ _ ⟨i,es,ck,lm,rfl,⟨hi,hm,Z⟩,rfl,rfl⟩;refine A3<|Zv (Ap Y Y)<|A4<|Zq<|Ak Y (fun G=>?_) (fun G=>?_);·
  obtain ⟨x,hx⟩:∃x,others[i]?=some x:=⟨_,BT G⟩;obtain ⟨g1,pz,W,T1,l8,rfl,j3,pg,af⟩:=ic i x hx;refine B3<|Zq<|AQ<|A3<|BX (AZ C2 B6 Y Y A0)<|Bu (cs:=[(g1,.cells W T1 l8)]) (by simp [j3]) (A9 (cs:=x.BM4) DM B6 Y A0 af) V rfl<|Ze (Al Ft #[_,_,_,_,_])<|AF fun bx=>Xe (Xw B6 x.BM4)<|A4<|Zq ?_;obtain ⟨y0,d9⟩:∃y,y=(Dm q (others.take i) x.k).getD ⟨0,0,⟨0,0,0⟩⟩:=⟨_,rfl⟩;refine Zg<|Zm Y<|Zh 1 HC V rfl A6 Y<|Zl AE Y<|Zo Wh (EO IJ underlying414 Ft hm (fun _ _=>trivial) (trivial) (Wq Z x.k d9) Y Y)<|Zm Y<|Zd Y V<|Zd Y V<|Ze (Al Ft #[_,_,_,_,_])<|AF fun bt=>Xe (Xw B6 y0.BM4)<|B2 Y<|Zn [1,3,6,7,9,11,17,18,19] ?_;refine Zx<|Zq ?_;obtain ⟨y0,d9⟩:∃y,y=(Dm q (others.take i) x.k).getD ⟨0,0,⟨0,0,0⟩⟩:=⟨_,rfl⟩;refine Zg<|Zh 0 HC V rfl A6 Y<|Zl AE Y<|Zh 6 DB V rfl A6 Y<|Zl AE Y<|Zv (CO Y Y)<|Zm Y<|Af (t:=35) Y V (fun h1=>?_) (fun h1=>?_);focus
   refine Zf Y Y<|Yg (Bo Y)<|C1 Y Y<|A4<|AY Y (fun h2=>?_) (fun h2=>?_);refine Zg<|Zm Y<|Zh 1 HC V rfl A6 Y<|Zl AE Y<|Zo Wh (A9 (cs:=#[_,_,_,_,_]) DM B6 Y B5 B1)<|Ze (FK IJ underlying414 hm (fun _ _=>trivial) (trivial) Y Y Y Wo) ?_;rintro _ _ ⟨rfl,qj,qh,l5,I,kv,rfl⟩;have gq:VA q (others.take (i+1)) l5:=oN hx Z h1 (by simpa using h2) hm.keys I.keys kv
   refine Z0<|Zn [1,3,6,7,17,18,19] ?_;refine AA<|Zx<|Dg Y Y Y<|DG (e:=[(19,_)]) (h:=by exact ⟨i+1,_,_,_,V,⟨by omega,I,gq⟩,V,V⟩)
  rotate_left
  focus
   refine AG<|B9 Y Y<|A4<|Df Y ?_
  all_goals
   refine AC<|AA<|Zx<|Dg Y Y Y<|DG (e:=[(19,_)]) (h:=by exact ⟨i+1,es,ck,lm,rfl,⟨by omega,hm,iT hx Z (by first|exact .inl A0|exact .inr (by simpa using h2))⟩,rfl,rfl⟩)
 have ei:i=others.length:=by omega
 subst ei;rw [HE]at Z;refine BA<|Zt<|Zt<|AX<|Zx<|Zq<|A3<|Zo Wh (A9 (cs:=#[_,_,_,_,_,_,_]) Fm D4 Y B5 B1)<|Zm Y<|Zc [_,_] Y call237 Y V (NZ hv q gy A0) ?_;rintro _ _ ⟨_,⟨sm,cO,rfl⟩,rfl⟩;obtain ⟨gm,cm,rfl⟩:=cO.form;refine Zv (AR DP Y)<|Zm Y<|A4<|AQ<|Bc ?_;have gQ:FX sm gm ((Cz q rows).map ivQ):=Ld cO
 have p9:=Kg q rows;refine Zb [6,48,1,7,46,47] ?_;refine Aw (e0:=[(6,_),(48,_)]) (fun m e H=>∃(i:Nat) (w:A2) (so:List A8),m=rows.length -i/\(i<=rows.length/\BU 5 83 w (J7 q (rows.take i) others).length (Ae (J7 q (rows.take i) others)) so)/\e=[(6,w),(48,I4 (i:Int))]/\H=[so]) (by exact ⟨0,.slice none 0 0,[],rfl,⟨CM _,by rw [JT];exact Bh 5 _⟩,rfl,rfl⟩) Wp ?_;rintro _ _ _ ⟨i,w,so,rfl,⟨hi,g⟩,rfl,rfl⟩;obtain ⟨qo,co,rfl⟩:=g.form;have qw:(J7 q (rows.take i) others).length<=2*i:=SZ (UR _ _ _) (by rw [Cd];omega)
 refine A3<|Zv (Ap Y Y)<|A4<|Zq<|Ak Y (fun G=>?_) (fun G=>?_);·
  obtain ⟨r,hr⟩:∃r,rows[i]?=some r:=⟨_,BT A0⟩;obtain ⟨g2,ek,J,T2,l9,rfl,I,ax⟩:=gQ i (ivQ (Bj r q.bq)) (by rw [E6,vY hr];rfl);have cu:J[ek+i]?=some (I4 (Bj r q.bq)):=ax
  obtain ⟨U,O⟩:∃y,y=(Dm q others (Bj r q.bq)).getD ⟨0,0,⟨0,0,0⟩⟩:=⟨_,rfl⟩;refine B3<|Zq<|AQ<|AK Y<|BX (Bg DP A6 Y Y Q2)<|Bu (cs:=[(g2,.cells J T2 l9)]) (by simp [I]) (BK AE Y cu) rfl rfl<|Za Y<|AH Y<|AK Y<|Zm Y<|Zo Wh (EO IJ underlying414 Ft hm (fun _ _=>trivial) (trivial) (Wq Z (Bj r q.bq) O) Y Y)<|Zm Y<|Zd Y rfl<|Zd Y rfl<|Ze (Al Ft #[_,_,_,_,_])<|AF fun qa=>Xe (Xw B6 U.BM4)<|B2 Y<|Zn [1,6,7,12,14,15,46,47,48] ?_;refine Zx<|AK Y<|A4<|AY Y (fun h5=>?_) (fun h5=>?_);·
   obtain ⟨g3,q9,X,T3,o8,rfl,j5,pq,bn⟩:=hg i r hr;refine Ay (n:=9) (0::0::0::6::14::0::62::127::255::[]) 192 AD AD V<|A1 0 V (AP Y)<|A1 1 V (AP Y)<|A1 2 V (AP Y)<|A1 3 V (AZ C2 B6 Y Y A0)<|Cn (b:=g3) (x:= .cells X T3 o8) (D':=31) 4 V rfl V (by simp [j5]) (A9 (cs:=r.BM4) DM B6 Y A0 bn) ?_;refine G3 5 V Wh (A9 (cs:=#[_,_,_,_,_]) DM B6 Y B5 B1)<|Yw 6 127 V (Ah (vs:=[_,_]) (cs:=[_,_,_,_,_,_,_,_,_,_]) C2 B6 Ft Y V rfl V rfl V)<|AF fun gb=>Yw 7 255 V (BP (by_:=40) (sz:=5) C2 (V:Tryz.prog.info? 83=some Tryz.t83) V rfl V rfl Y (g) Y (Cu 5 gb 2 2 83 (0,0) [I4 r.t,I4 r.k,I4 r.v.a,I4 r.v.b,I4 r.v.c,I4 U.t,I4 U.k,I4 U.v.a,I4 U.v.b,I4 U.v.c] V) Wo Wo HO A0 A0) ?_;rintro _ _ ⟨sj,K,rfl⟩;obtain ⟨ql,qb,rfl⟩:=K.form;refine A1 8 V (BC Y)<|Aq<|AA<|Zx<|Dg Y Y Y<|DG (e:=[(6,_),(48,_)]) (h:=by exact ⟨i+1,_,_,rfl,⟨by omega,BZ K (by rw [Qz hr,Wt (Wl O h5),C0];rfl) (by rw [Qz hr,Wt (Wl O h5),Bt];rfl)⟩,rfl,rfl⟩)
  refine AC<|AA<|Zx<|Dg Y Y Y<|DG (e:=[(6,_),(48,_)]) (h:=by exact ⟨i+1,_,so,rfl,⟨by omega,by rw [Qz hr,oO (uj.1 (by simpa using h5)),E7];exact g⟩,rfl,rfl⟩)
 have ei:i=rows.length:=by omega
 subst ei;rw [HE]at g⊢;refine BA<|Zt<|Zt<|AX<|Zx<|AK Y<|An Y<|AO V results242 Y (by exact ⟨so,g,V⟩)
def Im(q:QM)(rows others:List AV):C8:=if BH q then Fb q rows others else C8.none
theorem uB(h:¬BH q):Im q rows others=⟨[],0,false⟩:=As h
theorem Pz(h:BH q):Im q rows others=Fb q rows others:=Ax h
theorem uW(h:BH q)(k:q.kd=3):Im q rows others=⟨[],rows.length,false⟩:=by rw [Pz h];unfold Fb;rw [Ax k]
theorem uV(h:BH q)(k:q.kd=4):Im q rows others=⟨[],M8 (Cz q rows),false⟩:=by rw [Pz h];unfold Fb;rw [As A0,Ax k]
theorem uU(h:BH q)(k:q.kd=5):Im q rows others=Ei (fun a b=>decide (a<b)) (Cz q rows):=by rw [Pz h];unfold Fb;rw [As A0,As A0,Ax k]
theorem uT(h:BH q)(k:q.kd=6):Im q rows others=Ei (fun a b=>decide (b<a)) (Cz q rows):=by rw [Pz h];unfold Fb;rw [As A0,As A0,As A0,Ax k]
theorem uS(h:BH q)(k:q.kd=7):Im q rows others=⟨J7 q rows others,0,false⟩:=by rw [Pz h];unfold Fb;rw [As A0,As A0,As A0,As A0,Ax k]
theorem uX(h:BH q)(g:¬q.kd=3)(m:¬q.kd=4)(G:¬q.kd=5)(I:¬q.kd=6)(J:¬q.kd=7):Im q rows others=⟨rows,0,false⟩:=by rw [Pz h];unfold Fb;rw [As g,As m,As G,As I,As J]
theorem nQ{x:Int}(h:ms[i]?=some x):M8 (ms.take (i+1))=M8 (ms.take i)+x:=by unfold M8;rw [Bl h,X2];rfl
theorem Sy(B:Int):∀(ms:List Int),(∀m∈ms,-B<=m/\m<=B)->-(ms.length*B)<=KG ms/\KG ms<=ms.length*B
 |[],_=>by simp [KG]
 |m::ms,h=>by
  have g:=h m B7;have h2:=Sy B ms (fun y hy=>h y (GB _ hy))
  have G:((m::ms).length:Int)*B=ms.length*B+B:=by rw [F2];push_cast;rw [Int.add_mul,Int.one_mul]
  simp only [KG];omega
theorem lG(h:∀m∈ms,-1000000000<=m/\m<=1000000000)(I:ms.length<=1000000000)(i:Nat):-1000000000000000000<=M8 (ms.take i)/\M8 (ms.take i)<=1000000000000000000:=by
 have G:=Sy 1000000000 (ms.take i) (fun m g=>h m (RW g));have h2:(ms.take i).length<=1000000000:=by rw [Cd];omega
 unfold M8;rw [Nf];omega
theorem rD{lt:Int->Int->Bool}{x:Int}(h:ms[i]?=some x):Ei lt (ms.take (i+1))=⟨(Ei lt (ms.take i)).rows,if !(Ei lt (ms.take i)).fnd||lt x (Ei lt (ms.take i)).val then x else(Ei lt (ms.take i)).val,true⟩:=by unfold Ei;rw [Bl h,X2];rfl
theorem XM(lt:Int->Int->Bool)(ms:List Int):∀r:C8,(ms.foldl (fun r n=>⟨r.rows,if !r.fnd||lt n r.val then n else r.val,true⟩:C8->Int->C8) r).rows=r.rows:=by
 induction ms with
 |nil=>intro r;rfl
 |cons m ms ih=>intro r;rw [XS,ih]
theorem kE(hv:Dp M v rows)(G:rows.length<=1000000000):Au prog 234 #[v,.agg #[.slice none 0 0,I4 0,.bool false],.func (.func 235) #[] #[]] [M] (.agg #[.slice none 0 0,I4 (rows.length:Int),.bool false]):=
 jh hv (fun i=>((i:Int),false)) rfl 235 [] call235 (fun i r m=>by
  have g:=(C7.1 m).1;have:=jd (i:Int) false r A0
  exact Mv this)
theorem A08(hc:FX s p (ms.map ivQ))(J:ms.length<=1000000000)(g:ms.length<=cap)(G:∀m∈ms,-1000000000<=m/\m<=1000000000):Au prog 236 #[.slice p ms.length cap,.agg #[.slice none 0 0,I4 0,.bool false],.func (.func 238) #[] #[]] [s] (.agg #[.slice none 0 0,I4 (M8 ms),.bool false]):=by
 have K:=mL;have h:=Ui hc A0 g (fun i=>(M8 (ms.take i),false)) rfl 238 [] call238 (fun i x hx=>by
  have O:=lG G J i;have h2:=G x (Ek hx)
  have I:=jc (M8 (ms.take i)) x false A0;show Au _ _ _ _ (.agg #[.slice none 0 0,I4 (M8 (ms.take (i+1))),.bool false])
  rw [nQ hx];exact Mv I)
 rwa [HE]at h
theorem dV(hc:FX s p (ms.map ivQ))(X:ms.length<=1000000000)(I:ms.length<=cap)(b m:Nat)(lt:Int->Int->Bool)(G:∀(args:AN) (w:A5),(callFunc m args).run prog w= .ok (.enter m args) w)(J:∀x y:Int,Au prog m #[I4 x,I4 y] [] (.bool (lt x y))):Au prog 236 #[.slice p ms.length cap,.agg #[.slice none 0 0,I4 0,.bool false],.func (.func 292) #[] #[I5 b]] [s,[(b,.cells #[.func (.func m) #[] #[]] 286 (0,0))]] (.agg #[.slice none 0 0,I4 (Ei lt ms).val,.bool (Ei lt ms).fnd]):=by
 have U:=mL;refine rV ?_;have h:=Ui (M:=s++[(b,.cells #[.func (.func m) #[] #[]] 286 (0,0))]) (ms:=ms) (p:=p) (fun j u W=>by
  obtain ⟨g,o,c,T,z,K,h2,O⟩:=hc j u W;exact ⟨g,o,c,T,z,K,G1 _ h2,O⟩) A0 I (fun i=>((Ei lt (ms.take i)).val,(Ei lt (ms.take i)).fnd)) V 292 [I5 b] call292 (fun i x hx=>by
  show Au _ _ _ _ (.agg #[.slice none 0 0,I4 (Ei lt (ms.take (i+1))).val,.bool (Ei lt (ms.take (i+1))).fnd]);rw [rD hx];exact dw (rE (Ei lt (ms.take i)).val x (Ei lt (ms.take i)).fnd b m lt G J))
 rwa [HE]at h
theorem lZ(h:∀r∈rows,-1000000000<=Bj r q.bq/\Bj r q.bq<=1000000000):∀m∈Cz q rows,-1000000000<=m/\m<=1000000000:=by
 intro m g;obtain ⟨r,G,rfl⟩:=CI.1 g;exact h r G
set_option maxHeartbeats 1000000 in
theorem qW(hv:Dp M v rows)(ho:Dp M vo others)(q:QM)(hb:rows.length<=1000000000)(hm:BH q->∀r∈rows,-1000000000<=Bj r q.bq/\Bj r q.bq<=1000000000):BS prog 158 #[.agg q.BM5,v,vo] [M] (fun w H'=>∃rv s,w= .agg #[rv,I4 (Im q rows others).val,.bool (Im q rows others).fnd]/\BU 5 83 rv (Im q rows others).rows.length (Ae (Im q rows others).rows) s/\H'=[s,M]):=by
 have ax:=mL;refine Se func158 ntmps158 [0,1,2] ?_;intro u R;refine A3<|Ze (Bx #[_,_,_,_,_,_,_])<|AF fun bq=>Ze (Al HS #[_,_,_])<|AF fun br=>A4<|Zq<|A3<|Zo Wh (A9 (cs:=#[_,_,_,_,_,_,_]) Fm D4 Y B5 B1)<|Xr [_] Y call63 Y V (Js q)<|Zv (CG Y)<|A4<|AY Y (fun hq=>?_) (fun hq=>?_);·
  have g:¬BH q:=by simpa using hq
  refine Zq<|Bc<|Zg<|Zv (BN (vs:=[]) (cs:=#[_,_,_]) Y (Aa (pl:=#[(0,1),(1,1),(2,1)]) HS FA (fun _=>by kernel_rfl) rfl))<|Xe (Xw C5 _)<|A4<|AL<|Zt<|D7 rfl fR Y Wh (Av EV C5 Wn (rfl)) (by exact ⟨.slice none 0 0,[],by rw [uB g];rfl,by rw [uB g];exact Bh 5 _,rfl⟩)
 have g:BH q:=by simpa using hq
 have G:0<=q.bq/\q.bq<=3:=by have:=g.2.2.2;omega
 have af:=lZ (hm g);refine AC<|C6<|Ze (Al HS #[_,_,_])<|AF fun bn=>A4<|Zq<|A3<|Zh 0 DB V rfl A6 Y<|Zl AE Y<|A4<|AQ<|A3<|Zv (CO Y Y)<|AH Y<|Ak Y (fun W=>?_) (fun W=>?_);·
  refine Zq<|Bc<|Zg<|Zm Y<|Zo Wh (Pa #[_,_,_] EV C5 Y)<|Xr [_,_,_] Y call234 Y V (kE hv hb)<|Xe (Xw C5 _)<|Z0<|Zn [6] ?_;refine Zx<|AL<|Ag<|Zt<|D7 rfl fR Y Wh (Av EV C5 Wn (rfl)) (by exact ⟨.slice none 0 0,[],by rw [uW g W];rfl,by rw [uW g W];exact Bh 5 _,rfl⟩)
 refine A3<|Zv (CO Y Y)<|AH Y<|Ak Y (fun X=>?_) (fun X=>?_);·
  refine Zq<|Bc<|Ay (n:=6) (0::0::3::0::15::31::[]) 52 AD AD V<|G3 0 V Wh (A9 (cs:=#[_,_,_,_,_,_,_]) Fm D4 Y B5 B1)<|A1 1 V (AP Y)<|G3 3 V Wh (Pa #[_,_,_] EV C5 Y)<|Zz (l:=[2])<|BW [true,false] [(3,(_,_))] V rfl (Zw [_,_] Y call237 Y V (NZ hv q G A0)) ?_ Bv Aj;rintro _ _ ⟨_,⟨sm,m,rfl⟩,rfl⟩;refine ⟨Zk (Ab),?_⟩;obtain ⟨U,cm,rfl⟩:=m.form;have I:FX sm U ((Cz q rows).map ivQ):=Ld m
  have O:=Kg q rows;have K:=Eo m
  refine Yw 4 31 V (Zu [_,_,_] Y call236 Y V (A08 I A0 A0 af))<|F0<|Yw 5 63 V (Xw C5 _)<|F0<|Aq<|Zn [6] ?_;refine Zx<|AL<|Ag<|Zt<|D7 rfl fR Y Wh (Av EV C5 Wn (rfl)) (by exact ⟨.slice none 0 0,[],by rw [uV g X];rfl,by rw [uV g X];exact Bh 5 _,rfl⟩)
 refine A3<|Zv (CO Y Y)<|B2 Y<|Zn [1,2,3,6,7,13,26] ?_;refine Zx<|Ak Y (fun Z=>?_) (fun Z=>?_);·
  refine Zq<|Bc<|Ay (n:=7) (0::0::3::0::7::31::63::[]) 116 AD AD V<|G3 0 V Wh (A9 (cs:=#[_,_,_,_,_,_,_]) Fm D4 Y B5 B1)<|A1 1 V (AP Y)<|G3 3 V Wh (Pa #[_,_,_] EV C5 Y)<|Zz (l:=[2])<|BW [true,false] [(3,(_,_))] V rfl (Zw [_,_] Y call237 Y V (NZ hv q G A0)) ?_ Bv Aj;rintro _ _ ⟨_,⟨sm,m,rfl⟩,rfl⟩;refine ⟨Zk (Ab),?_⟩;obtain ⟨U,cm,rfl⟩:=m.form;have I:FX sm U ((Cz q rows).map ivQ):=Ld m
  have O:=Kg q rows;have K:=Eo m
  refine Zz (l:=[4])<|BW [true] [(3,(_,_))] V rfl (Zw [_] Y call239 Y V (O8 (.func (.func 240) #[] #[]) V rfl)) ?_ Bv Aj;rintro _ _ ⟨_,⟨b9,rfl,rfl⟩,rfl⟩;refine C3<|Yw 5 63 V (Zu [_,_,_] Y call236 Y V (dV I A0 A0 b9 240 _ call240 jb))<|F0<|Yw 6 127 V (Xw C5 _)<|F0<|Aq<|Zx<|AL<|Ag<|Zt<|D7 V fR Y Wh (Av EV C5 Wn (V)) (by
   have e8:=XM (fun a b=>decide (a<b)) (Cz q rows) C8.none;exact ⟨.slice none 0 0,[],by rw [uU g Z];rfl,by rw [uU g Z];rw [show(Ei (fun a b=>decide (a<b)) (Cz q rows)).rows=[] from e8];exact Bh 5 _,rfl⟩)
 refine A3<|Zv (CO Y Y)<|AH Y<|Ak Y (fun k6=>?_) (fun k6=>?_);·
  refine Zq<|Bc<|Ay (n:=7) (0::0::3::0::7::31::63::[]) 116 AD AD V<|G3 0 V Wh (A9 (cs:=#[_,_,_,_,_,_,_]) Fm D4 Y B5 B1)<|A1 1 V (AP Y)<|G3 3 V Wh (Pa #[_,_,_] EV C5 Y)<|Zz (l:=[2])<|BW [true,false] [(3,(_,_))] V rfl (Zw [_,_] Y call237 Y V (NZ hv q G A0)) ?_ Bv Aj;rintro _ _ ⟨_,⟨sm,m,rfl⟩,rfl⟩;refine ⟨Zk (Ab),?_⟩;obtain ⟨U,cm,rfl⟩:=m.form;have I:FX sm U ((Cz q rows).map ivQ):=Ld m
  have O:=Kg q rows;have K:=Eo m
  refine Zz (l:=[4])<|BW [true] [(3,(_,_))] V rfl (Zw [_] Y call239 Y V (O8 (.func (.func 241) #[] #[]) V rfl)) ?_ Bv Aj;rintro _ _ ⟨_,⟨b9,rfl,rfl⟩,rfl⟩;refine C3<|Yw 5 63 V (Zu [_,_,_] Y call236 Y V (dV I A0 A0 b9 241 _ call241 ja))<|F0<|Yw 6 127 V (Xw C5 _)<|F0<|Aq<|Zx<|AL<|Ag<|Zt<|D7 V fR Y Wh (Av EV C5 Wn (V)) (by
   have e8:=XM (fun a b=>decide (b<a)) (Cz q rows) C8.none;exact ⟨.slice none 0 0,[],by rw [uT g k6];rfl,by rw [uT g k6];rw [show(Ei (fun a b=>decide (b<a)) (Cz q rows)).rows=[] from e8];exact Bh 5 _,rfl⟩)
 refine A3<|Zv (CO Y Y)<|AH Y<|Ak Y (fun k7=>?_) (fun k7=>?_);·
  refine A3<|Zo Wh (A9 (cs:=#[_,_,_,_,_,_,_]) Fm D4 Y B5 B1)<|Zm Y<|Zm Y<|Zc [_,_,_] Y call242 Y V (bR hv ho q G A0) ?_;rintro _ _ ⟨_,⟨sj,J,rfl⟩,rfl⟩;obtain ⟨gj,cj,rfl⟩:=J.form;refine Zv (BN (vs:=[(0,_)]) (cs:=#[_,_,_]) Y (Aa (pl:=#[(0,1),(1,1),(2,1)]) HS FA (fun _=>by kernel_rfl) rfl))<|Xe (BJ C5 Y Y (by(simp [Value.oneCell',Value.cells];done)) Wu B1 G4 B0 (by exact BB _))<|A4<|AL<|Ag<|Zt<|D7 rfl fR Y Wh (Av EV C5 Wn (rfl)) (by exact ⟨.slice gj _ cj,sj,by rw [uS g k7];rfl,by rw [uS g k7];exact J,rfl⟩)
 refine AC<|AA<|Zx<|AK Y<|Zc [_] Y call107 Y V (Gu hv A0) ?_;rintro _ _ ⟨_,⟨sj,J,rfl⟩,rfl⟩;obtain ⟨gj,cj,rfl⟩:=J.form;refine Zv (BN (vs:=[(0,_)]) (cs:=#[_,_,_]) Y (Aa (pl:=#[(0,1),(1,1),(2,1)]) HS FA (fun _=>by kernel_rfl) rfl))<|Xe (BJ C5 Y Y (by(simp [Value.oneCell',Value.cells];done)) Wu B1 G4 B0 (by exact BB _))<|A4<|AL<|D7 rfl fR Y Wh (Av EV C5 Wn (rfl)) (by exact ⟨.slice gj _ cj,sj,by rw [uX g W X Z k6 k7];rfl,by rw [uX g W X Z k6 k7];exact J,rfl⟩)
theorem vA{x y:C8}:x=y↔x.val=y.val/\x.fnd=y.fnd/\x.rows=y.rows:=by
 obtain ⟨a,b,c⟩:=x;obtain ⟨d,e,f⟩:=y;simp only [C8.mk.injEq];constructor;· rintro ⟨g,h2,m⟩;exact ⟨h2,m,g⟩
 · rintro ⟨g,h2,m⟩;exact ⟨m,g,h2⟩
theorem Xo(h:r.ok)(c:Int):-1000000000<=Bj r c/\Bj r c<=1000000000:=by
 obtain ⟨⟨g,h2,m⟩,G,I⟩:=h;unfold inV at g h2 m;unfold Bj;split;· omega
 · split
   · omega
   · split
     · omega
     · split<;>omega
variable{B:List A8}
theorem A90{A:List A8}(hv:Dp A v rows)(I:Dp B vo others)(q:QM)(m:rows.length<=1000000000)(G:BH q->∀r∈rows,-1000000000<=Bj r q.bq/\Bj r q.bq<=1000000000):BS prog 158 #[.agg q.BM5,v,vo] [A,B] (fun w H'=>∃g s,w= .agg #[g,I4 (Im q rows others).val,.bool (Im q rows others).fnd]/\BU 5 83 g (Im q rows others).rows.length (Ae (Im q rows others).rows) s/\H'=[s,A,B]):=by
 refine Gj (qW (hv.mono (fun c hc=>G1 B hc)) (I.mono (fun c hc=>HK A hc)) q m G) B7 ?_;rintro r H' ⟨g,s,rfl,h,rfl⟩;exact ⟨_,⟨g,s,V,h,V⟩,by simp⟩
theorem nV(v:A2)(p:Int)(rs:List AV)(s:List A8)(hv:RG v p rs s)(t c lo hi:Int)(hc:0<=c/\c<=3):BS prog 100 #[v,I4 t,I4 c,I4 lo,I4 hi] [s] (fun r H'=>∃g,BU 5 83 r (Dw rs t c.toNat lo hi).length (Ae (Dw rs t c.toNat lo hi)) g/\H'=[g,s]):=by
 have h:=ZT v p rs s hv t c.toNat lo hi A0;rwa [show((c.toNat:Nat):Int)=c by omega]at h
theorem Tf{rs:List AV}{t:Int}{c:Nat}{lo hi:Int}:(Dw rs t c lo hi).length<=rs.length/\∀r∈Dw rs t c lo hi,r∈rs:=by
 have h:=Ec rs t c lo hi;exact ⟨by rw [h.length_eq];exact Tl _ _,fun r g=>(GF.1 (h.mem_iff.1 g)).1⟩
theorem jk{G I:A2}{x y:C8}(g:Dp M G x.rows)(m:Dp M I y.rows):Au prog 128 #[.agg #[G,I4 x.val,.bool x.fnd],.agg #[I,I4 y.val,.bool y.fnd]] [M] (.bool (decide (x=y))):=by
 obtain ⟨Z,W,rfl,_⟩:=id g;obtain ⟨pb,X,rfl,_⟩:=id m;refine Se func128 ntmps128 [0,1] ?_;intro u R;refine A3<|Ze (Bx #[_,_,_])<|AF fun O=>Ze (Bx #[_,_,_])<|AF fun U=>AH Y<|A3<|Zh 1 FA V rfl A6 Y<|Zl AE Y<|Zh 1 FA V rfl A6 Y<|Zl AE Y<|Zv (CO Y Y)<|Zm Y<|Af (t:=10) Y V (fun K=>?_) (fun K=>?_);focus
  refine Yf 2 FA V rfl F1 Y<|Yl G0 Y<|Yf 2 FA V rfl F1 Y<|Yl G0 Y<|Yg (ig N6 Y Y)<|C1 Y Y<|Zm Y<|Af (t:=17) Y V (fun h2=>?_) (fun h2=>?_);focus
   refine Yf 0 FA V rfl E3 Y<|Yl GP Y<|Yf 0 FA V rfl E3 Y<|Yl GP Y<|Xr [_,_] Y call213 Y V (dZ g m)<|Zv (AU Y Y) ?_
  rotate_left
  focus
   refine AG<|AG<|C4<|Zv (AJ Y Y) ?_
 rotate_left 2
 focus
  refine AG<|AG<|C4<|B9 Y Y<|Zm Y<|AG<|AG<|C4<|Zv (AJ Y Y) ?_
 all_goals
  refine B2 Y<|Zn [4] ?_;refine Zx<|AL<|AO V results128 Y (by
   have J:decide (x=y)=decide (x.val=y.val/\x.fnd=y.fnd/\x.rows=y.rows):=decide_eq_decide.2 vA;exact ⟨congrArg Value.bool (by rw [J];simp [*]),rfl⟩)
def Ki(c:Chg)(x:AV):Bool:=decide (x.t=c.t)&&decide (x.k=c.k)
def Lv(q:QM)(y x:AV):Bool:=decide (Bj y q.cl<Bj x q.cl)||(decide (Bj x q.cl=Bj y q.cl)&&decide (y.k<x.k))
def Ry(pd:AV->Bool)(rows:List AV)(y:AV):List AV:=rows.take ((rows.findIdx? pd).getD rows.length)++[y]++rows.drop ((rows.findIdx? pd).getD rows.length)
def EB(q:QM)(c:Chg)(rows:List AV):List AV:=match afQ q c with
 |some y=>Ry (Lv q y) (rows.filter fun x=>!Ki c x) y
 |none=>rows.filter fun x=>!Ki c x
def LW(lt:Int->Int->Bool)(b a:Bool)(o n:Int)(r:C8):C8×Bool:=
 if b&&(!r.fnd||!lt r.val o)then(⟨r.rows,n,r.fnd⟩,(a&&r.fnd)&&!lt r.val n)
 else if a then(⟨r.rows,if !r.fnd||lt n r.val then n else r.val,true⟩,true)else(r,true)
theorem A82(g:AV->Bool)(rows:List AV)(y:AV):(Ry g rows y).length=rows.length+1:=by
 unfold Ry;simp only [C0,Cd,Cp,GC];omega
theorem VM(q:QM)(c:Chg)(rows:List AV):(EB q c rows).length<=rows.length+1:=by
 have h:=Tl (fun x=>!Ki c x) rows;unfold EB;split;· rw [A82];omega
 · omega
theorem Ng(lt:Int->Int->Bool)(b a:Bool)(o n:Int)(r:C8):(LW lt b a o n r).1.rows=r.rows:=by
 unfold LW;split;· rfl
 · split<;>rfl
theorem jv{P:Program}{f:FuncId}{args:AN}{H:Hp}{Q:A2->Hp->Prop}(h:BS P f args H Q)(F:Hp):BS P f args (H++F) (fun v H'=>∃H1,Q v H1/\H'=H1++F):=fun u R w G=>
 Calls.mono (h u (F++R) w (by rw [<-DH];exact G)) fun e I m=>by
  rcases m with⟨v,H',rfl,g,h2⟩|⟨ch,H',rfl,g,h2⟩
  · exact .inl ⟨v,H'++F,rfl,⟨H',g,rfl⟩,by rw [DH];exact h2⟩
  · exact g.elim
theorem wL(g:AV->Bool)(rows:List AV):(S9 g rows<0/\(rows.findIdx? g).getD rows.length=rows.length)\/∃i:Nat,i<=rows.length/\S9 g rows=(i:Int)/\(rows.findIdx? g).getD rows.length=i:=by
 unfold S9;cases h:rows.findIdx? g with
 |none=>exact .inl ⟨by simp,rfl⟩
 |some i=>
  obtain ⟨m,_,_⟩:=cS.1 h;exact .inr ⟨i,by omega,V,V⟩
theorem oM(q:QM)(c:Chg)(G I:BE)(o n:Int)(x:AV)(g:Nat):Au prog 296 #[.agg x.BM4,I5 g] [[(g,.cells (q.HL c G I o n) 311 (0,0))]] (.bool (Ki c x)):=by
 refine Se func296 ntmps296 [0,1] ?_;intro u R;refine A3<|Ze (Bx #[_,_,_,_,_])<|AF fun J=>AH Y<|A3<|Zh 0 HC V rfl A6 Y<|Zl AE Y<|Zh 7 Fl V rfl Cl Y<|Zv (Ar (off:=0) CC V rfl A6 Y)<|Zl AE Y<|Zv (CO Y Y)<|Zm Y<|Af (t:=10) Y V (fun m=>?_) (fun m=>?_);focus
  refine Yf 1 HC V rfl A6 Y<|Yl AE Y<|Yf 7 Fl V rfl Cl Y<|Yg (Ar (off:=1) CC V rfl A6 Y)<|Yl AE Y<|Yg (CO Y Y)<|Zv (AU Y Y) ?_
 rotate_left
 focus
  refine AG<|AG<|AG<|Zv (AJ Y Y) ?_
 all_goals
  refine B2 Y<|Zn [3] ?_;refine Zx<|AL<|AO V results296 Y (by exact ⟨by simp [Ki,m],V⟩)
theorem Xi{A:List A8}(hv:Dp A v rows)(hn:rows.length<=1000000000)(g:Nat)(us:List A2)(m:AV->Bool)(G:∀(args:AN) (w:A5),(callFunc g args).run prog w= .ok (.enter g args) w)(J:∀x:AV,Au prog g (.agg x.BM4::us).toArray [B] (.bool (m x))):BS prog 295 #[v,.func (.func g) #[] us.toArray] [A,B] (fun r H'=>∃s,BU 5 83 r (rows.filter fun x=>!m x).length (Ae (rows.filter fun x=>!m x)) s/\H'=[s,A,B]):=by
 obtain ⟨p,cap,rfl,_⟩:=id hv;refine Se func295 ntmps295 [0,1] ?_;intro u R;refine A3<|AH Y<|AK Y<|Zc [_] Y call107 Y V (Gu hv A0) ?_;rintro _ _ ⟨_,⟨s1,I,rfl⟩,rfl⟩;obtain ⟨U,K,rfl⟩:=I.form;refine Zm Y<|Zc [_,_] Y call326 Y V (eB I hn g us m G J) ?_;rintro _ _ ⟨_,⟨s2,h2,rfl⟩,rfl⟩;obtain ⟨W,O,rfl⟩:=h2.form;refine An Y<|AO V results295 Y (by exact ⟨_,h2,V⟩)
theorem VW(G:BU 5 83 v rows.length (Ae rows) s)(hn:rows.length<=1000000000)(y:AV)(g:Nat)(us:List A2)(I:AV->Bool)(U:∀(args:AN) (w:A5),(callFunc g args).run prog w= .ok (.enter g args) w)(hf:∀x:AV,Au prog g (.agg x.BM4::us).toArray [B] (.bool (I x))):BS prog 297 #[v,.agg y.BM4,.func (.func g) #[] us.toArray] [s,B] (fun r H'=>∃X s2,BU 5 83 r (Ry I rows y).length (Ae (Ry I rows y)) X/\H'=[X,s2,B]):=by
 have af:=mL;obtain ⟨p,cap,rfl⟩:=G.form;have hU:=Dl G A0
 refine Se func297 ntmps297 [0,1,2] ?_;intro u R;refine A3<|Ze (Bx #[_,_,_,_,_])<|AF fun bx=>AH Y<|AK Y<|Zm Y<|Xr [_,_] Y call170 Y V (UY hU g us I U hf) ?_;obtain ⟨z9,O⟩:∃z,z=S9 I rows:=⟨_,rfl⟩;rw [<-O];have m:=wL I rows
 rw [<-O]at m;refine AH Y<|Zb [7,0,4] ?_;refine CP (e0:=[(7,_)]) (H0:=[]) (fun e H=>∃(i:Nat),(i<=rows.length/\(rows.findIdx? I).getD rows.length=i)/\e=[(7,I4 (i:Int))]/\H=[]) Wp ?hx_1 ?hy_1
 case hx_1=>
  refine AK Y<|Zv (Dy Y Y)<|A4<|Ak Y (fun K=>?_) (fun K=>?_);·
   refine Zg<|Zm Y<|Zv (AR C2 Y)<|B2 Y<|HB (e:=[(7,_)]) (h:=by exact ⟨rows.length,⟨D0 _,by rcases m with⟨_,h⟩|⟨i,h1,h2,J⟩;exact h;omega⟩,rfl,rfl⟩)
  rcases m with⟨h9,_⟩|⟨i,h1,h2,J⟩
  · exact absurd h9 K
  subst h2;refine AC<|Hh (by exact ⟨i,⟨h1,J⟩,V,V⟩)
 rintro _ _ ⟨i,⟨hi,W⟩,rfl,rfl⟩;refine AK Y<|Zm Y<|Zo Wh (Pa #[_,_,_,_,_] DM B6 Y)<|Ze (Ah (vs:=[_]) (cs:=[_,_,_,_,_]) C2 B6 Ft Y V rfl V rfl V)<|AF fun Z=>Zc [_,_,_] Y call327 Y V (cB G hn i hi y Z) ?_;rintro _ _ ⟨_,⟨s3,s4,J,rfl⟩,rfl⟩;obtain ⟨g3,c3,rfl⟩:=J.form;refine An Y<|AO rfl results297 Y (by exact ⟨_,s4,by unfold Ry;rw [W];exact J,rfl⟩)
theorem Yr(q:QM)(G:0<=q.cl/\q.cl<=3)(c:Chg)(J:BE)(o n:Int)(y:AV)(g:Nat):BS prog 298 #[.agg #[I4 q.kd,I4 q.tb,I4 q.cl,I4 q.lo,I4 q.hi,I4 q.bq,I4 q.ot,I4 c.t,I4 c.k,.bool c.had,I4 c.o.a,I4 c.o.b,I4 c.o.c,.bool c.has,I4 c.n.a,I4 c.n.b,I4 c.n.c,.pointer J,I5 g,I4 o,I4 n]] [[(g,.cells y.BM4 83 (0,0))]] (fun r H'=>∃I m,r= .func (.func 328) #[] #[I5 I,I5 m]/\H'=[[(I,.cells #[I4 q.kd,I4 q.tb,I4 q.cl,I4 q.lo,I4 q.hi,I4 q.bq,I4 q.ot,I4 c.t,I4 c.k,.bool c.had,I4 c.o.a,I4 c.o.b,I4 c.o.c,.bool c.has,I4 c.n.a,I4 c.n.b,I4 c.n.c,.pointer J,I5 g,I4 o,I4 n] 311 (0,0))],[(m,.cells #[I4 (Bj y q.cl)] 3 (0,0))],[(g,.cells y.BM4 83 (0,0))]]):=by
 refine Se func298 ntmps298 [0] ?_;intro u R;refine A3<|Ze (Fu Y (cs:=#[I4 q.kd,I4 q.tb,I4 q.cl,I4 q.lo,I4 q.hi,I4 q.bq,I4 q.ot,I4 c.t,I4 c.k,.bool c.had,I4 c.o.a,I4 c.o.b,I4 c.o.c,.bool c.has,I4 c.n.a,I4 c.n.b,I4 c.n.c,.pointer J,I5 g,I4 o,I4 n]) (GQ q c J (some ⟨g,0,none⟩) o n))<|AF fun I=>CT Y<|Ay (n:=10) (0::1::3::7::0::16::48::127::0::511::[]) 896 AD AD V<|A1 0 V (AB (off:=18) Fl V rfl N3 Y)<|Bm 1 V RR Y ?_;refine A1 2 V (Ao Y V)<|G3 3 V Wh (A9 (cs:=#[_,_,_,_,_]) DM B6 Y B5 B1) ?_;refine A1 4 V (AB (off:=0) Fl V rfl D4 Y)<|A1 5 V (Ar (off:=2) DB V rfl A6 Y)<|Bm 6 V AE Y ?_;refine Zz (l:=[7,8])<|BW [false,false,false] [] V rfl (Zu [_,_] Y Up Y V (GI y q.cl G)) ?hk_1 (fun _ _ h=>h.elim) ?hl_1
 case' hk_1=>
  rintro _ _ ⟨rfl,rfl⟩;refine C3<|Yz 8 0 511 [] [] [] V Y V rfl V rfl (Al HT #[_]) ?_;rintro _ _ ⟨m,rfl,rfl⟩
 case' hl_1=>
  refine BW [true,true,true] [(6,(_,_)),(3,(_,_)),(1,(_,_))] V rfl (Al HT #[_]) ?hk_5 (fun _ _ h=>h.elim) ?hl_5
  case' hk_5=>
   rintro _ _ ⟨m,rfl,rfl⟩;refine C3<|Yz 7 127 511 [6,3,1] [false,false,false] [] V Y V rfl V rfl (Zu [_,_] Y Up Y V (GI y q.cl G)) ?_;rintro _ _ ⟨rfl,rfl⟩
  case' hl_5=>
   exact Aj
 all_goals
  refine C3<|Yw 9 1023 V (Zs A6 Y Y V (hi:=by decide))<|F0<|Aq<|C6<|Zv (Be (vs:=[]) (us:=[_,_]) Y Y)<|B2 Y<|Zn [2] ?_;refine Zx<|AL<|AO V results298 Y (by exact ⟨I,m,V,V⟩)
theorem sP(q:QM)(m:0<=q.cl/\q.cl<=3)(c:Chg)(K:BE)(o n:Int)(y:AV)(G I J:Nat)(x:AV):Au prog 328 #[.agg x.BM4,I5 I,I5 J] [[(I,.cells #[I4 q.kd,I4 q.tb,I4 q.cl,I4 q.lo,I4 q.hi,I4 q.bq,I4 q.ot,I4 c.t,I4 c.k,.bool c.had,I4 c.o.a,I4 c.o.b,I4 c.o.c,.bool c.has,I4 c.n.a,I4 c.n.b,I4 c.n.c,.pointer K,I5 G,I4 o,I4 n] 311 (0,0))],[(J,.cells #[I4 (Bj y q.cl)] 3 (0,0))],[(G,.cells y.BM4 83 (0,0))]] (.bool (Lv q y x)):=by
 refine Se func328 ntmps328 [0,1,2] ?_;intro u R;refine A3<|Ze (Bx #[_,_,_,_,_])<|AF fun O=>AH Y<|A3<|Zo Wh (A9 (cs:=#[_,_,_,_,_]) DM B6 Y B5 B1)<|Zh 0 Fl V rfl D4 Y<|Zv (Ar (off:=2) DB V rfl A6 Y)<|Zl AE Y<|Xr [_,_] Y Up Y V (GI x q.cl m)<|CT Y<|Ay (n:=19) (0::0::3::7::15::15::63::127::255::511::255::1279::3327::7423::15615::32767::65535::131071::262143::[]) 0 AD AD V<|A1 0 V (AP Y)<|Bm 1 V AE Y<|A1 2 V (F4 Y Y)<|A1 3 V (AP Y)<|Cs (t:=14) Y (fun g=>?_) (fun g=>?_);focus
  rw [DE g];refine AW 4 V<|AW 5 V<|AW 6 V<|AW 7 V<|AW 8 V<|AW 9 V<|AW 10 V<|AW 11 V<|AW 12 V<|AW 13 V<|AW 14 V<|AW 15 V<|AW 16 V<|A1 17 V (AU Y Y) ?_
 rotate_left
 focus
  rw [DQ g];refine B4 4 V (AP Y)<|FF 5 V Wh (BK AE Y B1)<|B4 6 V (CO Y Y)<|B4 7 V (AP Y)<|Cs (t:=18) Y (fun h2=>?_) (fun h2=>?_);focus
   rw [DE h2];refine B4 8 V (AB (off:=1) HC V rfl A6 Y)<|FF 9 V Wh (BK AE Y B1)<|B4 10 V (AB (off:=18) Fl V rfl N3 Y)<|FF 11 V Wh (BK RR Y B1)<|B4 12 V (Ao Y V)<|B4 13 V (AB (off:=1) HC V rfl A6 Y)<|FF 14 V Wh (BK AE Y B1)<|B4 15 V (F4 Y Y)<|B4 16 V (AU Y Y)<|A1 17 V (AJ Y Y) ?_
  rotate_left
  focus
   rw [DQ h2];refine AW 8 V<|AW 9 V<|AW 10 V<|AW 11 V<|AW 12 V<|AW 13 V<|AW 14 V<|AW 15 V<|B4 16 V (AJ Y Y)<|A1 17 V (AJ Y Y) ?_
 all_goals
  refine A1 18 V (BC Y)<|Aq<|Zn [4] ?_;refine Zx<|AL<|AO V results328 Y (by exact ⟨by simp [Lv, *],V⟩)
theorem Rp(q:QM)(I:0<=q.cl/\q.cl<=3)(c:Chg)(J:BE)(o n:Int)(y:AV)(g:Nat):BS prog 298 #[.agg #[I4 q.kd,I4 q.tb,I4 q.cl,I4 q.lo,I4 q.hi,I4 q.bq,I4 q.ot,I4 c.t,I4 c.k,.bool c.had,I4 c.o.a,I4 c.o.b,I4 c.o.c,.bool c.has,I4 c.n.a,I4 c.n.b,I4 c.n.c,.pointer J,I5 g,I4 o,I4 n]] [[(g,.cells y.BM4 83 (0,0))]] (fun r H'=>∃m G,r= .func (.func 328) #[] ([I5 m,I5 G]:List A2).toArray/\H'=[[(m,.cells #[I4 q.kd,I4 q.tb,I4 q.cl,I4 q.lo,I4 q.hi,I4 q.bq,I4 q.ot,I4 c.t,I4 c.k,.bool c.had,I4 c.o.a,I4 c.o.b,I4 c.o.c,.bool c.has,I4 c.n.a,I4 c.n.b,I4 c.n.c,.pointer J,I5 g,I4 o,I4 n] 311 (0,0))]++[(G,.cells #[I4 (Bj y q.cl)] 3 (0,0))]++[(g,.cells y.BM4 83 (0,0))]]):=by
 refine Gj (Yr q I c J o n y g) V ?_;rintro r H' ⟨m,G,rfl,rfl⟩;exact ⟨_,⟨m,G,V,V⟩,by simp⟩
theorem eX(q:QM)(I:0<=q.cl/\q.cl<=3)(c:Chg)(J:BE)(o n:Int)(y:AV)(g m G:Nat)(x:AV):Au prog 328 (.agg x.BM4::([I5 m,I5 G]:List A2)).toArray [[(m,.cells #[I4 q.kd,I4 q.tb,I4 q.cl,I4 q.lo,I4 q.hi,I4 q.bq,I4 q.ot,I4 c.t,I4 c.k,.bool c.had,I4 c.o.a,I4 c.o.b,I4 c.o.c,.bool c.has,I4 c.n.a,I4 c.n.b,I4 c.n.c,.pointer J,I5 g,I4 o,I4 n] 311 (0,0))]++[(G,.cells #[I4 (Bj y q.cl)] 3 (0,0))]++[(g,.cells y.BM4 83 (0,0))]] (.bool (Lv q y x)):=by
 refine Gj (sP q I c J o n y g m G x) V ?_;rintro r H' ⟨rfl,rfl⟩;exact ⟨_,⟨V,V⟩,by simp⟩
set_option maxHeartbeats 1000000 in
theorem iB(q:QM)(c:Chg)(g m:BE)(o n:Int)(G:0<=q.cl/\q.cl<=3){r:C8}{rv:A2}{sr:List A8}(hr:BU 5 83 rv r.rows.length (Ae r.rows) sr)(hn:r.rows.length<=100000000){s2:List A8}(h2:J2 m (afQ q c) s2):BS prog 251 #[.agg (q.HL c g m o n),.agg #[rv,I4 r.val,.bool r.fnd]] [sr,s2] (fun w H'=>∃I s',w= .tuple #[.agg #[I,I4 r.val,.bool r.fnd],.bool true]/\BU 5 83 I (EB q c r.rows).length (Ae (EB q c r.rows)) s'/\H'=[s']):=by
 have ax:=mL;obtain ⟨pv,cv,rfl⟩:=hr.form;have hU:=Dl hr A0
 have af:(r.rows.filter fun x=>!Ki c x).length<=r.rows.length:=Tl _ _;refine Se func251 ntmps251 [0,1] ?_;intro u R;refine A3<|Ze (Fu Y (cs:=(q.HL c g m o n)) (GQ q c g m o n))<|AF fun O=>Ze (Bx #[.slice pv r.rows.length cv,I4 r.val,.bool r.fnd])<|AF fun br=>Ze (Al HS #[_,_,_])<|AF fun b3=>AH Y<|A3<|Zh 0 FA V rfl E3 Y<|Zl GP Y ?_;refine Zv (Be (vs:=[]) (us:=[_]) Y Y)<|Zc [_,_] Y call295 Y V (Xi (B:=[(O,.cells (q.HL c g m o n) 311 (0,0))]) hU A0 296 [I5 O] (Ki c) call296 (fun x=>oM q c g m o n x O)) ?_;rintro _ _ ⟨_,⟨s3,U,rfl⟩,rfl⟩;obtain ⟨g3,c3,rfl⟩:=U.form;refine Zh 0 FA V rfl E3 Y<|Xe (Zs E3 Y Y V (hi:=by(simp;done))) ?_;refine A4<|Zb [2,3,4] ?_;refine CP (e0:=[(2,_)]) (H0:=[[(br,.cells #[.slice g3 (r.rows.filter fun x=>!Ki c x).length c3,I4 r.val,.bool r.fnd] 60 (0,0))],s3,s2]) (fun e H=>∃(w:A2) (J:List A8),(BU 5 83 w (EB q c r.rows).length (Ae (EB q c r.rows)) J)/\e=[]/\H=[[(br,.cells #[w,I4 r.val,.bool r.fnd] 60 (0,0))],J]) Wp ?hx_1 ?hy_1
 case hx_1=>
  refine A3<|Zh 18 Fl V rfl N3 Y<|Zl RR Y ?_;refine Zv (G6 WD Y Y)<|A4<|AY Y (fun W=>?_) (fun W=>?_);·
   obtain ⟨y,hy⟩:∃y,afQ q c=some y:=kk.1 (by rw [<-h2.some_];exact W);rw [hy]at h2;obtain ⟨K,rfl,rfl⟩:=h2;refine Ay (n:=11) (0::1::0::4::12::28::0::64::255::511::1023::[]) 1408 AD AD V<|A1 0 V (AB (off:=0) FA V rfl E3 Y)<|Bm 1 V GP Y ?_;refine A1 2 V (AB (off:=18) Fl V rfl N3 Y)<|Bm 3 V RR Y ?_;refine A1 4 V (Ao Y V)<|Cn (b:=K) (x:= .cells y.BM4 83 (0,0)) (D':=63) 5 V rfl V B7 (Pa y.BM4 DM B6 Y) ?_;refine G3 6 V Wh (A9 eE cH Y B5 (by exact Az V)) ?_;refine Zz (l:=[7])<|BW [false,true,true,true] [(5,(_,_)),(3,(_,_)),(1,(_,_))] V rfl (Zw [_] Y call298 Y V (Rp q G c g o n y K)) ?_ Bv Aj;rintro _ _ ⟨_,⟨X,Z,rfl,rfl⟩,rfl⟩;refine ⟨FP (by simp [*]) (Zk (Zk (Ab))),?_⟩;refine Zz (l:=[8])<|BW [false,false,false] [] V rfl (Zw [_,_,_] Y call297 Y V (VW U A0 y 328 [I5 X,I5 Z] (Lv q y) call328 (fun x=>eX q G c g o n y K X Z x))) ?_ Bv Aj;rintro _ _ ⟨_,⟨s5,s6,h5,rfl⟩,rfl⟩;refine ⟨Ab,?_⟩;obtain ⟨g5,c5,rfl⟩:=h5.form;refine A1 9 V (AB (off:=0) FA V rfl E3 Y)<|Zz (l:=[10])<|BW [] [] V rfl (Zs E3 Y Y V (hi:=by(simp;done))) ?_ (fun _ _ h=>h.elim) Aj;rintro _ _ ⟨rfl,rfl⟩;refine C3<|Aq<|HB (e:=[]) (h:=by exact ⟨_,s5,by unfold EB;rw [hy];exact h5,rfl,rfl⟩)
  have hy:afQ q c=none:=by have h9:=h2.some_;rw [W]at h9;exact uj.1 (by rw [<-h9];decide)
  refine AC<|HB (e:=[]) (h:=by exact ⟨_,s3,by unfold EB;rw [hy];exact U,rfl,rfl⟩)
 rintro _ _ ⟨w,J,h4,rfl,rfl⟩;obtain ⟨p4,c4,rfl⟩:=h4.form;refine A3<|Zo Wh (A9 (cs:=#[_,_,_]) EV C5 Y B5 (by exact Az V)) ?_;refine Xe (BJ C5 Y Y K0 Wu (by exact Dz rfl) G4 B0 (by exact BB _)) ?_;refine An Y<|CS V results251 Y Wh (Av EV C5 Wn (V)) Y (by exact ⟨_,J,V,h4,V⟩)
theorem aa(q:QM)(c:Chg)(I g:BE)(o n:Int){r:C8}(J:BE)(G m:Nat)(hv:-4000000000000000000<=r.val/\r.val<=4000000000000000000):Au prog 253 #[.agg (q.HL c I g o n),.agg #[.slice J G m,I4 r.val,.bool r.fnd]] [] (.tuple #[.agg #[.slice J G m,I4 (if g.isSome then r.val+1 else r.val -1),.bool r.fnd],.bool true]):=by
 refine Se func253 ntmps253 [0,1] ?_;intro u R;refine A3<|Ze (Fu Y (cs:=(q.HL c I g o n)) (GQ q c I g o n))<|AF fun U=>Ze (Bx #[.slice J G m,I4 r.val,.bool r.fnd])<|AF fun W=>Ze (Al HS #[_,_,_])<|AF fun O=>CT Y<|A3<|Zh 18 Fl V rfl N3 Y<|Zl RR Y ?_;refine Zv (G6 WD Y Y)<|A4<|AY Y (fun K=>?_) (fun K=>?_);focus
  refine Zg<|Zh 1 FA V rfl A6 Y<|Zl AE Y ?_;refine Yi Y Y ?_
 rotate_left
 focus
  refine Zg<|Zh 1 FA V rfl A6 Y<|Zl AE Y ?_
  (refine BX (GZ Y Y (IntWalk.i64_in _ ?_)) ?_;(focus (omega)))
 all_goals
  refine Zh 1 FA V rfl A6 Y<|Xe (Zs A6 Y Y V (hi:=by(simp;done))) ?_;refine A4<|A3<|Zo Wh (A9 (cs:=#[_,_,_]) EV C5 Y B5 B1) ?_;refine Xe (Xw C5 _) ?_;refine B2 Y<|Zn [4,5] ?_;refine Zx<|AL<|CS rfl results253 Y Wh (Av EV C5 Wn (rfl)) Y (by exact ⟨by rw [K];rfl,rfl⟩)
theorem oH(q:QM)(c:Chg)(G I:BE)(o n:Int){r:C8}(J:BE)(m g:Nat)(hv:-4000000000000000000<=r.val/\r.val<=4000000000000000000)(W:(-1000000000<=o/\o<=1000000000)/\-1000000000<=n/\n<=1000000000):Au prog 255 #[.agg (q.HL c G I o n),.agg #[.slice J m g,I4 r.val,.bool r.fnd]] [] (.tuple #[.agg #[.slice J m g,I4 (r.val+(n -o)),.bool r.fnd],.bool true]):=by
 refine Se func255 ntmps255 [0,1] ?_;intro u R;refine A3<|Ze (Fu Y (cs:=(q.HL c G I o n)) (GQ q c G I o n))<|AF fun O=>Ze (Bx #[.slice J m g,I4 r.val,.bool r.fnd])<|AF fun U=>Ze (Al HS #[_,_,_])<|AF fun K=>AH Y<|A3<|Zh 1 FA V rfl A6 Y<|Zl AE Y ?_;refine Zh 20 Fl V rfl A6 Y<|Zl AE Y ?_;refine Zh 19 Fl V rfl A6 Y<|Zl AE Y ?_
 (refine BX (GZ Y Y (IntWalk.i64_in _ ?_)) ?_;(focus (omega)))
 refine Yi Y Y<|Zh 1 FA V rfl A6 Y<|Xe (Zs A6 Y Y V (hi:=by(simp;done))) ?_;refine Z0<|Zn [3,4] ?_;refine C6<|Zo Wh (A9 (cs:=#[_,_,_]) EV C5 Y B5 B1) ?_;refine Xe (Xw C5 _) ?_;refine An Y<|CS V results255 Y Wh (Av EV C5 Wn (V)) Y (by exact ⟨V,V⟩)
end Go.Proofs.YtlkdhannldcfbabGreatDoor
