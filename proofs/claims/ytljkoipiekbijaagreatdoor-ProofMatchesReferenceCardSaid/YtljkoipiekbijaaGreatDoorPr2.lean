/- predicate.kinds, Touches. -/
import Derived.Test.YtljkoipiekbijaaGreatDoorPr1
set_option linter.unusedVariables false
set_option linter.unusedSimpArgs false
namespace Go.Proofs.YtljkoipiekbijaaGreatDoor
open Go.Proofs.Tryz
open Go Go.RowKit Gw
set_option maxRecDepth 100000
attribute [local irreducible] Gw.At Gw.Nx Gw.Ops
def Mm(b5 b6:Nat):List (Int×A3):=[(1,.agg #[.func (.func 221) #[] #[],.func (.func 222) #[] #[]]),(2,.agg #[.func (.func 221) #[] #[],.func (.func 222) #[] #[]]),(3,.agg #[.func (.func 223) #[] #[],.func (.func 224) #[] #[]]),(4,.agg #[.func (.func 225) #[] #[],.func (.func 226) #[] #[]]),(5,.agg #[.func (.func 227) #[] #[],.func (.func 256) #[] #[I5 b5]]),(6,.agg #[.func (.func 230) #[] #[],.func (.func 256) #[] #[I5 b6]]),(7,.agg #[.func (.func 232) #[] #[],.func (.func 233) #[] #[]])]
variable{lm:List (Int×A3)}{k:Int}{v:A3}
theorem ZA{g m:Nat}(h:∀p,p∈lm↔p∈Mm g m)(hn:(lm.map (·.1)).Nodup)(z:(k,v)∈Mm g m):Je k lm=some v:=JD hn ((h _).2 z)
def IZ(k:Int):Nat:=if k=1 then 221 else if k=2 then 221 else if k=3 then 223 else if k=4 then 225 else if k=5 then 227 else if k=6 then 230 else 232
theorem qU{g m:Nat}(h:∀p,p∈lm↔p∈Mm g m)(hn:(lm.map (·.1)).Nodup)(z:1<=k/\k<=7):∃pf,Je k lm=some (.agg #[.func (.func (IZ k)) #[] #[],pf]):=by
 obtain h9|h9|h9|h9|h9|h9|h9:k=1\/k=2\/k=3\/k=4\/k=5\/k=6\/k=7:=by omega
 all_goals subst h9
 all_goals exact ⟨_,ZA h hn (by simp [Mm,IZ];rfl)⟩
theorem PW(v:A3)(g:v.oneCell'=true)(hc:v.cells=#[v]):CJ prog 228 #[v] [] (fun r H'=>∃b,r= .func (.func 256) #[] #[I5 b]/\H'=[[(b,.cells #[v] 141 (0,0))]]):=by
 refine Se func228 ntmps228 [0] ?_;intro u R;refine A2<|Ze (J2 Y (cs:=#[v]) hc)<|AE fun b=>AF Y<|A2<|Zv (CV (vs:=[]) (us:=[_]) Y Y)<|AM Y<|AO V results228 Y (by exact ⟨b,V,V⟩)
theorem OE:CJ prog 188 #[] [] (fun v H'=>∃b es ck lm g m,v= .map (some b)/\FY (fun k:Int=>I4 k) es ck lm/\(∀p,p∈lm↔p∈Mm g m)/\H'=[[(b,.map es ck)],[(g,.cells #[.func (.func 229) #[] #[]] 141 (0,0))],[(m,.cells #[.func (.func 231) #[] #[]] 141 (0,0))]]):=by
 refine Se func188 ntmps188 [] ?_;intro u R;refine A2<|AF Y<|A2<|Ze (Po)<|AE fun mb=>Zv (BK (vs:=[(0,.func (.func 221) #[] #[]),(1,.func (.func 222) #[] #[])]) (cs:=#[.func (.func 221) #[] #[],.func (.func 222) #[] #[]]) Y (AY (pl:=#[(0,1),(1,1)]) Wr Wg (fun _=>by kernel_rfl) AG))<|Ze (Jv Ij Wk (TP _) (fun _ _=>trivial) (trivial) Y Y Y Wo) ?_;rintro _ _ ⟨rfl,kz,d9,o9,G,X,rfl⟩;refine Zv (BK (vs:=[(0,.func (.func 221) #[] #[]),(1,.func (.func 222) #[] #[])]) (cs:=#[.func (.func 221) #[] #[],.func (.func 222) #[] #[]]) Y (AY (pl:=#[(0,1),(1,1)]) Wr Wg (fun _=>by kernel_rfl) AG))<|Ze (Jv Ij Wk G (fun _ _=>trivial) (trivial) Y Y Y Wo) ?_;rintro _ _ ⟨rfl,l8,ek,oq,I,Z,rfl⟩;refine Zv (BK (vs:=[(0,.func (.func 223) #[] #[]),(1,.func (.func 224) #[] #[])]) (cs:=#[.func (.func 223) #[] #[],.func (.func 224) #[] #[]]) Y (AY (pl:=#[(0,1),(1,1)]) Wr Wg (fun _=>by kernel_rfl) AG))<|Ze (Jv Ij Wk I (fun _ _=>trivial) (trivial) Y Y Y Wo) ?_;rintro _ _ ⟨rfl,l9,gm,p8,J,af,rfl⟩;refine Zv (BK (vs:=[(0,.func (.func 225) #[] #[]),(1,.func (.func 226) #[] #[])]) (cs:=#[.func (.func 225) #[] #[],.func (.func 226) #[] #[]]) Y (AY (pl:=#[(0,1),(1,1)]) Wr Wg (fun _=>by kernel_rfl) AG))<|Ze (Jv Ij Wk J (fun _ _=>trivial) (trivial) Y Y Y Wo) ?_;rintro _ _ ⟨rfl,lv,gq,p9,K,ax,rfl⟩;refine Zc [_] Y call228 Y V (PW (.func (.func 229) #[] #[]) V rfl) ?_;rintro _ _ ⟨_,⟨g,rfl,rfl⟩,rfl⟩;refine Zv (BK (vs:=[(0,.func (.func 227) #[] #[]),(1,.func (.func 256) #[] #[I5 g])]) (cs:=#[.func (.func 227) #[] #[],.func (.func 256) #[] #[I5 g]]) Y (AY (pl:=#[(0,1),(1,1)]) Wr Wg (fun _=>by kernel_rfl) AG))<|Ze (Jv Ij Wk K (fun _ _=>trivial) (trivial) Y Y Y Wo) ?_;rintro _ _ ⟨rfl,mR,gy,pg,O,bf,rfl⟩;refine Zc [_] Y call228 Y V (PW (.func (.func 231) #[] #[]) V rfl) ?_;rintro _ _ ⟨_,⟨m,rfl,rfl⟩,rfl⟩
 refine Zv (BK (vs:=[(0,.func (.func 230) #[] #[]),(1,.func (.func 256) #[] #[I5 m])]) (cs:=#[.func (.func 230) #[] #[],.func (.func 256) #[] #[I5 m]]) Y (AY (pl:=#[(0,1),(1,1)]) Wr Wg (fun _=>by kernel_rfl) AG))<|Ze (Jv Ij Wk O (fun _ _=>trivial) (trivial) Y Y Y Wo) ?_;rintro _ _ ⟨rfl,o8,kv,pq,U,bn,rfl⟩;refine Zv (BK (vs:=[(0,.func (.func 232) #[] #[]),(1,.func (.func 233) #[] #[])]) (cs:=#[.func (.func 232) #[] #[],.func (.func 233) #[] #[]]) Y (AY (pl:=#[(0,1),(1,1)]) Wr Wg (fun _=>by kernel_rfl) AG))<|Ze (Jv Ij Wk U (fun _ _=>trivial) (trivial) Y Y Y Wo) ?_;rintro _ _ ⟨rfl,E,z,cO,W,cu,rfl⟩;refine Zm Y<|AN Y<|Zn [0] ?_;refine Zx<|AC<|AO V results188 Y (by
  refine ⟨mb,E,z,cO,g,m,V,W,fun p=>?_,V⟩;rw [cu,bn,bf,ax,af,Z,X];simp only [Mm,H4,PJ,R0,false_and];constructor;· rintro (rfl|⟨rfl|⟨rfl|⟨rfl|⟨rfl|⟨rfl|⟨rfl,-⟩,-⟩,-⟩,-⟩,-⟩,-⟩)<;>simp
  · rintro (h|h|h|h|h|h|h)<;>subst h<;>simp)
theorem eG(q:QM)(c:Chg)(Z:BH q){g m:C1}{s1 s2:List AR}(U:JQ g (bfQ q c) s1)(h2:JQ m (afQ q c) s2):BB prog (IZ q.kd) #[.agg (q.HU c g m (mQ q (bfQ q c)) (mQ q (afQ q c)))] [] (.bool (Dc q c)):=by
 have K:=U.some_;have O:=h2.some_
 have X:q.kd=1\/q.kd=2\/q.kd=3\/q.kd=4\/q.kd=5\/q.kd=6\/q.kd=7:=by have:=Z.2.2.2;omega
 have z:=ah q c g m (mQ q (bfQ q c)) (mQ q (afQ q c));have J:=TJ q c g m (mQ q (bfQ q c)) (mQ q (afQ q c))
 have W:=vS q c g m (mQ q (bfQ q c)) (mQ q (afQ q c));have E:=vR q c g m (mQ q (bfQ q c)) (mQ q (afQ q c))
 have G:=vQ q c g m (mQ q (bfQ q c)) (mQ q (afQ q c));have I:=vP q c g m (mQ q (bfQ q c)) (mQ q (afQ q c))
 rw [K,O]at z J E G I;rcases X with h|h|h|h|h|h|h
 · rw [show IZ q.kd=221 by rw [h];rfl,show Dc q c=U4 q c by unfold Dc;rw [B2 A0]];exact z
 · rw [show IZ q.kd=221 by rw [h];rfl,show Dc q c=U4 q c by unfold Dc;rw [B2 A0]];exact z
 · rw [show IZ q.kd=223 by rw [h];rfl,show Dc q c=TK q c by unfold Dc;rw [Ax A0,B2 A0]];exact J
 · rw [show IZ q.kd=225 by rw [h];rfl,show Dc q c=decide (mQ q (bfQ q c)≠mQ q (afQ q c)) by unfold Dc;rw [Ax A0,Ax A0,B2 A0]];exact W
 · rw [show IZ q.kd=227 by rw [h];rfl,show Dc q c=(TK q c||decide (mQ q (bfQ q c)≠mQ q (afQ q c))) by unfold Dc;rw [Ax A0,Ax A0,Ax A0,B2 A0]];exact E
 · rw [show IZ q.kd=230 by rw [h];rfl,show Dc q c=(TK q c||decide (mQ q (bfQ q c)≠mQ q (afQ q c))) by unfold Dc;rw [Ax A0,Ax A0,Ax A0,B2 A0]];exact G
 · rw [show IZ q.kd=232 by rw [h];rfl,show Dc q c=(U4 q c||decide (c.t=q.ot)) by unfold Dc;rw [Ax A0,Ax A0,Ax A0,Ax A0]];exact I
theorem lD(g:1<=k/\k<=7):∀(args:As) (w:AD),(callFunc (IZ k) args).run prog w= .ok (.enter (IZ k) args) w:=by
 obtain h|h|h|h|h|h|h:k=1\/k=2\/k=3\/k=4\/k=5\/k=6\/k=7:=by omega
 all_goals (subst h;simp only [IZ];first|exact call221|exact call223|exact call225|exact call227|exact call230|exact call232)
variable{q:QM}
theorem BH.kind(h:BH q):1<=q.kd/\q.kd<=7:=by have:=h.2.2.2;omega
theorem Oc(q:QM)(c:Chg):BB prog 150 #[.agg q.Ax4,.agg c.Ax2] [] (.bool (decide (BH q)&&(decide c.ok&&Dc q c))):=by
 refine Se func150 ntmps150 [0,1] ?_;intro u R;refine A2<|Ze (Bx #[_,_,_,_,_,_,_])<|AE fun pq=>Ze (Bx #[_,_,_,_,_,_,_,_,_,_])<|AE fun pc=>CT Y<|Au (n:=18) (0::1::3::7::15::31::63::127::127::383::1023::2047::127::127::12543::32767::65535::131071::[]) 49298 AG AG V<|Fo 0 V Wh (A7 (cs:=#[_,_,_,_,_,_,_]) DE CN Y BW B5)<|Yw 1 3 V (Zu [_] Y call31 Y V (Ld q))<|DA<|A1 2 V (AA Y)<|CQ (t:=7) Y (fun g=>?_) (fun g=>?_);·
  rw [g];refine DG 3 V Wh (A7 (cs:=#[_,_,_,_,_,_,_,_,_,_]) G1 D2 Y BW B5)<|Yw 4 31 V (Zu [_] Y call182 Y V (Ut c))<|DA<|A1 5 V (Ay Y Y)<|A1 6 V (AA Y)<|CQ (t:=11) Y (fun h2=>?_) (fun h2=>?_);focus
   rw [h2];refine B1 8 V (AL (off:=0) CH V rfl A4 Y)<|DG 9 V Wh (BZ A5 Y B5)<|DG 12 V Wh (A7 (cs:=#[_,_,_,_,_,_,_]) DE CN Y BW B5)<|DG 13 V Wh (A7 (cs:=#[_,_,_,_,_,_,_,_,_,_]) G1 D2 Y BW B5)<|Zz (l:=[7])<|C6 [true,true,true] [(13,(_,_)),(12,(_,_)),(9,(_,_))] V rfl (Zw [] Y call188 Y V (OE)) ?hk_3 DC ?hl_3
   case' hk_3=>
    rintro _ _ ⟨_,⟨W,es,U,lm,K,O,rfl,I,J,rfl⟩,rfl⟩;refine ⟨Zk (Zk (Zk (Ab))),?_⟩;have z:BH q:=I2 g
    obtain ⟨pf,m⟩:=qU J I.keys z.kind;refine DG 10 rfl Wh (QP Ij Wk Wr I (fun _ _=>trivial) (trivial) ((by rw [m];exact rfl:_=Value.agg #[.func (.func (IZ q.kd)) #[] #[],pf])) Y Y)<|B1 11 rfl (X4 Wg rfl isAgg233 Y rfl)<|Zz (l:=[14])<|C6 [true,false,false,true] [(10,(_,_)),(9,(_,_))] rfl rfl (Zw [_,_] Y call189 Y rfl (Ka q z.2.1 (by have:=z.2.2.2;omega) c)) ?hk_4 DC ?hl_4
    case' hk_4=>
     rintro _ _ ⟨_,⟨X,Z,s1,s2,rfl,E,G,rfl⟩,rfl⟩;refine CA<|Yw 15 65535 V (Zu [_] Y (lD z.kind) Y V (eG q c z E G))<|DA<|A1 16 V (Ay Y Y) ?_
    case' hl_4=>
     exact Ar
   case' hl_3=>
    exact Ar
  rotate_left
  focus
   rw [h2];refine AK 7 V<|AK 8 V<|AK 9 V<|AK 10 V<|AK 11 V<|AK 12 V<|AK 13 V<|AK 14 V<|AK 15 V<|A1 16 V (BC Y Y) ?_
  all_goals
   refine A1 17 V (Aq Y)<|Am<|Zn [4] ?_;refine Zx<|AC<|AO V results150 Y (by exact ⟨by simp [g,h2],V⟩)
 rw [g];refine AK 3 V<|AK 4 V<|A1 5 V (BC Y Y)<|A1 6 V (AA Y)<|AK 7 V<|AK 8 V<|AK 9 V<|AK 10 V<|AK 11 V<|AK 12 V<|AK 13 V<|AK 14 V<|AK 15 V<|A1 16 V (BC Y Y)<|A1 17 V (Aq Y)<|Am<|Zn [4] ?_;refine Zx<|AC<|AO V results150 Y (by exact ⟨by simp [g],V⟩)
def ivQ(n:Int):A3:=I4 n
theorem ji(e:An)(g c:Nat)(z:A3)(h:c<=maxLen):BS 1 e (I6 g 0 c) 0 [] [(g,.cells (List.replicate c z).toArray e (0,0))]:=⟨rfl,.inr ⟨g,c,_,(0,0),rfl,rfl,CD _,h,by simp,by simp,Aw _⟩⟩
variable{rows:List AV}{i:Nat}{r:AV}
theorem kr(h:rows[i]?=some r):DI q (rows.take (i+1))=DI q (rows.take i)++[Bh r q.bq]:=by
 unfold DI;rw [Bt h,HD];rfl
theorem LB(q:QM)(rows:List AV):(DI q rows).length=rows.length:=by unfold DI;rw [C2]
theorem vG(h:rows[i]?=some r):(DI q rows)[i]?=some (Bh r q.bq):=by unfold DI;rw [HL,h];rfl
variable{M:List AR}
theorem fB(hv:CZ M v rows){W:Int}{K:Bool}(st:Nat->Int×Bool)(h0:st 0=(W,K))(z:Nat)(us:List A3)(I:∀(args:As) (w:AD),(callFunc z args).run prog w= .ok (.enter z args) w)(hf:∀(i:Nat) (r:AV),rows[i]?=some r->BB prog z (.agg #[.slice none 0 0,I4 (st i).1,.bool (st i).2]:: .agg r.Ax3::us).toArray [M] (.agg #[.slice none 0 0,I4 (st (i+1)).1,.bool (st (i+1)).2])):BB prog 108 #[v,.agg #[.slice none 0 0,I4 W,.bool K],.func (.func z) #[] us.toArray] [M] (.agg #[.slice none 0 0,I4 (st rows.length).1,.bool (st rows.length).2]):=by
 have ax:=mL;obtain ⟨p,cap,rfl,⟨hl,af⟩,hg⟩:=id hv;refine Se func108 ntmps108 [0,1,2] ?_;intro u R;refine A2<|Ze (Bx #[_,_,_])<|AE fun X=>Ze (Al GO #[_,_,_])<|AE fun re=>A6<|C0 Y<|Zv (AJ B0 Y)<|Zm Y<|A6<|AQ<|Zb [11,2,4,6,9,10] ?_;refine Av (e0:=[(11,_)]) (fun m e H=>∃(i:Nat),m=rows.length -i/\(i<=rows.length)/\e=[(11,I4 (i:Int))]/\H=[[(X,.cells #[.slice none 0 0,I4 (st i).1,.bool (st i).2] 51 (0,0))]]) (by exact ⟨0,rfl,CD _,rfl,by rw [h0]⟩) Wp ?_;rintro _ _ _ ⟨i,rfl,hi,rfl,rfl⟩;refine A2<|Zv (Ak Y Y)<|A6<|Zq<|Ad Y (fun G=>?_) (fun G=>?_);·
  obtain ⟨r,O⟩:∃r,rows[i]?=some r:=⟨_,Bk G⟩;obtain ⟨g,off,cur,T,zz,rfl,J,U,E⟩:=hg i r O;refine B3<|Zq<|AQ<|A2<|BN (A9 B0 AW Y Y A0)<|Cj (cs:=[(g,.cells cur T zz)]) (by simp [J]) (A7 (cs:=r.Ax3) C5 AW Y A0 E) V rfl<|Ze (Al DS #[_,_,_,_,_])<|AE fun rb=>Xe (Xw AW r.Ax3)<|A6<|Zg<|Zm Y<|Zo Wh (A7 (cs:=#[_,_,_]) D0 BE Y BW B5)<|Zo Wh (A7 (cs:=#[_,_,_,_,_]) C5 AW Y BW B5)<|Xr [_,_] Y (I) Y rfl (hf i r O)<|Xe (Ao BE Y Y Ft Wu (by exact (rfl:_=(#[.slice none 0 0,I4 (st (i+1)).1,.bool (st (i+1)).2]:As))) DO BW (by exact Aw _))<|Z0<|A8<|Zx<|GP Y Y Y<|HN (by exact ⟨i+1,V,by omega,V,V⟩)
 have Z:i=rows.length:=by omega
 subst Z;refine Az<|Zt<|Zt<|AU<|BT<|Zo Wh (A7 (cs:=#[_,_,_]) D0 BE Y BW B5)<|Xe (Xw BE _)<|A6<|AC<|Df V results108 Y Wh (Ai D0 BE Wn (V)) (by exact ⟨V,V⟩)
variable{p:C1}{cap:Nat}{ms:List Int}
theorem Te(hc:Gc M p (ms.map ivQ))(hl:ms.length<=maxLen)(af:ms.length<=cap){U:Int}{O:Bool}(st:Nat->Int×Bool)(h0:st 0=(U,O))(z:Nat)(us:List A3)(J:∀(args:As) (w:AD),(callFunc z args).run prog w= .ok (.enter z args) w)(Z:∀(i:Nat) (x:Int),ms[i]?=some x->BB prog z (.agg #[.slice none 0 0,I4 (st i).1,.bool (st i).2]::I4 x::us).toArray [M] (.agg #[.slice none 0 0,I4 (st (i+1)).1,.bool (st (i+1)).2])):BB prog 110 #[.slice p ms.length cap,.agg #[.slice none 0 0,I4 U,.bool O],.func (.func z) #[] us.toArray] [M] (.agg #[.slice none 0 0,I4 (st ms.length).1,.bool (st ms.length).2]):=by
 have ax:=mL;refine Se func110 ntmps110 [0,1,2] ?_;intro u R;refine A2<|Ze (Bx #[_,_,_])<|AE fun W=>Ze (Al GO #[_,_,_])<|AE fun re=>A6<|C0 Y<|Zv (AJ HF Y)<|Zm Y<|A6<|AQ<|Zb [11,2,4,6,9,10] ?_;refine Av (e0:=[(11,_)]) (fun m e H=>∃(i:Nat),m=ms.length -i/\(i<=ms.length)/\e=[(11,I4 (i:Int))]/\H=[[(W,.cells #[.slice none 0 0,I4 (st i).1,.bool (st i).2] 51 (0,0))]]) (by exact ⟨0,rfl,CD _,rfl,by rw [h0]⟩) Wp ?_;rintro _ _ _ ⟨i,rfl,hi,rfl,rfl⟩;refine A2<|Zv (Ak Y Y)<|A6<|Zq<|Ad Y (fun I=>?_) (fun I=>?_);·
  obtain ⟨x,hx⟩:∃x,ms[i]?=some x:=⟨_,Bk I⟩;obtain ⟨g,off,cur,T,zz,rfl,K,G⟩:=hc i (ivQ x) (by rw [HL,hx];rfl);have E:cur[off+i]?=some (I4 x):=G
  refine B3<|Zq<|AQ<|A2<|BN (BO HF A4 Y Y Fl)<|Cj (cs:=[(g,.cells cur T zz)]) (by simp [K]) (BZ A5 Y E) rfl rfl<|AF Y<|Zg<|Zm Y<|Zo Wh (A7 (cs:=#[_,_,_]) D0 BE Y BW B5)<|Zm Y<|Xr [_,_] Y (J) Y rfl (Z i x hx)<|Xe (Ao BE Y Y Ft Wu (by exact (rfl:_=(#[.slice none 0 0,I4 (st (i+1)).1,.bool (st (i+1)).2]:As))) DO BW (by exact Aw _))<|Z0<|A8<|Zx<|GP Y Y Y<|HN (by exact ⟨i+1,V,by omega,V,V⟩)
 have X:i=ms.length:=by omega
 subst X;refine Az<|Zt<|Zt<|AU<|BT<|Zo Wh (A7 (cs:=#[_,_,_]) D0 BE Y BW B5)<|Xe (Xw BE _)<|A6<|AC<|Df V results110 Y Wh (Ai D0 BE Wn (V)) (by exact ⟨V,V⟩)
theorem NN(hv:CZ M v rows)(q:QM)(K:0<=q.bq/\q.bq<=3)(hb:rows.length<=1000000000000):CJ prog 111 #[.agg q.Ax4,v] [M] (fun r H'=>∃s,BS 1 3 r (DI q rows).length ((DI q rows).map ivQ) s/\H'=[s,M]):=by
 have bf:=mL;obtain ⟨p,cap,rfl,⟨hl,ax⟩,hg⟩:=id hv;refine Se func111 ntmps111 [0,1] ?_;intro u R;refine A2<|Ze (Bx #[_,_,_,_,_,_,_])<|AE fun bq=>AF Y<|B7 Y<|Zv (AJ B0 Y)<|Ze (Hu (by_:=8) (l:=0) HF (V:Tryz.prog.info? 3=some Tryz.t3) V rfl V rfl Y Y ?_ ?_ ?_) ?_
 (focus (omega))
 (focus (omega))
 (focus (omega))
 rintro _ _ ⟨mk,rfl,rfl⟩;refine AF Y<|C0 Y<|Zv (AJ B0 Y)<|Zm Y<|A6<|AQ<|Zb [5,13,2,11,12] ?_;refine Av (e0:=[(5,_),(13,_)]) (fun m e H=>∃(i:Nat) (vo:A3) (J:List AR),m=rows.length -i/\(i<=rows.length/\BS 1 3 vo i ((DI q (rows.take i)).map ivQ) J)/\e=[(5,vo),(13,I4 (i:Int))]/\H=[J]) (by exact ⟨0,_,_,rfl,⟨CD _,by rw [Hh];exact ji _ _ _ (I4 0) A0⟩,rfl,rfl⟩) Wp ?_;rintro _ _ _ ⟨i,vo,J,rfl,⟨hi,E⟩,rfl,rfl⟩;obtain ⟨qo,co,rfl⟩:=E.form;refine A2<|Zv (Ak Y Y)<|A6<|Zq<|Ad Y (fun I=>?_) (fun I=>?_);·
  obtain ⟨r,U⟩:∃r,rows[i]?=some r:=⟨_,Bk I⟩;obtain ⟨g,off,cur,T,zz,rfl,O,W,G⟩:=hg i r U;refine B3<|Zq<|AQ<|A2<|BN (A9 B0 AW Y Y A0)<|Cj (cs:=[(g,.cells cur T zz)]) (by simp [O]) (A7 (cs:=r.Ax3) C5 AW Y A0 G) V rfl<|Ze (Al DS #[_,_,_,_,_])<|AE fun rb=>Xe (Xw AW r.Ax3)<|A6<|Zg<|Zm Y<|Zo Wh (A7 (cs:=#[_,_,_,_,_]) C5 AW Y BW B5)<|Zh 5 CH V rfl A4 Y<|Zl A5 Y<|Xr [_,_] Y Sf Y V (Gf r q.bq K)<|Ze (Ah (vs:=[_]) (cs:=[_]) HF A4 K1 Y V rfl V rfl V)<|AE fun gb=>Ze (BL (by_:=8) (sz:=1) HF (V:Tryz.prog.info? 3=some Tryz.t3) V rfl V rfl Y (E) Y (D7 1 gb 1 1 3 (0,0) [I4 (Bh r q.bq)] V) Wo Wo HH A0 A0) ?_;rintro _ _ ⟨bn,z,rfl⟩;obtain ⟨af,X,rfl⟩:=z.form;refine AN Y<|Zn [2,5,11,12,13] ?_;refine A8<|Zx<|GP Y Y Y<|DH (e:=[(5,_),(13,_)]) (h:=by exact ⟨i+1,_,_,rfl,⟨by omega,BJ z rfl (by rw [kr U,HD];rfl)⟩,rfl,rfl⟩)
 have Z:i=rows.length:=by omega
 subst Z;refine Az<|Zt<|Zt<|AU<|Zx<|B7 Y<|AM Y<|AO rfl results111 Y (by exact ⟨J,BJ E (LB q rows).symm (by rw [HJ]),rfl⟩)
theorem Nn(v:A3)(g:v.oneCell'=true)(hc:v.cells=#[v]):CJ prog 113 #[v] [] (fun r H'=>∃b,r= .func (.func 160) #[] #[I5 b]/\H'=[[(b,.cells #[v] 141 (0,0))]]):=by
 refine Se func113 ntmps113 [0] ?_;intro u R;refine A2<|Ze (J2 Y (cs:=#[v]) hc)<|AE fun b=>AF Y<|A2<|Zv (CV (vs:=[]) (us:=[_]) Y Y)<|AM Y<|AO V results113 Y (by exact ⟨b,V,V⟩)
theorem lw(v n:Int)(f:Bool)(b g:Nat)(lt:Int->Int->Bool)(m:∀(args:As) (w:AD),(callFunc g args).run prog w= .ok (.enter g args) w)(z:∀x y:Int,BB prog g #[I4 x,I4 y] [] (.bool (lt x y))):BB prog 160 #[.agg #[.slice none 0 0,I4 v,.bool f],I4 n,I5 b] [[(b,.cells #[.func (.func g) #[] #[]] 141 (0,0))]] (.agg #[.slice none 0 0,I4 (if !f||lt n v then n else v),.bool true]):=by
 refine Se func160 ntmps160 [0,1,2] ?_;intro u R;refine A2<|Ze (Bx #[_,_,_])<|AE fun G=>Ze (Al GO #[_,_,_])<|AE fun bs=>A6<|Zq<|A2<|Zh 2 Cd V rfl DP Y<|Zl Fc Y ?_;refine Zv (CR Y)<|Zm Y<|Ae (t:=9) Y V (fun E=>?_) (fun E=>?_);focus
  refine Sk 6 V<|A6<|BV Y<|Zg<|Zm Y<|Zh 1 Cd V rfl A4 Y<|Xe (Zs A4 Y Y V (hi:=by(simp;done))) ?_;refine Z0<|Zn [3,5] ?_;refine BT<|Zh 2 Cd V rfl DP Y<|Xe (Zs DP Y Y V (hi:=by(simp;done))) ?_;refine Z0 ?_
 rotate_left
 focus
  refine Yl isAgg141 Y ?_;refine Zf Y Y<|Yf 1 Cd V rfl A4 Y<|Yl A5 Y ?_;refine Xr [_,_] Y (m) Y V (z n v) ?_;refine H3 Y Y<|A6<|Af Y (fun h2=>?_) (fun h2=>?_);focus
   refine Zg<|Zm Y<|Zh 1 Cd V rfl A4 Y<|Xe (Zs A4 Y Y V (hi:=by(simp;done))) ?_;refine Z0<|Zn [3,5] ?_;refine BT<|Zh 2 Cd V rfl DP Y<|Xe (Zs DP Y Y V (hi:=by(simp;done))) ?_;refine Z0 ?_
  rotate_left
  focus
   refine AB<|BT<|Zh 2 Cd V rfl DP Y<|Xe (Zs DP Y Y V (hi:=by(simp;done))) ?_;refine Z0<|Zn [3,5] ?_
 all_goals
  refine BT<|Zo Wh (A7 (cs:=#[_,_,_]) D0 BE Y BW B5) ?_;refine Xe (Xw BE _) ?_;refine A6<|AC<|Df V results160 Y Wh (Ai D0 BE Wn (V)) (by exact ⟨by simp_all;rfl,V⟩)
theorem ed(x y:Int):BB prog 114 #[I4 x,I4 y] [] (.bool (decide (x<y))):=by
 refine Se func114 ntmps114 [0,1] ?_;intro u R;refine A2<|AF Y<|A2<|Sk 2 V<|Zv (Dq Y Y)<|AM Y<|AO V results114 Y (by exact ⟨by rfl,V⟩)
theorem eZ(x y:Int):BB prog 115 #[I4 x,I4 y] [] (.bool (decide (y<x))):=by
 refine Se func115 ntmps115 [0,1] ?_;intro u R;refine A2<|AF Y<|A2<|Sk 2 V<|Zv (EE Y Y)<|AM Y<|AO V results115 Y (by exact ⟨by rfl,V⟩)
theorem fA(v:Int)(f:Bool)(r:AV)(h:-9223372036854775807<=v/\v<=9223372036854775806):BB prog 109 #[.agg #[.slice none 0 0,I4 v,.bool f],.agg r.Ax3] [] (.agg #[.slice none 0 0,I4 (v+1),.bool f]):=by
 refine Se func109 ntmps109 [0,1] ?_;intro u R;refine A2<|Ze (Bx #[_,_,_])<|AE fun m=>Ze (Bx #[_,_,_,_,_])<|AE fun z=>Ze (Al GO #[_,_,_])<|AE fun g=>A6<|A2<|Zh 1 Cd V rfl A4 Y<|Zl A5 Y<|Yi Y Y<|Zh 1 Cd V rfl A4 Y<|Xe (Zs A4 Y Y V (hi:=by(simp;done)))<|A6<|A2<|Zo Wh (A7 (cs:=#[_,_,_]) D0 BE Y BW B5)<|Xe (Xw BE _)<|A6<|AC<|Df V results109 Y Wh (Ai D0 BE Wn (V)) (by exact ⟨V,V⟩)
theorem eu(v n:Int)(f:Bool)(h:-9223372036854775807<=v+n/\v+n<=9223372036854775806):BB prog 112 #[.agg #[.slice none 0 0,I4 v,.bool f],I4 n] [] (.agg #[.slice none 0 0,I4 (v+n),.bool f]):=by
 refine Se func112 ntmps112 [0,1] ?_;intro u R;refine A2<|Ze (Bx #[_,_,_])<|AE fun m=>Ze (Al GO #[_,_,_])<|AE fun g=>A6<|A2<|Zh 1 Cd V rfl A4 Y<|Zl A5 Y<|Zm Y<|Yi Y Y<|Zh 1 Cd V rfl A4 Y<|Xe (Zs A4 Y Y V (hi:=by(simp;done)))<|A6<|A2<|Zo Wh (A7 (cs:=#[_,_,_]) D0 BE Y BW B5)<|Xe (Xw BE _)<|A6<|AC<|Df V results112 Y Wh (Ai D0 BE Wn (V)) (by exact ⟨V,V⟩)
def wy(r:AV):A3:= .agg r.Ax3
theorem qF{g:List (Int×A3)}{E:Int}(hn:(lm.map (·.1)).Nodup)(m:(g.map (·.1)).Nodup)(z:∀p,p∈g↔p=(E,v)\/(p∈lm/\p.1≠E))(k:Int):Je k g=if k=E then some v else Je k lm:=by
 split
 · rename_i h
   rw [h];exact JD m ((z _).2 (.inl V))
 · rename_i h
   cases hg:Je k lm with
   |some x=>exact JD m ((z _).2 (.inr ⟨Vj hg,h⟩))
   |none=>
    cases hg2:Je k g with
    |none=>rfl
    |some x=>
     rcases (z _).1 (Vj hg2)with e|⟨e,_⟩
     · injection e with e1 e2;exact absurd e1 h
     · rw [JD hn e]at hg;cases hg
variable{others:List AV}{x:AV}
theorem VW(h:others[i]?=some x)(k:Int):Dv q (others.take (i+1)) k=(Dv q (others.take i) k).or (if x.t=q.ot/\x.k=k then some x else none):=by
 unfold Dv;rw [Bt h,List.find?_append];congr 1;simp only [List.find?_cons,List.find?_nil];split<;>simp_all
def U8(q:QM)(others:List AV)(lm:List (Int×A3)):Prop:=∀k,Je k lm=(Dv q others k).map wy
theorem dV(h:others[i]?=some x)(m:U8 q (others.take i) lm)(hx:¬x.t=q.ot\/(Dv q (others.take i) x.k).isSome=true):U8 q (others.take (i+1)) lm:=by
 intro k;rw [m k,VW h k];cases hg:Dv q (others.take i) k with
 |some y=>rfl
 |none=>
  rw [Ax];· rfl
  · rintro ⟨g,rfl⟩
    rcases hx with hx|hx
    · exact hx g
    · rw [hg]at hx;cases hx
theorem kN{g:List (Int×A3)}(h:others[i]?=some x)(G:U8 q (others.take i) lm)(hx:x.t=q.ot)(z:(Dv q (others.take i) x.k).isSome=false)(hn:(lm.map (·.1)).Nodup)(m:(g.map (·.1)).Nodup)(I:∀p,p∈g↔p=(x.k,wy x)\/(p∈lm/\p.1≠x.k)):U8 q (others.take (i+1)) g:=by
 intro k;rw [qF hn m I k,VW h k];split
 · rename_i hk
   have:Dv q (others.take i) k=none:=by
    rw [hk];cases hg:Dv q (others.take i) x.k with
    |none=>rfl
    |some y=>rw [hg]at z;cases z
   rw [this,B2 ⟨hx,hk.symm⟩];rfl
 · rename_i hk
   rw [G k,Ax (fun E=>hk E.2.symm)];cases Dv q (others.take i) k<;>rfl
variable{y:AV}
theorem VX(g:U8 q others lm)(k:Int)(hy:y=(Dv q others k).getD ⟨0,0,⟨0,0,0⟩⟩):(Je k lm).getD (.agg #[I4 (⟨0,0,⟨0,0,0⟩⟩:AV).t,I4 (⟨0,0,⟨0,0,0⟩⟩:AV).k,I4 (⟨0,0,⟨0,0,0⟩⟩:AV).v.a,I4 (⟨0,0,⟨0,0,0⟩⟩:AV).v.b,I4 (⟨0,0,⟨0,0,0⟩⟩:AV).v.c])= .agg y.Ax3/\(Je k lm).isSome=(Dv q others k).isSome:=by
 rw [g k,hy];cases Dv q others k<;>exact ⟨rfl,rfl⟩
theorem VV(hy:y=(Dv q others k).getD ⟨0,0,⟨0,0,0⟩⟩)(h:(Dv q others k).isSome=true):Dv q others k=some y:=by
 rw [hy];cases hp:Dv q others k with
 |none=>rw [hp]at h;cases h
 |some x=>rfl
variable{s:List AR}
theorem M4{sz:Nat}{e:An}{n c k:Nat}{xs:List A3}(h:BS sz e (.slice p n c) k xs s):Gc s p xs:=by
 intro j u E;obtain ⟨I,⟨_,rfl,_⟩|⟨g,cap,cur,z,hv,rfl,_,_,_,m,_⟩⟩:=h
 · have:xs=[]:=N3 A0
   subst this;cases E
 · injection hv with h1 h2 h3
   subst h1;refine ⟨g,0,cur,e,z,V,by simp,?_⟩;have G:=(D3.1 E).1
   rw [<-m,I3,B2 A0,Kf]at E;rwa [Dd]
theorem QV(h:rows[i]?=some r):IR q (rows.take (i+1)) others=IR q (rows.take i) others++H6 q others r:=by
 unfold IR;rw [Bt h,O2,ij]
theorem VY(h:Dv q others (Bh r q.bq)=some y):H6 q others r=[r,y]:=by unfold H6;rw [h]
theorem kP(h:Dv q others (Bh r q.bq)=none):H6 q others r=[]:=by unfold H6;rw [h]
theorem ou(q:QM)(others:List AV)(r:AV):(H6 q others r).length<=2:=by unfold H6;split<;>simp
theorem ZG(q:QM)(rows others:List AV):(IR q rows others).length<=2*rows.length:=by
 induction rows with
 |nil=>simp [IR]
 |cons r rows ih=>
  have:=ou q others r;unfold IR at*;rw [L0,C7,GB];omega
variable{vo:A3}
set_option maxHeartbeats 1000000 in
theorem ZC(hv:CZ M v rows)(ho:CZ M vo others)(q:QM)(d9:0<=q.bq/\q.bq<=3)(hb:rows.length<=100000000000):CJ prog 116 #[.agg q.Ax4,v,vo] [M] (fun r H'=>∃s,BS 5 91 r (IR q rows others).length (Aa (IR q rows others)) s/\H'=[s,M]):=by
 have r9:=mL;obtain ⟨p,cap,rfl,⟨hl,qy⟩,hg⟩:=id hv;obtain ⟨po,o8,rfl,⟨qz,o9⟩,gq⟩:=id ho;refine Se func116 ntmps116 [0,1,2] ?_;intro u R;refine A2<|Ze (Bx #[_,_,_,_,_,_,_])<|AE fun bq=>AF Y<|A2<|Ze (Po)<|AE fun mb=>AF Y<|C0 Y<|Zv (AJ B0 Y)<|Zm Y<|A6<|AQ<|Zb [19,1,3,6,7,17,18] ?_;refine Av (e0:=[(19,_)]) (fun m e H=>∃(i:Nat) (es:Array MapEntry) (ck:Nat) (lm:List (Int×A3)),m=others.length -i/\(i<=others.length/\FY (fun k:Int=>I4 k) es ck lm/\U8 q (others.take i) lm)/\e=[(19,I4 (i:Int))]/\H=[[(mb,.map es ck)]]) (by exact ⟨0,#[],0,[],V,⟨CD _,TP _,fun k=>rfl⟩,V,V⟩) Wp ?_;rintro _ _ _ ⟨i,es,ck,lm,rfl,⟨hi,hm,W⟩,rfl,rfl⟩;refine A2<|Zv (Ak Y Y)<|A6<|Zq<|Ad Y (fun z=>?_) (fun z=>?_);·
  obtain ⟨x,hx⟩:∃x,others[i]?=some x:=⟨_,Bk z⟩;obtain ⟨g1,pg,O,T1,l9,rfl,gy,p8,X⟩:=gq i x hx;refine B3<|Zq<|AQ<|A2<|BN (A9 B0 AW Y Y A0)<|Cj (cs:=[(g1,.cells O T1 l9)]) (by simp [gy]) (A7 (cs:=x.Ax3) C5 AW Y A0 X) V rfl<|Ze (Al DS #[_,_,_,_,_])<|AE fun bx=>Xe (Xw AW x.Ax3)<|A6<|Zq ?_;obtain ⟨y0,bn⟩:∃y,y=(Dv q (others.take i) x.k).getD ⟨0,0,⟨0,0,0⟩⟩:=⟨_,rfl⟩;refine Zg<|Zm Y<|Zh 1 F1 V rfl A4 Y<|Zl A5 Y<|Zo Wh (QO Ij underlying206 DS hm (fun _ _=>trivial) (trivial) (VX W x.k bn) Y Y)<|Sk 3 V<|Ze (Al DS #[_,_,_,_,_])<|AE fun bt=>Xe (Xw AW y0.Ax3)<|AN Y<|Zn [1,3,6,7,9,11,17,18,19] ?_;refine Zx<|Zq ?_;obtain ⟨y0,bn⟩:∃y,y=(Dv q (others.take i) x.k).getD ⟨0,0,⟨0,0,0⟩⟩:=⟨_,rfl⟩;refine Zg<|Zh 0 F1 V rfl A4 Y<|Zl A5 Y<|Zh 6 CH V rfl A4 Y<|Zl A5 Y<|Zv (Bd Y Y)<|Zm Y<|AZ (t:=35) Y V (fun h1=>?_) (fun h1=>?_);focus
   refine Zf Y Y<|Yg (CR Y)<|HR Y Y<|A6<|Af Y (fun h2=>?_) (fun h2=>?_);refine Zg<|Zm Y<|Zh 1 F1 V rfl A4 Y<|Zl A5 Y<|Zo Wh (A7 (cs:=#[_,_,_,_,_]) C5 AW Y BW B5)<|Ze (MH Ij underlying206 hm (fun _ _=>trivial) (trivial) Y Y Y Wo) ?_;rintro _ _ ⟨rfl,qb,qa,l8,E,kz,rfl⟩;have cO:U8 q (others.take (i+1)) l8:=kN hx W h1 (by simpa using h2) hm.keys E.keys kz
   refine Z0<|Zn [1,3,6,7,17,18,19] ?_;refine A8<|Zx<|GP Y Y Y<|DH (e:=[(19,_)]) (h:=by exact ⟨i+1,_,_,_,V,⟨by omega,E,cO⟩,V,V⟩)
  rotate_left
  focus
   refine Sk 3 V<|A6<|DY Y ?_
  all_goals
   refine AB<|A8<|Zx<|GP Y Y Y<|DH (e:=[(19,_)]) (h:=by exact ⟨i+1,es,ck,lm,rfl,⟨by omega,hm,dV hx W (by first|exact .inl A0|exact .inr (by simpa using h2))⟩,rfl,rfl⟩)
 have ei:i=others.length:=by omega
 subst ei;rw [HJ]at W;refine Az<|Zt<|Zt<|AU<|Zx<|Zq<|A2<|Zo Wh (A7 (cs:=#[_,_,_,_,_,_,_]) DE CN Y BW B5)<|Zm Y<|Zc [_,_] Y call111 Y V (NN hv q d9 A0) ?_;rintro _ _ ⟨_,⟨sm,bf,rfl⟩,rfl⟩;obtain ⟨gm,cm,rfl⟩:=bf.form;refine Zv (AJ HF Y)<|Zm Y<|A6<|AQ<|Bi ?_;have ek:Gc sm gm ((DI q rows).map ivQ):=M4 bf
 have oq:=LB q rows;refine Zb [6,48,1,7,46,47] ?_;refine Av (e0:=[(6,_),(48,_)]) (fun m e H=>∃(i:Nat) (w:A3) (so:List AR),m=rows.length -i/\(i<=rows.length/\BS 5 91 w (IR q (rows.take i) others).length (Aa (IR q (rows.take i) others)) so)/\e=[(6,w),(48,I4 (i:Int))]/\H=[so]) (by exact ⟨0,.slice none 0 0,[],rfl,⟨CD _,by rw [Hh];exact BX 5 _⟩,rfl,rfl⟩) Wp ?_;rintro _ _ _ ⟨i,w,so,rfl,⟨hi,g⟩,rfl,rfl⟩;obtain ⟨qo,co,rfl⟩:=g.form;have qx:(IR q (rows.take i) others).length<=2*i:=To (ZG _ _ _) (by rw [CI];omega)
 refine A2<|Zv (Ak Y Y)<|A6<|Zq<|Ad Y (fun z=>?_) (fun z=>?_);·
  obtain ⟨r,hr⟩:∃r,rows[i]?=some r:=⟨_,Bk A0⟩;obtain ⟨g2,cu,G,T2,lv,rfl,E,Z⟩:=ek i (ivQ (Bh r q.bq)) (by rw [HL,vG hr];rfl);have ax:G[cu+i]?=some (I4 (Bh r q.bq)):=Z
  obtain ⟨K,J⟩:∃y,y=(Dv q others (Bh r q.bq)).getD ⟨0,0,⟨0,0,0⟩⟩:=⟨_,rfl⟩;refine B3<|Zq<|AQ<|B7 Y<|BN (BO HF A4 Y Y Fl)<|Cj (cs:=[(g2,.cells G T2 lv)]) (by simp [E]) (BZ A5 Y ax) rfl rfl<|Za Y<|AF Y<|A2<|Sk 2 rfl<|Zo Wh (QO Ij underlying206 DS hm (fun _ _=>trivial) (trivial) (VX W (Bh r q.bq) J) Y Y)<|Sk 3 rfl<|Ze (Al DS #[_,_,_,_,_])<|AE fun pz=>Xe (Xw AW K.Ax3)<|AN Y<|Zn [1,6,7,12,14,15,46,47,48] ?_;refine Zx<|B7 Y<|A6<|Af Y (fun h5=>?_) (fun h5=>?_);·
   obtain ⟨g3,pq,U,T3,mR,rfl,kv,p9,af⟩:=hg i r hr;refine Au (n:=9) (0::0::0::6::14::0::62::127::255::[]) 192 AG AG V<|A1 0 V (AA Y)<|A1 1 V (AA Y)<|A1 2 V (AA Y)<|A1 3 V (A9 B0 AW Y Y A0)<|CX (b:=g3) (x:= .cells U T3 mR) (D':=31) 4 V rfl V (by simp [kv]) (A7 (cs:=r.Ax3) C5 AW Y A0 af) ?_;refine Fo 5 V Wh (A7 (cs:=#[_,_,_,_,_]) C5 AW Y BW B5)<|Yw 6 127 V (Ah (vs:=[_,_]) (cs:=[_,_,_,_,_,_,_,_,_,_]) B0 AW DS Y V rfl V rfl V)<|AE fun gb=>Yw 7 255 V (BL (by_:=40) (sz:=5) B0 (V:Tryz.prog.info? 91=some Tryz.t91) V rfl V rfl Y (g) Y (D7 5 gb 2 2 91 (0,0) [I4 r.t,I4 r.k,I4 r.v.a,I4 r.v.b,I4 r.v.c,I4 K.t,I4 K.k,I4 K.v.a,I4 K.v.b,I4 K.v.c] V) Wo Wo HH A0 A0) ?_;rintro _ _ ⟨sj,I,rfl⟩;obtain ⟨qw,q9,rfl⟩:=I.form;refine A1 8 V (Aq Y)<|Am<|A8<|Zx<|GP Y Y Y<|DH (e:=[(6,_),(48,_)]) (h:=by exact ⟨i+1,_,_,rfl,⟨by omega,BJ I (by rw [QV hr,VY (VV J h5),C7];rfl) (by rw [QV hr,VY (VV J h5),BR];rfl)⟩,rfl,rfl⟩)
  refine AB<|A8<|Zx<|GP Y Y Y<|DH (e:=[(6,_),(48,_)]) (h:=by exact ⟨i+1,_,so,rfl,⟨by omega,by rw [QV hr,kP (o4.1 (by simpa using h5)),HT];exact g⟩,rfl,rfl⟩)
 have ei:i=rows.length:=by omega
 subst ei;rw [HJ]at g⊢;refine Az<|Zt<|Zt<|AU<|Zx<|B7 Y<|AM Y<|AO V results116 Y (by exact ⟨so,g,V⟩)
def JF(q:QM)(rows others:List AV):CB:=if BH q then Cc q rows others else CB.none
theorem xH(h:¬BH q):JF q rows others=⟨[],0,false⟩:=Ax h
theorem Nl(h:BH q):JF q rows others=Cc q rows others:=B2 h
theorem nb(h:BH q)(k:q.kd=3):JF q rows others=⟨[],rows.length,false⟩:=by rw [Nl h];unfold Cc;rw [B2 k]
theorem na(h:BH q)(k:q.kd=4):JF q rows others=⟨[],MF (DI q rows),false⟩:=by rw [Nl h];unfold Cc;rw [Ax A0,B2 k]
theorem nF(h:BH q)(k:q.kd=5):JF q rows others=EZ (fun a b=>decide (a<b)) (DI q rows):=by rw [Nl h];unfold Cc;rw [Ax A0,Ax A0,B2 k]
theorem nB(h:BH q)(k:q.kd=6):JF q rows others=EZ (fun a b=>decide (b<a)) (DI q rows):=by rw [Nl h];unfold Cc;rw [Ax A0,Ax A0,Ax A0,B2 k]
theorem n9(h:BH q)(k:q.kd=7):JF q rows others=⟨IR q rows others,0,false⟩:=by rw [Nl h];unfold Cc;rw [Ax A0,Ax A0,Ax A0,Ax A0,B2 k]
theorem nd(h:BH q)(g:¬q.kd=3)(m:¬q.kd=4)(z:¬q.kd=5)(E:¬q.kd=6)(G:¬q.kd=7):JF q rows others=⟨rows,0,false⟩:=by rw [Nl h];unfold Cc;rw [Ax g,Ax m,Ax z,Ax E,Ax G]
theorem jP{x:Int}(h:ms[i]?=some x):MF (ms.take (i+1))=MF (ms.take i)+x:=by unfold MF;rw [Bt h,RM];rfl
theorem Ro(B:Int):∀(ms:List Int),(∀m∈ms,-B<=m/\m<=B)->-(ms.length*B)<=Kh ms/\Kh ms<=ms.length*B
 |[],_=>by simp [Kh]
 |m::ms,h=>by
  have g:=h m C4;have h2:=Ro B ms (fun y hy=>h y (Mu _ hy))
  have z:((m::ms).length:Int)*B=ms.length*B+B:=by rw [GB];push_cast;rw [Int.add_mul,Int.one_mul]
  simp only [Kh];omega
theorem gU(h:∀m∈ms,-1000000000<=m/\m<=1000000000)(E:ms.length<=1000000000)(i:Nat):-1000000000000000000<=MF (ms.take i)/\MF (ms.take i)<=1000000000000000000:=by
 have z:=Ro 1000000000 (ms.take i) (fun m g=>h m (Ks g));have h2:(ms.take i).length<=1000000000:=by rw [CI];omega
 unfold MF;rw [NQ];omega
theorem lu{lt:Int->Int->Bool}{x:Int}(h:ms[i]?=some x):EZ lt (ms.take (i+1))=⟨(EZ lt (ms.take i)).rows,if !(EZ lt (ms.take i)).fnd||lt x (EZ lt (ms.take i)).val then x else(EZ lt (ms.take i)).val,true⟩:=by unfold EZ;rw [Bt h,RM];rfl
theorem Vz(lt:Int->Int->Bool)(ms:List Int):∀r:CB,(ms.foldl (fun r n=>⟨r.rows,if !r.fnd||lt n r.val then n else r.val,true⟩:CB->Int->CB) r).rows=r.rows:=by
 induction ms with
 |nil=>intro r;rfl
 |cons m ms ih=>intro r;rw [ZS,ih]
theorem fI(hv:CZ M v rows)(z:rows.length<=1000000000):BB prog 108 #[v,.agg #[.slice none 0 0,I4 0,.bool false],.func (.func 109) #[] #[]] [M] (.agg #[.slice none 0 0,I4 (rows.length:Int),.bool false]):=
 fB hv (fun i=>((i:Int),false)) rfl 109 [] call109 (fun i r m=>by
  have g:=(D3.1 m).1;have:=fA (i:Int) false r A0
  exact Mw this)
theorem nN(hc:Gc s p (ms.map ivQ))(G:ms.length<=1000000000)(g:ms.length<=cap)(z:∀m∈ms,-1000000000<=m/\m<=1000000000):BB prog 110 #[.slice p ms.length cap,.agg #[.slice none 0 0,I4 0,.bool false],.func (.func 112) #[] #[]] [s] (.agg #[.slice none 0 0,I4 (MF ms),.bool false]):=by
 have I:=mL;have h:=Te hc A0 g (fun i=>(MF (ms.take i),false)) rfl 112 [] call112 (fun i x hx=>by
  have J:=gU z G i;have h2:=z x (Fm hx)
  have E:=eu (MF (ms.take i)) x false A0;show BB _ _ _ _ (.agg #[.slice none 0 0,I4 (MF (ms.take (i+1))),.bool false])
  rw [jP hx];exact Mw E)
 rwa [HJ]at h
theorem aD(hc:Gc s p (ms.map ivQ))(W:ms.length<=1000000000)(G:ms.length<=cap)(b m:Nat)(lt:Int->Int->Bool)(E:∀(args:As) (w:AD),(callFunc m args).run prog w= .ok (.enter m args) w)(I:∀x y:Int,BB prog m #[I4 x,I4 y] [] (.bool (lt x y))):BB prog 110 #[.slice p ms.length cap,.agg #[.slice none 0 0,I4 0,.bool false],.func (.func 160) #[] #[I5 b]] [s,[(b,.cells #[.func (.func m) #[] #[]] 141 (0,0))]] (.agg #[.slice none 0 0,I4 (EZ lt ms).val,.bool (EZ lt ms).fnd]):=by
 have O:=mL;refine mH ?_;have h:=Te (M:=s++[(b,.cells #[.func (.func m) #[] #[]] 141 (0,0))]) (ms:=ms) (p:=p) (fun j u U=>by
  obtain ⟨g,o,c,T,z,J,h2,K⟩:=hc j u U;exact ⟨g,o,c,T,z,J,HE _ h2,K⟩) A0 G (fun i=>((EZ lt (ms.take i)).val,(EZ lt (ms.take i)).fnd)) V 160 [I5 b] call160 (fun i x hx=>by
  show BB _ _ _ _ (.agg #[.slice none 0 0,I4 (EZ lt (ms.take (i+1))).val,.bool (EZ lt (ms.take (i+1))).fnd]);rw [lu hx];exact aR (lw (EZ lt (ms.take i)).val x (EZ lt (ms.take i)).fnd b m lt E I))
 rwa [HJ]at h
theorem iO(h:∀r∈rows,-1000000000<=Bh r q.bq/\Bh r q.bq<=1000000000):∀m∈DI q rows,-1000000000<=m/\m<=1000000000:=by
 intro m g;obtain ⟨r,z,rfl⟩:=HX.1 g;exact h r z
set_option maxHeartbeats 1000000 in
theorem lX(hv:CZ M v rows)(ho:CZ M vo others)(q:QM)(hb:rows.length<=1000000000)(hm:BH q->∀r∈rows,-1000000000<=Bh r q.bq/\Bh r q.bq<=1000000000):CJ prog 55 #[.agg q.Ax4,v,vo] [M] (fun w H'=>∃rv s,w= .agg #[rv,I4 (JF q rows others).val,.bool (JF q rows others).fnd]/\BS 5 91 rv (JF q rows others).rows.length (Aa (JF q rows others).rows) s/\H'=[s,M]):=by
 have ax:=mL;refine Se func55 ntmps55 [0,1,2] ?_;intro u R;refine A2<|Ze (Bx #[_,_,_,_,_,_,_])<|AE fun bq=>Ze (Al GO #[_,_,_])<|AE fun br=>A6<|Zq<|A2<|Zo Wh (A7 (cs:=#[_,_,_,_,_,_,_]) DE CN Y BW B5)<|Xr [_] Y call31 Y V (Ld q)<|Zv (Bp Y)<|A6<|Af Y (fun hq=>?_) (fun hq=>?_);·
  have g:¬BH q:=by simpa using hq
  refine Zq<|Bi<|Zg<|Zv (BK (vs:=[]) (cs:=#[_,_,_]) Y (AY (pl:=#[(0,1),(1,1),(2,1)]) GO Cd (fun _=>by kernel_rfl) rfl))<|Xe (Xw BE _)<|A6<|AC<|Zt<|Df rfl du Y Wh (Ai D0 BE Wn (rfl)) (by exact ⟨.slice none 0 0,[],by rw [xH g];rfl,by rw [xH g];exact BX 5 _,rfl⟩)
 have g:BH q:=by simpa using hq
 have z:0<=q.bq/\q.bq<=3:=by have:=g.2.2.2;omega
 have af:=iO (hm g);refine AB<|BT<|Ze (Al GO #[_,_,_])<|AE fun bn=>A6<|Zq<|A2<|Zh 0 CH V rfl A4 Y<|Zl A5 Y<|A6<|AQ<|A2<|Zv (Bd Y Y)<|AF Y<|Ad Y (fun O=>?_) (fun O=>?_);·
  refine Zq<|Bi<|Zg<|Zm Y<|Zo Wh (Pa #[_,_,_] D0 BE Y)<|Xr [_,_,_] Y call108 Y V (fI hv hb)<|Xe (Xw BE _)<|Z0<|Zn [6] ?_;refine Zx<|AC<|AX<|Zt<|Df rfl du Y Wh (Ai D0 BE Wn (rfl)) (by exact ⟨.slice none 0 0,[],by rw [nb g O];rfl,by rw [nb g O];exact BX 5 _,rfl⟩)
 refine A2<|Zv (Bd Y Y)<|AF Y<|Ad Y (fun U=>?_) (fun U=>?_);·
  refine Zq<|Bi<|Au (n:=6) (0::0::3::0::15::31::[]) 52 AG AG V<|Fo 0 V Wh (A7 (cs:=#[_,_,_,_,_,_,_]) DE CN Y BW B5)<|A1 1 V (AA Y)<|Fo 3 V Wh (Pa #[_,_,_] D0 BE Y)<|Zz (l:=[2])<|C6 [true,false] [(3,(_,_))] V rfl (Zw [_,_] Y call111 Y V (NN hv q z A0)) ?_ DC Ar;rintro _ _ ⟨_,⟨sm,m,rfl⟩,rfl⟩;refine ⟨Zk (Ab),?_⟩;obtain ⟨K,cm,rfl⟩:=m.form;have E:Gc sm K ((DI q rows).map ivQ):=M4 m
  have J:=LB q rows;have I:=Ew m
  refine Yw 4 31 V (Zu [_,_,_] Y call110 Y V (nN E A0 A0 af))<|DA<|Yw 5 63 V (Xw BE _)<|DA<|Am<|Zn [6] ?_;refine Zx<|AC<|AX<|Zt<|Df rfl du Y Wh (Ai D0 BE Wn (rfl)) (by exact ⟨.slice none 0 0,[],by rw [na g U];rfl,by rw [na g U];exact BX 5 _,rfl⟩)
 refine A2<|Zv (Bd Y Y)<|AN Y<|Zn [1,2,3,6,7,13,26] ?_;refine Zx<|Ad Y (fun W=>?_) (fun W=>?_);·
  refine Zq<|Bi<|Au (n:=7) (0::0::3::0::7::31::63::[]) 116 AG AG V<|Fo 0 V Wh (A7 (cs:=#[_,_,_,_,_,_,_]) DE CN Y BW B5)<|A1 1 V (AA Y)<|Fo 3 V Wh (Pa #[_,_,_] D0 BE Y)<|Zz (l:=[2])<|C6 [true,false] [(3,(_,_))] V rfl (Zw [_,_] Y call111 Y V (NN hv q z A0)) ?_ DC Ar;rintro _ _ ⟨_,⟨sm,m,rfl⟩,rfl⟩;refine ⟨Zk (Ab),?_⟩;obtain ⟨K,cm,rfl⟩:=m.form;have E:Gc sm K ((DI q rows).map ivQ):=M4 m
  have J:=LB q rows;have I:=Ew m
  refine Zz (l:=[4])<|C6 [true] [(3,(_,_))] V rfl (Zw [_] Y call113 Y V (Nn (.func (.func 114) #[] #[]) V rfl)) ?_ DC Ar;rintro _ _ ⟨_,⟨b9,rfl,rfl⟩,rfl⟩;refine CA<|Yw 5 63 V (Zu [_,_,_] Y call110 Y V (aD E A0 A0 b9 114 _ call114 ed))<|DA<|Yw 6 127 V (Xw BE _)<|DA<|Am<|Zx<|AC<|AX<|Zt<|Df V du Y Wh (Ai D0 BE Wn (V)) (by
   have e8:=Vz (fun a b=>decide (a<b)) (DI q rows) CB.none;exact ⟨.slice none 0 0,[],by rw [nF g W];rfl,by rw [nF g W];rw [show(EZ (fun a b=>decide (a<b)) (DI q rows)).rows=[] from e8];exact BX 5 _,rfl⟩)
 refine A2<|Zv (Bd Y Y)<|AF Y<|Ad Y (fun X=>?_) (fun X=>?_);·
  refine Zq<|Bi<|Au (n:=7) (0::0::3::0::7::31::63::[]) 116 AG AG V<|Fo 0 V Wh (A7 (cs:=#[_,_,_,_,_,_,_]) DE CN Y BW B5)<|A1 1 V (AA Y)<|Fo 3 V Wh (Pa #[_,_,_] D0 BE Y)<|Zz (l:=[2])<|C6 [true,false] [(3,(_,_))] V rfl (Zw [_,_] Y call111 Y V (NN hv q z A0)) ?_ DC Ar;rintro _ _ ⟨_,⟨sm,m,rfl⟩,rfl⟩;refine ⟨Zk (Ab),?_⟩;obtain ⟨K,cm,rfl⟩:=m.form;have E:Gc sm K ((DI q rows).map ivQ):=M4 m
  have J:=LB q rows;have I:=Ew m
  refine Zz (l:=[4])<|C6 [true] [(3,(_,_))] V rfl (Zw [_] Y call113 Y V (Nn (.func (.func 115) #[] #[]) V rfl)) ?_ DC Ar;rintro _ _ ⟨_,⟨b9,rfl,rfl⟩,rfl⟩;refine CA<|Yw 5 63 V (Zu [_,_,_] Y call110 Y V (aD E A0 A0 b9 115 _ call115 eZ))<|DA<|Yw 6 127 V (Xw BE _)<|DA<|Am<|Zx<|AC<|AX<|Zt<|Df V du Y Wh (Ai D0 BE Wn (V)) (by
   have e8:=Vz (fun a b=>decide (b<a)) (DI q rows) CB.none;exact ⟨.slice none 0 0,[],by rw [nB g X];rfl,by rw [nB g X];rw [show(EZ (fun a b=>decide (b<a)) (DI q rows)).rows=[] from e8];exact BX 5 _,rfl⟩)
 refine A2<|Zv (Bd Y Y)<|AF Y<|Ad Y (fun Z=>?_) (fun Z=>?_);·
  refine A2<|Zo Wh (A7 (cs:=#[_,_,_,_,_,_,_]) DE CN Y BW B5)<|Sk 2 V<|Zc [_,_,_] Y call116 Y V (ZC hv ho q z A0) ?_;rintro _ _ ⟨_,⟨sj,G,rfl⟩,rfl⟩;obtain ⟨gj,cj,rfl⟩:=G.form;refine Zv (BK (vs:=[(0,_)]) (cs:=#[_,_,_]) Y (AY (pl:=#[(0,1),(1,1),(2,1)]) GO Cd (fun _=>by kernel_rfl) rfl))<|Xe (Ao BE Y Y (by(simp [Value.oneCell',Value.cells];done)) Wu B5 DO AH (by exact Aw _))<|A6<|AC<|AX<|Zt<|Df rfl du Y Wh (Ai D0 BE Wn (rfl)) (by exact ⟨.slice gj _ cj,sj,by rw [n9 g Z];rfl,by rw [n9 g Z];exact G,rfl⟩)
 refine AB<|A8<|Zx<|B7 Y<|Zc [_] Y call98 Y V (J9 hv A0) ?_;rintro _ _ ⟨_,⟨sj,G,rfl⟩,rfl⟩;obtain ⟨gj,cj,rfl⟩:=G.form;refine Zv (BK (vs:=[(0,_)]) (cs:=#[_,_,_]) Y (AY (pl:=#[(0,1),(1,1),(2,1)]) GO Cd (fun _=>by kernel_rfl) rfl))<|Xe (Ao BE Y Y (by(simp [Value.oneCell',Value.cells];done)) Wu B5 DO AH (by exact Aw _))<|A6<|AC<|Df rfl du Y Wh (Ai D0 BE Wn (rfl)) (by exact ⟨.slice gj _ cj,sj,by rw [nd g O U W X Z];rfl,by rw [nd g O U W X Z];exact G,rfl⟩)
theorem uW{x y:CB}:x=y↔x.val=y.val/\x.fnd=y.fnd/\x.rows=y.rows:=by
 obtain ⟨a,b,c⟩:=x;obtain ⟨d,e,f⟩:=y;simp only [CB.mk.injEq];constructor;· rintro ⟨g,h2,m⟩;exact ⟨h2,m,g⟩
 · rintro ⟨g,h2,m⟩;exact ⟨m,g,h2⟩
theorem NB(h:r.ok)(c:Int):-1000000000<=Bh r c/\Bh r c<=1000000000:=by
 obtain ⟨⟨g,h2,m⟩,z,E⟩:=h;unfold inV at g h2 m;unfold Bh;split;· omega
 · split
   · omega
   · split
     · omega
     · split<;>omega
variable{B:List AR}
theorem ZT{A:List AR}(hv:CZ A v rows)(z:CZ B vo others)(q:QM)(g:rows.length<=1000000000)(m:BH q->∀r∈rows,-1000000000<=Bh r q.bq/\Bh r q.bq<=1000000000):CJ prog 55 #[.agg q.Ax4,v,vo] [A,B] (fun w H'=>∃rv s,w= .agg #[rv,I4 (JF q rows others).val,.bool (JF q rows others).fnd]/\BS 5 91 rv (JF q rows others).rows.length (Aa (JF q rows others).rows) s/\H'=[s,A,B]):=by
 refine E8 (lX (hv.mono (fun c hc=>HE B hc)) (z.mono (fun c hc=>G2 A hc)) q g m) C4 ?_;rintro r H' ⟨rv,s,rfl,h,rfl⟩;exact ⟨_,⟨rv,s,V,h,V⟩,by simp⟩
theorem ja(v:A3)(p:Int)(rs:List AV)(s:List AR)(hv:RO v p rs s)(t c lo hi:Int)(hc:0<=c/\c<=3):CJ prog 35 #[v,I4 t,I4 c,I4 lo,I4 hi] [s] (fun r H'=>∃g,BS 5 91 r (D8 rs t c.toNat lo hi).length (Aa (D8 rs t c.toNat lo hi)) g/\H'=[g,s]):=by
 have h:=Xz v p rs s hv t c.toNat lo hi A0;rwa [show((c.toNat:Nat):Int)=c by omega]at h
theorem Sb{rs:List AV}{t:Int}{c:Nat}{lo hi:Int}:(D8 rs t c lo hi).length<=rs.length/\∀r∈D8 rs t c lo hi,r∈rs:=by
 have h:=Ex rs t c lo hi;exact ⟨by rw [h.length_eq];exact On _ _,fun r g=>(PA.1 (h.mem_iff.1 g)).1⟩
theorem fF{z E:A3}{x y:CB}(g:CZ M z x.rows)(m:CZ M E y.rows):BB prog 65 #[.agg #[z,I4 x.val,.bool x.fnd],.agg #[E,I4 y.val,.bool y.fnd]] [M] (.bool (decide (x=y))):=by
 obtain ⟨W,O,rfl,_⟩:=id g;obtain ⟨X,U,rfl,_⟩:=id m;refine Se func65 ntmps65 [0,1] ?_;intro u R;refine A2<|Ze (Bx #[_,_,_])<|AE fun J=>Ze (Bx #[_,_,_])<|AE fun K=>AF Y<|A2<|Zh 1 Cd V rfl A4 Y<|Zl A5 Y<|Zh 1 Cd V rfl A4 Y<|Zl A5 Y<|Zv (Bd Y Y)<|Zm Y<|AZ (t:=10) Y V (fun I=>?_) (fun I=>?_);focus
  refine Yf 2 Cd V rfl DP Y<|Yl Fc Y<|Yf 2 Cd V rfl DP Y<|Yl Fc Y<|Yg (Ih MY Y Y)<|Sk 2 V ?_;refine AZ (t:=17) Y V (fun h2=>?_) (fun h2=>?_);focus
   refine Yf 0 Cd V rfl Cl Y<|Yl DQ Y<|Yf 0 Cd V rfl Cl Y<|Yl DQ Y<|Xr [_,_] Y call131 Y V (aK g m)<|Zv (Ay Y Y) ?_
  rotate_left
  focus
   refine Sk 6 V ?_
 rotate_left 2
 focus
  refine Sk 13 V ?_
 all_goals
  refine AN Y<|Zn [4] ?_;refine Zx<|AC<|AO V results65 Y (by
   have G:decide (x=y)=decide (x.val=y.val/\x.fnd=y.fnd/\x.rows=y.rows):=decide_eq_decide.2 uW;exact ⟨congrArg Value.bool (by rw [G];simp [*]),rfl⟩)
def Fy(c:Chg)(x:AV):Bool:=decide (x.t=c.t)&&decide (x.k=c.k)
def Ht(q:QM)(y x:AV):Bool:=decide (Bh y q.cl<Bh x q.cl)||(decide (Bh x q.cl=Bh y q.cl)&&decide (y.k<x.k))
def PS(pd:AV->Bool)(rows:List AV)(y:AV):List AV:=rows.take ((rows.findIdx? pd).getD rows.length)++[y]++rows.drop ((rows.findIdx? pd).getD rows.length)
def Cv(q:QM)(c:Chg)(rows:List AV):List AV:=match afQ q c with
 |some y=>PS (Ht q y) (rows.filter fun x=>!Fy c x) y
 |none=>rows.filter fun x=>!Fy c x
def FH(lt:Int->Int->Bool)(b a:Bool)(o n:Int)(r:CB):CB×Bool:=
 if b&&(!r.fnd||!lt r.val o)then(⟨r.rows,n,r.fnd⟩,(a&&r.fnd)&&!lt r.val n)
 else if a then(⟨r.rows,if !r.fnd||lt n r.val then n else r.val,true⟩,true)else(r,true)
theorem ZK(g:AV->Bool)(rows:List AV)(y:AV):(PS g rows y).length=rows.length+1:=by
 unfold PS;simp only [C7,CI,D4,HI];omega
theorem Ng(q:QM)(c:Chg)(rows:List AV):(Cv q c rows).length<=rows.length+1:=by
 have h:=On (fun x=>!Fy c x) rows;unfold Cv;split;· rw [ZK];omega
 · omega
theorem LK(lt:Int->Int->Bool)(b a:Bool)(o n:Int)(r:CB):(FH lt b a o n r).1.rows=r.rows:=by
 unfold FH;split;· rfl
 · split<;>rfl
theorem vg(g:AV->Bool)(rows:List AV):(RL g rows<0/\(rows.findIdx? g).getD rows.length=rows.length)\/∃i:Nat,i<=rows.length/\RL g rows=(i:Int)/\(rows.findIdx? g).getD rows.length=i:=by
 unfold RL;cases h:rows.findIdx? g with
 |none=>exact .inl ⟨by simp,rfl⟩
 |some i=>
  obtain ⟨m,_,_⟩:=Sp.1 h;exact .inr ⟨i,by omega,V,V⟩
theorem kL(q:QM)(c:Chg)(z E:C1)(o n:Int)(x:AV)(g:Nat):BB prog 253 #[.agg x.Ax3,I5 g] [[(g,.cells (q.HU c z E o n) 241 (0,0))]] (.bool (Fy c x)):=by
 refine Se func253 ntmps253 [0,1] ?_;intro u R;refine A2<|Ze (Bx #[_,_,_,_,_])<|AE fun G=>AF Y<|A2<|Zh 0 F1 V rfl A4 Y<|Zl A5 Y<|Zh 7 GW V rfl D2 Y<|Zv (Aj (off:=0) CM V rfl A4 Y)<|Zl A5 Y<|Zv (Bd Y Y)<|Zm Y<|AZ (t:=10) Y V (fun m=>?_) (fun m=>?_);focus
  refine Yf 1 F1 V rfl A4 Y<|Yl A5 Y<|Yf 7 GW V rfl D2 Y<|Yg (Aj (off:=1) CM V rfl A4 Y)<|Yl A5 Y<|Yg (Bd Y Y)<|Zv (Ay Y Y) ?_
 rotate_left
 focus
  refine Sk 7 V ?_
 all_goals
  refine AN Y<|Zn [3] ?_;refine Zx<|AC<|AO V results253 Y (by exact ⟨by simp [Fy,m],V⟩)
theorem WO{A:List AR}(hv:CZ A v rows)(hn:rows.length<=1000000000)(g:Nat)(us:List A3)(m:AV->Bool)(z:∀(args:As) (w:AD),(callFunc g args).run prog w= .ok (.enter g args) w)(G:∀x:AV,BB prog g (.agg x.Ax3::us).toArray [B] (.bool (m x))):CJ prog 252 #[v,.func (.func g) #[] us.toArray] [A,B] (fun r H'=>∃s,BS 5 91 r (rows.filter fun x=>!m x).length (Aa (rows.filter fun x=>!m x)) s/\H'=[s,A,B]):=by
 obtain ⟨p,cap,rfl,_⟩:=id hv;refine Se func252 ntmps252 [0,1] ?_;intro u R;refine A2<|AF Y<|B7 Y<|Zc [_] Y call98 Y V (J9 hv A0) ?_;rintro _ _ ⟨_,⟨s1,E,rfl⟩,rfl⟩;obtain ⟨K,I,rfl⟩:=E.form;refine Zm Y<|Zc [_,_] Y call263 Y V (aT E hn g us m z G) ?_;rintro _ _ ⟨_,⟨s2,h2,rfl⟩,rfl⟩;obtain ⟨O,J,rfl⟩:=h2.form;refine AM Y<|AO V results252 Y (by exact ⟨_,h2,V⟩)
theorem UN(E:BS 5 91 v rows.length (Aa rows) s)(hn:rows.length<=1000000000)(y:AV)(g:Nat)(us:List A3)(G:AV->Bool)(O:∀(args:As) (w:AD),(callFunc g args).run prog w= .ok (.enter g args) w)(hf:∀x:AV,BB prog g (.agg x.Ax3::us).toArray [B] (.bool (G x))):CJ prog 254 #[v,.agg y.Ax3,.func (.func g) #[] us.toArray] [s,B] (fun r H'=>∃W s2,BS 5 91 r (PS G rows y).length (Aa (PS G rows y)) W/\H'=[W,s2,B]):=by
 have af:=mL;obtain ⟨p,cap,rfl⟩:=E.form;have hU:=Ca E A0
 refine Se func254 ntmps254 [0,1,2] ?_;intro u R;refine A2<|Ze (Bx #[_,_,_,_,_])<|AE fun bx=>AF Y<|A2<|Sk 2 V<|Xr [_,_] Y call82 Y V (TY hU g us G O hf) ?_;obtain ⟨z9,K⟩:∃z,z=RL G rows:=⟨_,rfl⟩;rw [<-K];have m:=vg G rows
 rw [<-K]at m;refine AF Y<|Zb [7,0,4] ?_;refine C9 (e0:=[(7,_)]) (H0:=[]) (fun e H=>∃(i:Nat),(i<=rows.length/\(rows.findIdx? G).getD rows.length=i)/\e=[(7,I4 (i:Int))]/\H=[]) Wp ?hx_1 ?hy_1
 case hx_1=>
  refine B7 Y<|Zv (Dq Y Y)<|A6<|Ad Y (fun J=>?_) (fun J=>?_);·
   refine Zg<|Zm Y<|Zv (AJ B0 Y)<|AN Y<|FF (e:=[(7,_)]) (h:=by exact ⟨rows.length,⟨B4 _,by rcases m with⟨_,h⟩|⟨i,h1,h2,I⟩;exact h;omega⟩,rfl,rfl⟩)
  rcases m with⟨Z,_⟩|⟨i,h1,h2,I⟩
  · exact absurd Z J
  subst h2;refine AB<|HC (by exact ⟨i,⟨h1,I⟩,V,V⟩)
 rintro _ _ ⟨i,⟨hi,U⟩,rfl,rfl⟩;refine A2<|Sk 2 V<|Zo Wh (Pa #[_,_,_,_,_] C5 AW Y)<|Ze (Ah (vs:=[_]) (cs:=[_,_,_,_,_]) B0 AW DS Y V rfl V rfl V)<|AE fun X=>Zc [_,_,_] Y call264 Y V (ZH E hn i hi y X) ?_;rintro _ _ ⟨_,⟨s3,s4,I,rfl⟩,rfl⟩;obtain ⟨g3,c3,rfl⟩:=I.form;refine AM Y<|AO rfl results254 Y (by exact ⟨_,s4,by unfold PS;rw [U];exact I,rfl⟩)
end Go.Proofs.YtljkoipiekbijaaGreatDoor
