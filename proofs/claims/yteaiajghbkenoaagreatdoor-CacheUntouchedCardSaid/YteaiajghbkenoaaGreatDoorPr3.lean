/- predicate.kinds, Touches. -/
/- eval: folds, measures, joins. -/
/- eval: extreme, the steps of From, joined. -/
/- eval: From, Of, Same. -/
/- eval: Same, Of. -/
/- The patches of a result. -/
/- The patches of the kinds of queries (not joins). -/
import Derived.Test.YteaiajghbkenoaaGreatDoorEz
import Derived.Test.YteaiajghbkenoaaGreatDoorQe3
import Derived.Test.YteaiajghbkenoaaGreatDoorQe1
set_option linter.unusedVariables false
set_option linter.unusedSimpArgs false
namespace Go.Proofs.YteaiajghbkenoaaGreatDoor
open Go.Proofs.Tryz
open Go Go.RowKit Gw
set_option maxRecDepth 100000
attribute [local irreducible] Gw.At Gw.Nx Gw.Ops
def Lv(b5 b6:Nat):List (Int×Value):=[(1,.agg #[.func (.func 126) #[] #[],.func (.func 127) #[] #[]]),(2,.agg #[.func (.func 126) #[] #[],.func (.func 127) #[] #[]]),(3,.agg #[.func (.func 128) #[] #[],.func (.func 129) #[] #[]]),(4,.agg #[.func (.func 130) #[] #[],.func (.func 131) #[] #[]]),(5,.agg #[.func (.func 132) #[] #[],.func (.func 208) #[] #[I5 b5]]),(6,.agg #[.func (.func 135) #[] #[],.func (.func 208) #[] #[I5 b6]]),(7,.agg #[.func (.func 137) #[] #[],.func (.func 138) #[] #[]])]
variable{lm:List (Int×Value)}{k:Int}{v:Value}
theorem ZB{g m:Nat}(h:∀p,p∈lm↔p∈Lv g m)(I:(lm.map (·.1)).Nodup)(G:(k,v)∈Lv g m):EG k lm=some v:=D5 I ((h _).2 G)
def HY(k:Int):Nat:=if k=1 then 126 else if k=2 then 126 else if k=3 then 128 else if k=4 then 130 else if k=5 then 132 else if k=6 then 135 else 137
theorem rV{g m:Nat}(h:∀p,p∈lm↔p∈Lv g m)(G:(lm.map (·.1)).Nodup)(I:1<=k/\k<=7):∃pf,EG k lm=some (.agg #[.func (.func (HY k)) #[] #[],pf]):=by
 obtain h9|h9|h9|h9|h9|h9|h9:k=1\/k=2\/k=3\/k=4\/k=5\/k=6\/k=7:=by omega
 all_goals subst h9
 all_goals exact ⟨_,ZB h G (by simp [Lv,HY];rfl)⟩
theorem PH(v:Value)(g:v.oneCell'=true)(hc:v.cells=#[v]):BZ prog 133 #[v] [] (fun r H'=>∃b,r= .func (.func 208) #[] #[I5 b]/\H'=[[(b,.cells #[v] 73 (0,0))]]):=by
 refine Se func133 ntmps133 [0] ?_;intro u R;refine A0<|Ze (Ep Y (cs:=#[v]) hc)<|AD fun b=>A3 Y<|A0<|Zv (Bg (vs:=[]) (us:=[_]) Y Y)<|A3 Y<|AJ<|AP V results133 Y (by exact ⟨b,V,V⟩)
theorem Ng:BZ prog 68 #[] [] (fun v H'=>∃b es ck lm g m,v= .map (some b)/\Ck (fun k:Int=>I4 k) es ck lm/\(∀p,p∈lm↔p∈Lv g m)/\H'=[[(b,.map es ck)],[(g,.cells #[.func (.func 134) #[] #[]] 73 (0,0))],[(m,.cells #[.func (.func 136) #[] #[]] 73 (0,0))]]):=by
 refine Se func68 ntmps68 [] ?_;intro u R;refine A0<|A3 Y<|A0<|Ze (DT)<|AD fun mb=>Zv (BL (vs:=[(0,.func (.func 126) #[] #[]),(1,.func (.func 127) #[] #[])]) (cs:=#[.func (.func 126) #[] #[],.func (.func 127) #[] #[]]) Y (AY (pl:=#[(0,1),(1,1)]) Wa W6 (fun _=>by kernel_rfl) A6))<|Ze (ED Hw W7 (EQ _) (fun _ _=>trivial) (trivial) Y Y Y Wo) ?_;rintro _ _ ⟨rfl,kv,gq,p8,J,af,rfl⟩;refine Zv (BL (vs:=[(0,.func (.func 126) #[] #[]),(1,.func (.func 127) #[] #[])]) (cs:=#[.func (.func 126) #[] #[],.func (.func 127) #[] #[]]) Y (AY (pl:=#[(0,1),(1,1)]) Wa W6 (fun _=>by kernel_rfl) A6))<|Ze (ED Hw W7 J (fun _ _=>trivial) (trivial) Y Y Y Wo) ?_;rintro _ _ ⟨rfl,l5,gy,p9,K,ax,rfl⟩;refine Zv (BL (vs:=[(0,.func (.func 128) #[] #[]),(1,.func (.func 129) #[] #[])]) (cs:=#[.func (.func 128) #[] #[],.func (.func 129) #[] #[]]) Y (AY (pl:=#[(0,1),(1,1)]) Wa W6 (fun _=>by kernel_rfl) A6))<|Ze (ED Hw W7 K (fun _ _=>trivial) (trivial) Y Y Y Wo) ?_;rintro _ _ ⟨rfl,l8,gB,pg,O,bn,rfl⟩;refine Zv (BL (vs:=[(0,.func (.func 130) #[] #[]),(1,.func (.func 131) #[] #[])]) (cs:=#[.func (.func 130) #[] #[],.func (.func 131) #[] #[]]) Y (AY (pl:=#[(0,1),(1,1)]) Wa W6 (fun _=>by kernel_rfl) A6))<|Ze (ED Hw W7 O (fun _ _=>trivial) (trivial) Y Y Y Wo) ?_;rintro _ _ ⟨rfl,l9,ic,pq,U,cu,rfl⟩;refine Zc [_] Y call133 Y V (PH (.func (.func 134) #[] #[]) V rfl) ?_;rintro _ _ ⟨_,⟨g,rfl,rfl⟩,rfl⟩;refine Zv (BL (vs:=[(0,.func (.func 132) #[] #[]),(1,.func (.func 208) #[] #[I5 g])]) (cs:=#[.func (.func 132) #[] #[],.func (.func 208) #[] #[I5 g]]) Y (AY (pl:=#[(0,1),(1,1)]) Wa W6 (fun _=>by kernel_rfl) A6))<|Ze (ED Hw W7 U (fun _ _=>trivial) (trivial) Y Y Y Wo) ?_;rintro _ _ ⟨rfl,o8,j3,pz,W,cO,rfl⟩;refine Zc [_] Y call133 Y V (PH (.func (.func 136) #[] #[]) V rfl) ?_;rintro _ _ ⟨_,⟨m,rfl,rfl⟩,rfl⟩
 refine Zv (BL (vs:=[(0,.func (.func 135) #[] #[]),(1,.func (.func 208) #[] #[I5 m])]) (cs:=#[.func (.func 135) #[] #[],.func (.func 208) #[] #[I5 m]]) Y (AY (pl:=#[(0,1),(1,1)]) Wa W6 (fun _=>by kernel_rfl) A6))<|Ze (ED Hw W7 W (fun _ _=>trivial) (trivial) Y Y Y Wo) ?_;rintro _ _ ⟨rfl,o9,j5,q9,X,d9,rfl⟩;refine Zv (BL (vs:=[(0,.func (.func 137) #[] #[]),(1,.func (.func 138) #[] #[])]) (cs:=#[.func (.func 137) #[] #[],.func (.func 138) #[] #[]]) Y (AY (pl:=#[(0,1),(1,1)]) Wa W6 (fun _=>by kernel_rfl) A6))<|Ze (ED Hw W7 X (fun _ _=>trivial) (trivial) Y Y Y Wo) ?_;rintro _ _ ⟨rfl,I,G,gm,Z,ek,rfl⟩;refine Zm Y<|AG Y<|Zn [0] ?_;refine Zx<|AJ<|AP V results68 Y (by
  refine ⟨mb,I,G,gm,g,m,V,Z,fun p=>?_,V⟩;rw [ek,d9,cO,cu,bn,ax,af];simp only [Lv,D2,RT,RC,ff];constructor
  · rintro (rfl|⟨rfl|⟨rfl|⟨rfl|⟨rfl|⟨rfl|⟨rfl,-⟩,-⟩,-⟩,-⟩,-⟩,-⟩)<;>simp
  · rintro (h|h|h|h|h|h|h)<;>subst h<;>simp)
theorem fD(q:QM)(c:Chg)(Z:BJ q){g m:Option Addr}{s1 s2:List A9}(U:Ig g (bfQ q c) s1)(h2:Ig m (afQ q c) s2):BI prog (HY q.kd) #[.agg (q.G2 c g m (mQ q (bfQ q c)) (mQ q (afQ q c)))] [] (.bool (Co q c)):=by
 have e1:=U.some_;have e2:=h2.some_
 have X:q.kd=1\/q.kd=2\/q.kd=3\/q.kd=4\/q.kd=5\/q.kd=6\/q.kd=7:=by have:=Z.2.2.2;omega
 have G:=bA q c g m (mQ q (bfQ q c)) (mQ q (afQ q c));have O:=TF q c g m (mQ q (bfQ q c)) (mQ q (afQ q c))
 have W:=wy q c g m (mQ q (bfQ q c)) (mQ q (afQ q c));have I:=ww q c g m (mQ q (bfQ q c)) (mQ q (afQ q c))
 have J:=wu q c g m (mQ q (bfQ q c)) (mQ q (afQ q c));have K:=wm q c g m (mQ q (bfQ q c)) (mQ q (afQ q c))
 rw [e1,e2]at G O I J K;rcases X with h|h|h|h|h|h|h
 · rw [show HY q.kd=126 by rw [h];rfl,show Co q c=Nz q c by unfold Co;rw [AM A1]];exact G
 · rw [show HY q.kd=126 by rw [h];rfl,show Co q c=Nz q c by unfold Co;rw [AM A1]];exact G
 · rw [show HY q.kd=128 by rw [h];rfl,show Co q c=UZ q c by unfold Co;rw [AK A1,AM A1]];exact O
 · rw [show HY q.kd=130 by rw [h];rfl,show Co q c=decide (mQ q (bfQ q c)≠mQ q (afQ q c)) by unfold Co;rw [AK A1,AK A1,AM A1]];exact W
 · rw [show HY q.kd=132 by rw [h];rfl,show Co q c=(UZ q c||decide (mQ q (bfQ q c)≠mQ q (afQ q c))) by unfold Co;rw [AK A1,AK A1,AK A1,AM A1]];exact I
 · rw [show HY q.kd=135 by rw [h];rfl,show Co q c=(UZ q c||decide (mQ q (bfQ q c)≠mQ q (afQ q c))) by unfold Co;rw [AK A1,AK A1,AK A1,AM A1]];exact J
 · rw [show HY q.kd=137 by rw [h];rfl,show Co q c=(Nz q c||decide (c.t=q.ot)) by unfold Co;rw [AK A1,AK A1,AK A1,AK A1]];exact K
theorem lV(g:1<=k/\k<=7):∀(args:Array Value) (w:World),(callFunc (HY k) args).run prog w= .ok (.enter (HY k) args) w:=by
 obtain h|h|h|h|h|h|h:k=1\/k=2\/k=3\/k=4\/k=5\/k=6\/k=7:=by omega
 all_goals (subst h;simp only [HY];first|exact call126|exact call128|exact call130|exact call132|exact call135|exact call137)
variable{q:QM}
theorem BJ.kind(h:BJ q):1<=q.kd/\q.kd<=7:=by have:=h.2.2.2;omega
theorem KW(q:QM)(c:Chg):BI prog 22 #[.agg q.A30,.agg c.A28] [] (.bool (decide (BJ q)&&(decide c.ok&&Co q c))):=by
 refine Se func22 ntmps22 [0,1] ?_;intro u R;refine A0<|Ze (Bx #[_,_,_,_,_,_,_])<|AD fun pq=>Ze (Bx #[_,_,_,_,_,_,_,_,_,_])<|AD fun pc=>A3 Y<|Zq<|Az (n:=18) (0::1::3::7::15::31::63::127::127::383::1023::2047::127::127::12543::32767::65535::131071::[]) 49298 A6 A6 V<|E6 0 V Wh (AA (cs:=#[_,_,_,_,_,_,_]) E4 CC Y Ax AN) ?_;refine Yw 1 3 V (Zu [_] Y call34 Y V (JY q))<|CT<|A2 2 V (AO Y)<|Bu (t:=7) Y (fun g=>?_) (fun g=>?_)
 ·
  rw [g];refine DA 3 V Wh (AA (cs:=#[_,_,_,_,_,_,_,_,_,_]) Ft C3 Y Ax AN) ?_;refine Yw 4 31 V (Zu [_] Y call67 Y V (V6 c))<|CT<|A2 5 V (AV Y Y)<|A2 6 V (AO Y)<|Bu (t:=11) Y (fun h2=>?_) (fun h2=>?_)
  ·
   rw [h2];refine AH 8 V (AB (off:=0) CA V rfl A5 Y)<|DA 9 V Wh (BO AE Y AN) ?_;refine DA 12 V Wh (AA (cs:=#[_,_,_,_,_,_,_]) E4 CC Y Ax AN) ?_;refine DA 13 V Wh (AA (cs:=#[_,_,_,_,_,_,_,_,_,_]) Ft C3 Y Ax AN) ?_;refine Zz (l:=[7])<|B1 [true,true,true] [(13,(_,_)),(12,(_,_)),(9,(_,_))] V rfl (Zw [] Y call68 Y V (Ng)) ?_ Bz Ai;rintro _ _ ⟨_,⟨mb,es,ck,lm,U,W,rfl,K,O,rfl⟩,rfl⟩;refine ⟨Zk (Zk (Zk (AZ))),?_⟩;have G:BJ q:=HX g
   obtain ⟨pf,m⟩:=rV O K.keys G.kind;refine DA 10 rfl Wh (Db Hw W7 Wa K (fun _ _=>trivial) (trivial) ((by rw [m];exact rfl:_=Value.agg #[.func (.func (HY q.kd)) #[] #[],pf])) Y Y) ?_;refine AH 11 V (X8 W6 V isAgg159 Y V)<|Zz (l:=[14])<|B1 [true,false,false,true] [(10,(_,_)),(9,(_,_))] V rfl (Zw [_,_] Y call69 Y V (Jg q G.2.1 (by have:=G.2.2.2;omega) c)) ?_ Bz Ai;rintro _ _ ⟨_,⟨X,Z,s1,s2,rfl,I,J,rfl⟩,rfl⟩;refine B5<|Yw 15 65535 V (Zu [_] Y (lV G.kind) Y V (fD q c G I J))<|CT<|A2 16 V (AV Y Y)<|A2 17 V (Aw Y)<|Ah<|Zn [4] ?_;refine Zx<|AJ<|AP V results22 Y (by exact ⟨by simp [g,h2],V⟩)
  rw [h2];refine AF 7 V<|AF 8 V<|AF 9 V<|AF 10 V<|AF 11 V<|AF 12 V<|AF 13 V<|AF 14 V<|AF 15 V<|A2 16 V (AL Y Y)<|A2 17 V (Aw Y)<|Ah<|Zn [4] ?_;refine Zx<|AJ<|AP V results22 Y (by exact ⟨by simp [g,h2],V⟩)
 rw [g];refine AF 3 V<|AF 4 V<|A2 5 V (AL Y Y)<|A2 6 V (AO Y)<|AF 7 V<|AF 8 V<|AF 9 V<|AF 10 V<|AF 11 V<|AF 12 V<|AF 13 V<|AF 14 V<|AF 15 V<|A2 16 V (AL Y Y)<|A2 17 V (Aw Y)<|Ah<|Zn [4] ?_;refine Zx<|AJ<|AP V results22 Y (by exact ⟨by simp [g],V⟩)
def ivQ(n:Int):Value:=I4 n
theorem jv(e:TypeId)(g c:Nat)(z:Value)(h:c<=maxLen):Bb 1 e (I6 g 0 c) 0 [] [(g,.cells (List.replicate c z).toArray e (0,0))]:=⟨rfl,.inr ⟨g,c,_,(0,0),rfl,rfl,C0 _,h,by simp,by simp,BA _⟩⟩
variable{rows:List AU}{i:Nat}{r:AU}
theorem lI(h:rows[i]?=some r):Cu q (rows.take (i+1))=Cu q (rows.take i)++[Bl r q.bq]:=by
 unfold Cu;rw [Bn h,Bm];rfl
theorem KE(q:QM)(rows:List AU):(Cu q rows).length=rows.length:=by unfold Cu;rw [B2]
theorem wQ(h:rows[i]?=some r):(Cu q rows)[i]?=some (Bl r q.bq):=by unfold Cu;rw [DM,h];rfl
variable{M:List A9}
theorem fZ(hv:De M v rows){v0:Int}{U:Bool}(st:Nat->Int×Bool)(h0:st 0=(v0,U))(G:Nat)(us:List Value)(K:∀(args:Array Value) (w:World),(callFunc G args).run prog w= .ok (.enter G args) w)(hf:∀(i:Nat) (r:AU),rows[i]?=some r->BI prog G (.agg #[.slice none 0 0,I4 (st i).1,.bool (st i).2]:: .agg r.A29::us).toArray [M] (.agg #[.slice none 0 0,I4 (st (i+1)).1,.bool (st (i+1)).2])):BI prog 219 #[v,.agg #[.slice none 0 0,I4 v0,.bool U],.func (.func G) #[] us.toArray] [M] (.agg #[.slice none 0 0,I4 (st rows.length).1,.bool (st rows.length).2]):=by
 have ax:=mL;obtain ⟨p,cap,rfl,⟨hl,af⟩,hg⟩:=id hv;refine Se func219 ntmps219 [0,1,2] ?_;intro u R;refine A0<|Ze (Bx #[_,_,_])<|AD fun Z=>Ze (Al G3 #[_,_,_])<|AD fun re=>A4<|Zq<|A0<|Zm Y<|Zv (Aa B6 Y)<|Zm Y<|A4<|AQ<|Zb [11,2,4,6,9,10] ?_;refine BB (e0:=[(11,_)]) (fun m e H=>∃(i:Nat),m=rows.length -i/\(i<=rows.length)/\e=[(11,I4 (i:Int))]/\H=[[(Z,.cells #[.slice none 0 0,I4 (st i).1,.bool (st i).2] 53 (0,0))]]) (by exact ⟨0,rfl,C0 _,rfl,by rw [h0]⟩) Wp ?_;rintro _ _ _ ⟨i,rfl,hi,rfl,rfl⟩;refine A0<|Zv (Av Y Y)<|A4<|Zq<|Au Y (fun J=>?_) (fun J=>?_)
 ·
  obtain ⟨r,W⟩:∃r,rows[i]?=some r:=⟨_,B4 J⟩;obtain ⟨g,off,cur,T,zz,rfl,O,X,I⟩:=hg i r W;refine AC<|Zx<|Zq<|AQ<|A0<|BX (Ac B6 An Y Y A1)<|CQ (cs:=[(g,.cells cur T zz)]) (by simp [O]) (AA (cs:=r.A29) CI An Y A1 I) V rfl ?_;refine Ze (Al DS #[_,_,_,_,_])<|AD fun rb=>Xe (Xw An r.A29) ?_;refine A4<|Zg<|Zm Y<|Zo Wh (AA (cs:=#[_,_,_]) BW As Y Ax AN) ?_;refine Zo Wh (AA (cs:=#[_,_,_,_,_]) CI An Y Ax AN) ?_;refine Xr [_,_] Y (K) Y V (hf i r W) ?_;refine Xe (BK As Y Y HJ Wu (by exact (rfl:_=(#[.slice none 0 0,I4 (st (i+1)).1,.bool (st (i+1)).2]:Array Value))) E3 Ax (by exact BA _)) ?_;refine Z0<|A8<|Zx<|Zg<|Ya (n:=1) Y Y<|Zm Y<|Z0<|Zn [11,2,4,6,9,10] ?_;refine Ab (e':=[(11,_)]) (by exact ⟨i+1,V,by omega,V,V⟩)
 have ei:i=rows.length:=by omega
 subst ei;refine Ay<|Zt<|Zt<|AR<|Zx<|A0<|Zo Wh (AA (cs:=#[_,_,_]) BW As Y Ax AN) ?_;refine Xe (Xw As _) ?_;refine A4<|AJ<|Cw V results219 Y Wh (Ak BW As Wn (V)) (by exact ⟨V,V⟩)
variable{p:Option Addr}{cap:Nat}{ms:List Int}
theorem Ti(hc:FJ M p (ms.map ivQ))(hl:ms.length<=maxLen)(af:ms.length<=cap){v0:Int}{W:Bool}(st:Nat->Int×Bool)(h0:st 0=(v0,W))(G:Nat)(us:List Value)(O:∀(args:Array Value) (w:World),(callFunc G args).run prog w= .ok (.enter G args) w)(hf:∀(i:Nat) (x:Int),ms[i]?=some x->BI prog G (.agg #[.slice none 0 0,I4 (st i).1,.bool (st i).2]::I4 x::us).toArray [M] (.agg #[.slice none 0 0,I4 (st (i+1)).1,.bool (st (i+1)).2])):BI prog 221 #[.slice p ms.length cap,.agg #[.slice none 0 0,I4 v0,.bool W],.func (.func G) #[] us.toArray] [M] (.agg #[.slice none 0 0,I4 (st ms.length).1,.bool (st ms.length).2]):=by
 have ax:=mL;refine Se func221 ntmps221 [0,1,2] ?_;intro u R;refine A0<|Ze (Bx #[_,_,_])<|AD fun Z=>Ze (Al G3 #[_,_,_])<|AD fun re=>A4<|Zq<|A0<|Zm Y<|Zv (Aa D0 Y)<|Zm Y<|A4<|AQ<|Zb [11,2,4,6,9,10] ?_;refine BB (e0:=[(11,_)]) (fun m e H=>∃(i:Nat),m=ms.length -i/\(i<=ms.length)/\e=[(11,I4 (i:Int))]/\H=[[(Z,.cells #[.slice none 0 0,I4 (st i).1,.bool (st i).2] 53 (0,0))]]) (by exact ⟨0,rfl,C0 _,rfl,by rw [h0]⟩) Wp ?_;rintro _ _ _ ⟨i,rfl,hi,rfl,rfl⟩;refine A0<|Zv (Av Y Y)<|A4<|Zq<|Au Y (fun K=>?_) (fun K=>?_)
 ·
  obtain ⟨x,X⟩:∃x,ms[i]?=some x:=⟨_,B4 K⟩;obtain ⟨g,off,cur,T,zz,rfl,U,J⟩:=hc i (ivQ x) (by rw [DM,X];rfl);have I:cur[off+i]?=some (I4 x):=J
  refine AC<|Zx<|Zq<|AQ<|A0<|BX (Cf D0 A5 Y Y dq)<|CQ (cs:=[(g,.cells cur T zz)]) (by simp [U]) (BO AE Y (by exact I)) rfl rfl ?_;refine A3 Y<|Zg<|Zm Y<|Zo Wh (AA (cs:=#[_,_,_]) BW As Y Ax AN) ?_;refine Zm Y<|Xr [_,_] Y (O) Y V (hf i x X) ?_;refine Xe (BK As Y Y HJ Wu (by exact (rfl:_=(#[.slice none 0 0,I4 (st (i+1)).1,.bool (st (i+1)).2]:Array Value))) E3 Ax (by exact BA _)) ?_;refine Z0<|A8<|Zx<|Zg<|Ya (n:=1) Y Y<|Zm Y<|Z0<|Zn [11,2,4,6,9,10] ?_;refine Ab (e':=[(11,_)]) (by exact ⟨i+1,V,by omega,V,V⟩)
 have ei:i=ms.length:=by omega
 subst ei;refine Ay<|Zt<|Zt<|AR<|Zx<|A0<|Zo Wh (AA (cs:=#[_,_,_]) BW As Y Ax AN) ?_;refine Xe (Xw As _) ?_;refine A4<|AJ<|Cw V results221 Y Wh (Ak BW As Wn (V)) (by exact ⟨V,V⟩)
theorem Mc(hv:De M v rows)(q:QM)(U:0<=q.bq/\q.bq<=3)(hb:rows.length<=1000000000000):BZ prog 222 #[.agg q.A30,v] [M] (fun r H'=>∃s,Bb 1 3 r (Cu q rows).length ((Cu q rows).map ivQ) s/\H'=[s,M]):=by
 have cu:=mL;obtain ⟨p,cap,rfl,⟨hl,bn⟩,hg⟩:=id hv;refine Se func222 ntmps222 [0,1] ?_;intro u R;refine A0<|Ze (Bx #[_,_,_,_,_,_,_])<|AD fun bq=>A3 Y<|A0<|Zm Y<|Zv (Aa B6 Y)<|Ze (Gb (by_:=8) (l:=0) D0 (V:Tryz.prog.info? 3=some Tryz.t3) V rfl V rfl Y Y ?_ ?_ ?_) ?_
 (focus (omega))
 (focus (omega))
 (focus (omega))
 rintro _ _ ⟨mk,rfl,rfl⟩;refine A3 Y<|Zq<|A0<|Zm Y<|Zv (Aa B6 Y)<|Zm Y<|A4<|AQ<|Zb [5,13,2,11,12] ?_;refine BB (e0:=[(5,_),(13,_)]) (fun m e H=>∃(i:Nat) (vo:Value) (O:List A9),m=rows.length -i/\(i<=rows.length/\Bb 1 3 vo i ((Cu q (rows.take i)).map ivQ) O)/\e=[(5,vo),(13,I4 (i:Int))]/\H=[O]) (by exact ⟨0,_,_,rfl,⟨C0 _,by rw [Hx];exact jv _ _ _ (I4 0) A1⟩,rfl,rfl⟩) Wp ?_;rintro _ _ _ ⟨i,vo,O,rfl,⟨hi,I⟩,rfl,rfl⟩;obtain ⟨qo,co,rfl⟩:=I.form;refine A0<|Zv (Av Y Y)<|A4<|Zq<|Au Y (fun K=>?_) (fun K=>?_)
 ·
  obtain ⟨r,X⟩:∃r,rows[i]?=some r:=⟨_,B4 K⟩;obtain ⟨g,off,cur,T,zz,rfl,W,Z,J⟩:=hg i r X;refine AC<|Zx<|Zq<|AQ<|A0<|BX (Ac B6 An Y Y A1)<|CQ (cs:=[(g,.cells cur T zz)]) (by simp [W]) (AA (cs:=r.A29) CI An Y A1 J) V rfl ?_;refine Ze (Al DS #[_,_,_,_,_])<|AD fun rb=>Xe (Xw An r.A29) ?_;refine A4<|Zg<|Zm Y<|Zo Wh (AA (cs:=#[_,_,_,_,_]) CI An Y Ax AN) ?_;refine Zh 5 CA V rfl A5 Y<|Zl AE Y ?_;refine Xr [_,_] Y S8 Y V (Fs r q.bq U) ?_;refine Ze (Aj (vs:=[_]) (cs:=[_]) D0 A5 H3 Y V rfl V rfl V)<|AD fun gb=>Ze (BR (by_:=8) (sz:=1) D0 (V:Tryz.prog.info? 3=some Tryz.t3) V rfl V rfl Y (I) Y (DC 1 gb 1 1 3 (0,0) [I4 (Bl r q.bq)] V) Wo Wo Fl A1 A1) ?_;rintro _ _ ⟨cO,G,rfl⟩;obtain ⟨ax,af,rfl⟩:=G.form;refine AG Y<|Zn [2,5,11,12,13] ?_;refine A8<|Zx<|Zg<|Ya (n:=1) Y Y<|Zm Y<|Z0<|Zn [5,13,2,11,12] ?_;refine Ab (e':=[(5,_),(13,_)]) (by exact ⟨i+1,_,_,rfl,⟨by omega,BS G rfl (by rw [lI X,Bm];rfl)⟩,rfl,rfl⟩)
 have ei:i=rows.length:=by omega
 subst ei;refine Ay<|Zt<|Zt<|AR<|Zx<|A0<|Zm Y<|A3 Y<|AJ<|AP rfl results222 Y (by exact ⟨O,BS I (KE q rows).symm (by rw [G0]),rfl⟩)
theorem NI(v:Value)(g:v.oneCell'=true)(hc:v.cells=#[v]):BZ prog 224 #[v] [] (fun r H'=>∃b,r= .func (.func 272) #[] #[I5 b]/\H'=[[(b,.cells #[v] 73 (0,0))]]):=by
 refine Se func224 ntmps224 [0] ?_;intro u R;refine A0<|Ze (Ep Y (cs:=#[v]) hc)<|AD fun b=>A3 Y<|A0<|Zv (Bg (vs:=[]) (us:=[_]) Y Y)<|A3 Y<|AJ<|AP V results224 Y (by exact ⟨b,V,V⟩)
theorem mh(v n:Int)(f:Bool)(b g:Nat)(lt:Int->Int->Bool)(m:∀(args:Array Value) (w:World),(callFunc g args).run prog w= .ok (.enter g args) w)(G:∀x y:Int,BI prog g #[I4 x,I4 y] [] (.bool (lt x y))):BI prog 272 #[.agg #[.slice none 0 0,I4 v,.bool f],I4 n,I5 b] [[(b,.cells #[.func (.func g) #[] #[]] 73 (0,0))]] (.agg #[.slice none 0 0,I4 (if !f||lt n v then n else v),.bool true]):=by
 refine Se func272 ntmps272 [0,1,2] ?_;intro u R;refine A0<|Ze (Bx #[_,_,_])<|AD fun J=>Ze (Al G3 #[_,_,_])<|AD fun K=>A4<|Zq<|A0<|Zh 2 C7 V rfl CH Y<|Zl E0 Y ?_;refine Zv (Bo Y)<|Zm Y<|Ag (t:=9) Y V (fun I=>?_) (fun I=>?_)
 ·
  repeat refine A7 Y rfl ?_
  refine Zv (AV Y Y)<|A4<|Cn Y<|Zg<|Zm Y<|Zh 1 C7 V rfl A5 Y<|Xe (Zs A5 Y Y V (hi:=by(simp;done))) ?_;refine Z0<|Zn [3,5] ?_;refine Zx<|A0<|Zh 2 C7 V rfl CH Y<|Xe (Zs CH Y Y V (hi:=by(simp;done))) ?_;refine A4<|A0<|Zo Wh (AA (cs:=#[_,_,_]) BW As Y Ax AN) ?_;refine Xe (Xw As _) ?_;refine A4<|AJ<|Cw V results272 Y Wh (Ak BW As Wn (V)) (by exact ⟨by simp_all;rfl,V⟩)
 refine Yl isAgg73 Y ?_;refine Zf Y Y<|Yf 1 C7 V rfl A5 Y<|Yl AE Y ?_;refine Xr [_,_] Y (m) Y V (G n v) ?_;refine Zv (AL Y Y)<|A4<|AX Y (fun h2=>?_) (fun h2=>?_)
 ·
  refine Zg<|Zm Y<|Zh 1 C7 V rfl A5 Y<|Xe (Zs A5 Y Y V (hi:=by(simp;done))) ?_;refine Z0<|Zn [3,5] ?_;refine Zx<|A0<|Zh 2 C7 V rfl CH Y<|Xe (Zs CH Y Y V (hi:=by(simp;done))) ?_;refine A4<|A0<|Zo Wh (AA (cs:=#[_,_,_]) BW As Y Ax AN) ?_;refine Xe (Xw As _) ?_;refine A4<|AJ<|Cw V results272 Y Wh (Ak BW As Wn (V)) (by exact ⟨by simp_all;rfl,V⟩)
 refine AC<|Zx<|A0<|Zh 2 C7 V rfl CH Y<|Xe (Zs CH Y Y V (hi:=by(simp;done))) ?_;refine Z0<|Zn [3,5] ?_;refine Zx<|A0<|Zo Wh (AA (cs:=#[_,_,_]) BW As Y Ax AN) ?_;refine Xe (Xw As _) ?_;refine A4<|AJ<|Cw V results272 Y Wh (Ak BW As Wn (V)) (by exact ⟨by simp_all;rfl,V⟩)
theorem fQ(x y:Int):BI prog 225 #[I4 x,I4 y] [] (.bool (decide (x<y))):=by
 refine Se func225 ntmps225 [0,1] ?_;intro u R;refine A0<|A3 Y<|A0<|Zm Y<|Zm Y<|Zv (Dt Y Y)<|A3 Y<|AJ<|AP V results225 Y (by exact ⟨by rfl,V⟩)
theorem fP(x y:Int):BI prog 226 #[I4 x,I4 y] [] (.bool (decide (y<x))):=by
 refine Se func226 ntmps226 [0,1] ?_;intro u R;refine A0<|A3 Y<|A0<|Zm Y<|Zm Y<|Zv (Er Y Y)<|A3 Y<|AJ<|AP V results226 Y (by exact ⟨by rfl,V⟩)
theorem fU(v:Int)(f:Bool)(r:AU)(h:-9223372036854775807<=v/\v<=9223372036854775806):BI prog 220 #[.agg #[.slice none 0 0,I4 v,.bool f],.agg r.A29] [] (.agg #[.slice none 0 0,I4 (v+1),.bool f]):=by
 refine Se func220 ntmps220 [0,1] ?_;intro u R;refine A0<|Ze (Bx #[_,_,_])<|AD fun m=>Ze (Bx #[_,_,_,_,_])<|AD fun G=>Ze (Al G3 #[_,_,_])<|AD fun g=>A4<|A0<|Zh 1 C7 V rfl A5 Y<|Zl AE Y ?_;refine Yi Y Y<|Zh 1 C7 V rfl A5 Y<|Xe (Zs A5 Y Y V (hi:=by(simp;done))) ?_;refine A4<|A0<|Zo Wh (AA (cs:=#[_,_,_]) BW As Y Ax AN) ?_;refine Xe (Xw As _) ?_;refine A4<|AJ<|Cw V results220 Y Wh (Ak BW As Wn (V)) (by exact ⟨V,V⟩)
theorem fT(v n:Int)(f:Bool)(h:-9223372036854775807<=v+n/\v+n<=9223372036854775806):BI prog 223 #[.agg #[.slice none 0 0,I4 v,.bool f],I4 n] [] (.agg #[.slice none 0 0,I4 (v+n),.bool f]):=by
 refine Se func223 ntmps223 [0,1] ?_;intro u R;refine A0<|Ze (Bx #[_,_,_])<|AD fun m=>Ze (Al G3 #[_,_,_])<|AD fun g=>A4<|A0<|Zh 1 C7 V rfl A5 Y<|Zl AE Y ?_;refine Zm Y<|Yi Y Y<|Zh 1 C7 V rfl A5 Y<|Xe (Zs A5 Y Y V (hi:=by(simp;done))) ?_;refine A4<|A0<|Zo Wh (AA (cs:=#[_,_,_]) BW As Y Ax AN) ?_;refine Xe (Xw As _) ?_;refine A4<|AJ<|Cw V results223 Y Wh (Ak BW As Wn (V)) (by exact ⟨V,V⟩)
def yD(r:AU):Value:= .agg r.A29
theorem rD{g:List (Int×Value)}{I:Int}(J:(lm.map (·.1)).Nodup)(m:(g.map (·.1)).Nodup)(G:∀p,p∈g↔p=(I,v)\/(p∈lm/\p.1≠I))(k:Int):EG k g=if k=I then some v else EG k lm:=by
 split
 · rename_i h
   rw [h];exact D5 m ((G _).2 (.inl V))
 · rename_i h
   cases hg:EG k lm with
   |some x=>exact D5 m ((G _).2 (.inr ⟨Ve hg,h⟩))
   |none=>
    cases hg2:EG k g with
    |none=>rfl
    |some x=>
     rcases (G _).1 (Ve hg2)with e|⟨e,_⟩
     · injection e with e1 e2;exact absurd e1 h
     · rw [D5 J e]at hg;cases hg
variable{others:List AU}{x:AU}
theorem VV(h:others[i]?=some x)(k:Int):Da q (others.take (i+1)) k=(Da q (others.take i) k).or (if x.t=q.ot/\x.k=k then some x else none):=by
 unfold Da;rw [Bn h,List.find?_append];congr 1;simp only [List.find?_cons,List.find?_nil];split<;>simp_all
def UE(q:QM)(others:List AU)(lm:List (Int×Value)):Prop:=∀k,EG k lm=(Da q others k).map yD
theorem Sq(h:others[i]?=some x)(G:UE q (others.take i) lm)(g:¬x.t=q.ot\/(Da q (others.take i) x.k).isSome=true):UE q (others.take (i+1)) lm:=by
 intro k;rw [G k,VV h k];cases hg:Da q (others.take i) k with
 |some y=>rfl
 |none=>
  rw [AK]
  · rfl
  · rintro ⟨m,rfl⟩
    rcases g with g|g
    · exact g m
    · rw [hg]at g;cases g
theorem kR{g:List (Int×Value)}(h:others[i]?=some x)(J:UE q (others.take i) lm)(U:x.t=q.ot)(G:(Da q (others.take i) x.k).isSome=false)(K:(lm.map (·.1)).Nodup)(m:(g.map (·.1)).Nodup)(O:∀p,p∈g↔p=(x.k,yD x)\/(p∈lm/\p.1≠x.k)):UE q (others.take (i+1)) g:=by
 intro k;rw [rD K m O k,VV h k];split
 · rename_i hk
   have:Da q (others.take i) k=none:=by
    rw [hk];cases hg:Da q (others.take i) x.k with
    |none=>rfl
    |some y=>rw [hg]at G;cases G
   rw [this,AM ⟨U,hk.symm⟩];rfl
 · rename_i hk
   rw [J k,AK (fun I=>hk I.2.symm)];cases Da q (others.take i) k<;>rfl
variable{y:AU}
theorem VW(g:UE q others lm)(k:Int)(m:y=(Da q others k).getD ⟨0,0,⟨0,0,0⟩⟩):(EG k lm).getD (.agg #[I4 (⟨0,0,⟨0,0,0⟩⟩:AU).t,I4 (⟨0,0,⟨0,0,0⟩⟩:AU).k,I4 (⟨0,0,⟨0,0,0⟩⟩:AU).v.a,I4 (⟨0,0,⟨0,0,0⟩⟩:AU).v.b,I4 (⟨0,0,⟨0,0,0⟩⟩:AU).v.c])= .agg y.A29/\(EG k lm).isSome=(Da q others k).isSome:=by
 rw [g k,m];cases Da q others k<;>exact ⟨rfl,rfl⟩
theorem VU(g:y=(Da q others k).getD ⟨0,0,⟨0,0,0⟩⟩)(h:(Da q others k).isSome=true):Da q others k=some y:=by
 rw [g];cases hp:Da q others k with
 |none=>rw [hp]at h;cases h
 |some x=>rfl
variable{s:List A9}
theorem Kv{sz:Nat}{e:TypeId}{n c k:Nat}{xs:List Value}(h:Bb sz e (.slice p n c) k xs s):FJ s p xs:=by
 intro j u G;obtain ⟨J,⟨_,rfl,_⟩|⟨g,cap,cur,z,hv,rfl,_,_,_,m,_⟩⟩:=h
 · have:xs=[]:=LO A1
   subst this;cases G
 · injection hv with h1 h2 h3
   subst h1;refine ⟨g,0,cur,e,z,V,by simp,?_⟩;have I:=(B9.1 G).1
   rw [<-m,HA,AM A1,HG]at G;rwa [Cl]
theorem QG(h:rows[i]?=some r):Ij q (rows.take (i+1)) others=Ij q (rows.take i) others++Ii q others r:=by
 unfold Ij;rw [Bn h,N1,mm]
theorem VX(h:Da q others (Bl r q.bq)=some y):Ii q others r=[r,y]:=by unfold Ii;rw [h]
theorem kS(h:Da q others (Bl r q.bq)=none):Ii q others r=[]:=by unfold Ii;rw [h]
theorem qI(q:QM)(others:List AU)(r:AU):(Ii q others r).length<=2:=by unfold Ii;split<;>simp
theorem TP(q:QM)(rows others:List AU):(Ij q rows others).length<=2*rows.length:=by
 induction rows with
 |nil=>simp [Ij]
 |cons r rows ih=>
  have:=qI q others r;unfold Ij at*;rw [HL,B7,DH];omega
variable{vo:Value}
set_option maxHeartbeats 1000000 in
theorem ZH(hv:De M v rows)(ho:De M vo others)(q:QM)(gB:0<=q.bq/\q.bq<=3)(hb:rows.length<=100000000000):BZ prog 227 #[.agg q.A30,v,vo] [M] (fun r H'=>∃s,Bb 5 83 r (Ij q rows others).length (Af (Ij q rows others)) s/\H'=[s,M]):=by
 have sw:=mL;obtain ⟨p,cap,rfl,⟨hl,r9⟩,hg⟩:=id hv;obtain ⟨po,p8,rfl,⟨sj,p9⟩,j3⟩:=id ho;refine Se func227 ntmps227 [0,1,2] ?_;intro u R;refine A0<|Ze (Bx #[_,_,_,_,_,_,_])<|AD fun bq=>A3 Y<|A0<|Ze (DT)<|AD fun mb=>A3 Y<|Zq<|A0<|Zm Y<|Zv (Aa B6 Y)<|Zm Y<|A4<|AQ<|Zb [19,1,3,6,7,17,18] ?_;refine BB (e0:=[(19,_)]) (fun m e H=>∃(i:Nat) (es:Array MapEntry) (ck:Nat) (lm:List (Int×Value)),m=others.length -i/\(i<=others.length/\Ck (fun k:Int=>I4 k) es ck lm/\UE q (others.take i) lm)/\e=[(19,I4 (i:Int))]/\H=[[(mb,.map es ck)]]) (by exact ⟨0,#[],0,[],V,⟨C0 _,EQ _,fun k=>rfl⟩,V,V⟩) Wp ?_;rintro _ _ _ ⟨i,es,ck,lm,rfl,⟨hi,W,U⟩,rfl,rfl⟩;refine A0<|Zv (Av Y Y)<|A4<|Zq<|Au Y (fun G=>?_) (fun G=>?_)
 ·
  obtain ⟨x,hx⟩:∃x,others[i]?=some x:=⟨_,B4 G⟩;obtain ⟨g1,q9,Z,T1,l9,rfl,j5,pq,ax⟩:=j3 i x hx;refine AC<|Zx<|Zq<|AQ<|A0<|BX (Ac B6 An Y Y A1)<|CQ (cs:=[(g1,.cells Z T1 l9)]) (by simp [j5]) (AA (cs:=x.A29) CI An Y A1 ax) V rfl ?_;refine Ze (Al DS #[_,_,_,_,_])<|AD fun bx=>Xe (Xw An x.A29) ?_;refine A4<|Zq ?_;obtain ⟨y0,ek⟩:∃y,y=(Da q (others.take i) x.k).getD ⟨0,0,⟨0,0,0⟩⟩:=⟨_,rfl⟩;refine Zg<|Zm Y<|Zh 1 FG V rfl A5 Y<|Zl AE Y ?_;refine Zo Wh (E9 Hw underlying366 DS W (fun _ _=>trivial) (trivial) (VW U x.k ek) Y Y) ?_;refine Zm Y<|Zd Y V<|Zd Y V<|Ze (Al DS #[_,_,_,_,_])<|AD fun bt=>Xe (Xw An y0.A29) ?_;refine AG Y<|Zn [1,3,6,7,9,11,17,18,19] ?_;refine Zx<|Zq ?_;obtain ⟨y0,ek⟩:∃y,y=(Da q (others.take i) x.k).getD ⟨0,0,⟨0,0,0⟩⟩:=⟨_,rfl⟩;refine Zg<|Zh 0 FG V rfl A5 Y<|Zl AE Y ?_;refine Zh 6 CA V rfl A5 Y<|Zl AE Y ?_;refine Zv (CP Y Y)<|Zm Y<|Am (t:=35) Y V (fun h1=>?_) (fun h1=>?_)
  ·
   refine Zf Y Y<|Yg (Bo Y)<|Zv (AV Y Y)<|A4<|AX Y (fun h2=>?_) (fun h2=>?_)
   ·
    refine Zg<|Zm Y<|Zh 1 FG V rfl A5 Y<|Zl AE Y ?_;refine Zo Wh (AA (cs:=#[_,_,_,_,_]) CI An Y Ax AN) ?_;refine Ze (F9 Hw underlying366 W (fun _ _=>trivial) (trivial) Y Y Y Wo) ?_;rintro _ _ ⟨rfl,qw,ql,l8,I,l5,rfl⟩;have gy:UE q (others.take (i+1)) l8:=kR hx U h1 (by simpa using h2) W.keys I.keys l5
    refine Z0<|Zn [1,3,6,7,17,18,19] ?_;refine A8<|Zx<|Zg<|Ya (n:=1) Y Y<|Zm Y<|Z0<|Zn [19,1,3,6,7,17,18] ?_;refine Ab (e':=[(19,_)]) (by exact ⟨i+1,_,_,_,V,⟨by omega,I,gy⟩,V,V⟩)
   refine AC<|A8<|Zx<|Zg<|Ya (n:=1) Y Y<|Zm Y<|Z0<|Zn [19,1,3,6,7,17,18] ?_;refine Ab (e':=[(19,_)]) (by exact ⟨i+1,es,ck,lm,rfl,⟨by omega,W,Sq hx U (by first|exact .inl A1|exact .inr (by simpa using h2))⟩,rfl,rfl⟩)
  refine A7 Y V<|A7 Y V<|Zv (AL Y Y)<|A4<|Ch Y<|AC<|A8<|Zx<|Zg<|Ya (n:=1) Y Y<|Zm Y<|Z0<|Zn [19,1,3,6,7,17,18] ?_;refine Ab (e':=[(19,_)]) (by exact ⟨i+1,es,ck,lm,rfl,⟨by omega,W,Sq hx U (by first|exact .inl A1|exact .inr (by simpa using h2))⟩,rfl,rfl⟩)
 have ei:i=others.length:=by omega
 subst ei;rw [G0]at U;refine Ay<|Zt<|Zt<|AR<|Zx<|Zq<|A0<|Zo Wh (AA (cs:=#[_,_,_,_,_,_,_]) E4 CC Y Ax AN) ?_;refine Zm Y<|Zc [_,_] Y call222 Y V (Mc hv q gB A1) ?_;rintro _ _ ⟨_,⟨sm,d9,rfl⟩,rfl⟩;obtain ⟨gm,cm,rfl⟩:=d9.form;refine Zv (Aa D0 Y)<|Zm Y<|A4<|AQ<|BV ?_;have ic:FJ sm gm ((Cu q rows).map ivQ):=Kv d9
 have pg:=KE q rows;refine Zb [6,48,1,7,46,47] ?_;refine BB (e0:=[(6,_),(48,_)]) (fun m e H=>∃(i:Nat) (w:Value) (so:List A9),m=rows.length -i/\(i<=rows.length/\Bb 5 83 w (Ij q (rows.take i) others).length (Af (Ij q (rows.take i) others)) so)/\e=[(6,w),(48,I4 (i:Int))]/\H=[so]) (by exact ⟨0,.slice none 0 0,[],rfl,⟨C0 _,by rw [Hx];exact Bf 5 _⟩,rfl,rfl⟩) Wp ?_;rintro _ _ _ ⟨i,w,so,rfl,⟨hi,g⟩,rfl,rfl⟩;obtain ⟨qo,co,rfl⟩:=g.form;have qz:(Ij q (rows.take i) others).length<=2*i:=Mb (TP _ _ _) (by rw [C1];omega)
 refine A0<|Zv (Av Y Y)<|A4<|Zq<|Au Y (fun G=>?_) (fun G=>?_)
 ·
  obtain ⟨r,hr⟩:∃r,rows[i]?=some r:=⟨_,B4 A1⟩;obtain ⟨g2,gq,J,T2,o8,rfl,I,bn⟩:=ic i (ivQ (Bl r q.bq)) (by rw [DM,wQ hr];rfl);have cO:J[gq+i]?=some (I4 (Bl r q.bq)):=bn
  obtain ⟨X,O⟩:∃y,y=(Da q others (Bl r q.bq)).getD ⟨0,0,⟨0,0,0⟩⟩:=⟨_,rfl⟩;refine AC<|Zx<|Zq<|AQ<|A0<|Zm Y<|BX (Cf D0 A5 Y Y dq)<|CQ (cs:=[(g2,.cells J T2 o8)]) (by simp [I]) (BO AE Y (by exact cO)) rfl rfl ?_;refine Za Y<|A3 Y<|A0<|Zm Y<|Zm Y<|Zo Wh (E9 Hw underlying366 DS W (fun _ _=>trivial) (trivial) (VW U (Bl r q.bq) O) Y Y) ?_;refine Zm Y<|Zd Y V<|Zd Y V<|Ze (Al DS #[_,_,_,_,_])<|AD fun qb=>Xe (Xw An X.A29) ?_;refine AG Y<|Zn [1,6,7,12,14,15,46,47,48] ?_;refine Zx<|A0<|Zm Y<|A4<|AX Y (fun h5=>?_) (fun h5=>?_)
  ·
   obtain ⟨g3,qa,af,T3,o9,rfl,kv,pz,cu⟩:=hg i r hr;refine Az (n:=9) (0::0::0::6::14::0::62::127::255::[]) 192 A6 A6 V<|A2 0 V (AO Y)<|A2 1 V (AO Y)<|A2 2 V (AO Y)<|A2 3 V (Ac B6 An Y Y A1)<|D8 (b:=g3) (x:= .cells af T3 o9) (D':=31) 4 V rfl V (by simp [kv]) (AA (cs:=r.A29) CI An Y A1 cu) ?_;refine E6 5 V Wh (AA (cs:=#[_,_,_,_,_]) CI An Y Ax AN) ?_;refine Yw 6 127 V (Aj (vs:=[_,_]) (cs:=[_,_,_,_,_,_,_,_,_,_]) B6 An DS Y V rfl V rfl V)<|AD fun gb=>Yw 7 255 V (BR (by_:=40) (sz:=5) B6 (V:Tryz.prog.info? 83=some Tryz.t83) V rfl V rfl Y (g) Y (DC 5 gb 2 2 83 (0,0) [I4 r.t,I4 r.k,I4 r.v.a,I4 r.v.b,I4 r.v.c,I4 X.t,I4 X.k,I4 X.v.a,I4 X.v.b,I4 X.v.c] V) Wo Wo Fl A1 A1) ?_;rintro _ _ ⟨sJ,K,rfl⟩;obtain ⟨qx,qj,rfl⟩:=K.form;refine A2 8 V (Aw Y)<|Ah<|A8<|Zx<|Zg<|Ya (n:=1) Y Y<|Zm Y<|Z0<|Zn [6,48,1,7,46,47] ?_;refine Ab (e':=[(6,_),(48,_)]) (by exact ⟨i+1,_,_,rfl,⟨by omega,BS K (by rw [QG hr,VX (VU O h5),B7];rfl) (by rw [QG hr,VX (VU O h5),Bh];rfl)⟩,rfl,rfl⟩)
  refine AC<|A8<|Zx<|Zg<|Ya (n:=1) Y Y<|Zm Y<|Z0<|Zn [6,48,1,7,46,47] ?_;refine Ab (e':=[(6,_),(48,_)]) (by exact ⟨i+1,_,so,rfl,⟨by omega,by rw [QG hr,kS (pH.1 (by simpa using h5)),DB];exact g⟩,rfl,rfl⟩)
 have ei:i=rows.length:=by omega
 subst ei;rw [G0]at g⊢;refine Ay<|Zt<|Zt<|AR<|Zx<|A0<|Zm Y<|A3 Y<|AJ<|AP V results227 Y (by exact ⟨so,g,V⟩)
def IV(q:QM)(rows others:List AU):CE:=if BJ q then FN q rows others else CE.none
theorem yL(h:¬BJ q):IV q rows others=⟨[],0,false⟩:=AK h
theorem PE(h:BJ q):IV q rows others=FN q rows others:=AM h
theorem oe(h:BJ q)(k:q.kd=3):IV q rows others=⟨[],rows.length,false⟩:=by rw [PE h];unfold FN;rw [AM k]
theorem od(h:BJ q)(k:q.kd=4):IV q rows others=⟨[],LU (Cu q rows),false⟩:=by rw [PE h];unfold FN;rw [AK A1,AM k]
theorem oc(h:BJ q)(k:q.kd=5):IV q rows others=ER (fun a b=>decide (a<b)) (Cu q rows):=by rw [PE h];unfold FN;rw [AK A1,AK A1,AM k]
theorem oY(h:BJ q)(k:q.kd=6):IV q rows others=ER (fun a b=>decide (b<a)) (Cu q rows):=by rw [PE h];unfold FN;rw [AK A1,AK A1,AK A1,AM k]
theorem oX(h:BJ q)(k:q.kd=7):IV q rows others=⟨Ij q rows others,0,false⟩:=by rw [PE h];unfold FN;rw [AK A1,AK A1,AK A1,AK A1,AM k]
theorem ov(h:BJ q)(g:¬q.kd=3)(m:¬q.kd=4)(G:¬q.kd=5)(I:¬q.kd=6)(J:¬q.kd=7):IV q rows others=⟨rows,0,false⟩:=by rw [PE h];unfold FN;rw [AK g,AK m,AK G,AK I,AK J]
theorem je{x:Int}(h:ms[i]?=some x):LU (ms.take (i+1))=LU (ms.take i)+x:=by unfold LU;rw [Bn h,Xs];rfl
theorem Rk(B:Int):∀(ms:List Int),(∀m∈ms,-B<=m/\m<=B)->-(ms.length*B)<=Jm ms/\Jm ms<=ms.length*B
 |[],_=>by simp [Jm]
 |m::ms,h=>by
  have G:=h m B0;have h2:=Rk B ms (fun y g=>h y (EV _ g))
  have I:((m::ms).length:Int)*B=ms.length*B+B:=by rw [DH];push_cast;rw [Int.add_mul,Int.one_mul]
  simp only [Jm];omega
theorem iN(h:∀m∈ms,-1000000000<=m/\m<=1000000000)(I:ms.length<=1000000000)(i:Nat):-1000000000000000000<=LU (ms.take i)/\LU (ms.take i)<=1000000000000000000:=by
 have G:=Rk 1000000000 (ms.take i) (fun m g=>h m (On g));have h2:(ms.take i).length<=1000000000:=by rw [C1];omega
 unfold LU;rw [Mg];omega
theorem mg{lt:Int->Int->Bool}{x:Int}(h:ms[i]?=some x):ER lt (ms.take (i+1))=⟨(ER lt (ms.take i)).rows,if !(ER lt (ms.take i)).fnd||lt x (ER lt (ms.take i)).val then x else(ER lt (ms.take i)).val,true⟩:=by unfold ER;rw [Bn h,Xs];rfl
theorem Vw(lt:Int->Int->Bool)(ms:List Int):∀r:CE,(ms.foldl (fun r n=>⟨r.rows,if !r.fnd||lt n r.val then n else r.val,true⟩:CE->Int->CE) r).rows=r.rows:=by
 induction ms with
 |nil=>intro r;rfl
 |cons m ms ih=>intro r;rw [TO,ih]
theorem gH(hv:De M v rows)(G:rows.length<=1000000000):BI prog 219 #[v,.agg #[.slice none 0 0,I4 0,.bool false],.func (.func 220) #[] #[]] [M] (.agg #[.slice none 0 0,I4 (rows.length:Int),.bool false]):=
 fZ hv (fun i=>((i:Int),false)) rfl 220 [] call220 (fun i r m=>by
  have g:=(B9.1 m).1;have:=fU (i:Int) false r A1
  exact Qp this)
theorem oJ(hc:FJ s p (ms.map ivQ))(K:ms.length<=1000000000)(g:ms.length<=cap)(G:∀m∈ms,-1000000000<=m/\m<=1000000000):BI prog 221 #[.slice p ms.length cap,.agg #[.slice none 0 0,I4 0,.bool false],.func (.func 223) #[] #[]] [s] (.agg #[.slice none 0 0,I4 (LU ms),.bool false]):=by
 have O:=mL;have h:=Ti hc A1 g (fun i=>(LU (ms.take i),false)) rfl 223 [] call223 (fun i x I=>by
  have U:=iN G K i;have h2:=G x (DE I)
  have J:=fT (LU (ms.take i)) x false A1;show BI _ _ _ _ (.agg #[.slice none 0 0,I4 (LU (ms.take (i+1))),.bool false])
  rw [je I];exact Qp J)
 rwa [G0]at h
theorem aO(hc:FJ s p (ms.map ivQ))(Z:ms.length<=1000000000)(I:ms.length<=cap)(b m:Nat)(lt:Int->Int->Bool)(G:∀(args:Array Value) (w:World),(callFunc m args).run prog w= .ok (.enter m args) w)(J:∀x y:Int,BI prog m #[I4 x,I4 y] [] (.bool (lt x y))):BI prog 221 #[.slice p ms.length cap,.agg #[.slice none 0 0,I4 0,.bool false],.func (.func 272) #[] #[I5 b]] [s,[(b,.cells #[.func (.func m) #[] #[]] 73 (0,0))]] (.agg #[.slice none 0 0,I4 (ER lt ms).val,.bool (ER lt ms).fnd]):=by
 have U:=mL;refine W9 ?_;have h:=Ti (M:=s++[(b,.cells #[.func (.func m) #[] #[]] 73 (0,0))]) (ms:=ms) (p:=p) (fun j u W=>by
  obtain ⟨g,o,c,T,z,K,h2,O⟩:=hc j u W;exact ⟨g,o,c,T,z,K,DP _ h2,O⟩) A1 I (fun i=>((ER lt (ms.take i)).val,(ER lt (ms.take i)).fnd)) V 272 [I5 b] call272 (fun i x X=>by
  show BI _ _ _ _ (.agg #[.slice none 0 0,I4 (ER lt (ms.take (i+1))).val,.bool (ER lt (ms.take (i+1))).fnd]);rw [mg X];exact aV (mh (ER lt (ms.take i)).val x (ER lt (ms.take i)).fnd b m lt G J))
 rwa [G0]at h
theorem j6(h:∀r∈rows,-1000000000<=Bl r q.bq/\Bl r q.bq<=1000000000):∀m∈Cu q rows,-1000000000<=m/\m<=1000000000:=by
 intro m g;obtain ⟨r,G,rfl⟩:=Bk.1 g;exact h r G
set_option maxHeartbeats 1000000 in
theorem mM(hv:De M v rows)(ho:De M vo others)(q:QM)(hb:rows.length<=1000000000)(hm:BJ q->∀r∈rows,-1000000000<=Bl r q.bq/\Bl r q.bq<=1000000000):BZ prog 161 #[.agg q.A30,v,vo] [M] (fun w H'=>∃rv s,w= .agg #[rv,I4 (IV q rows others).val,.bool (IV q rows others).fnd]/\Bb 5 83 rv (IV q rows others).rows.length (Af (IV q rows others).rows) s/\H'=[s,M]):=by
 have ax:=mL;refine Se func161 ntmps161 [0,1,2] ?_;intro u R;refine A0<|Ze (Bx #[_,_,_,_,_,_,_])<|AD fun bq=>Ze (Al G3 #[_,_,_])<|AD fun br=>A4<|Zq<|A0<|Zo Wh (AA (cs:=#[_,_,_,_,_,_,_]) E4 CC Y Ax AN) ?_;refine Xr [_] Y call34 Y V (JY q) ?_;refine Zv (Cm Y)<|A4<|AX Y (fun hq=>?_) (fun hq=>?_)
 ·
  have g:¬BJ q:=by simpa using hq
  refine Zq<|BV<|Zg<|Zv (BL (vs:=[]) (cs:=#[_,_,_]) Y (AY (pl:=#[(0,1),(1,1),(2,1)]) G3 C7 (fun _=>by kernel_rfl) V))<|Xe (Xw As _) ?_;refine A4<|AJ<|Zt<|Cw rfl da Y Wh (Ak BW As Wn (rfl)) (by exact ⟨.slice none 0 0,[],by rw [yL g];rfl,by rw [yL g];exact Bf 5 _,rfl⟩)
 have g:BJ q:=by simpa using hq
 have G:0<=q.bq/\q.bq<=3:=by have:=g.2.2.2;omega
 have af:=j6 (hm g);refine AC<|Zx<|A0<|Ze (Al G3 #[_,_,_])<|AD fun bn=>A4<|Zq<|A0<|Zh 0 CA V rfl A5 Y<|Zl AE Y ?_;refine A4<|AQ<|A0<|Zv (CP Y Y)<|A3 Y<|Au Y (fun W=>?_) (fun W=>?_)
 ·
  refine Zq<|BV<|Zg<|Zm Y<|Zo Wh (Pa #[_,_,_] BW As Y) ?_;refine Xr [_,_,_] Y call219 Y V (gH hv hb) ?_;refine Xe (Xw As _) ?_;refine Z0<|Zn [6] ?_;refine Zx<|AJ<|Ae<|Zt<|Cw rfl da Y Wh (Ak BW As Wn (rfl)) (by exact ⟨.slice none 0 0,[],by rw [oe g W];rfl,by rw [oe g W];exact Bf 5 _,rfl⟩)
 refine A0<|Zv (CP Y Y)<|A3 Y<|Au Y (fun X=>?_) (fun X=>?_)
 ·
  refine Zq<|BV<|Az (n:=6) (0::0::3::0::15::31::[]) 52 A6 A6 V<|E6 0 V Wh (AA (cs:=#[_,_,_,_,_,_,_]) E4 CC Y Ax AN) ?_;refine A2 1 V (AO Y)<|E6 3 V Wh (Pa #[_,_,_] BW As Y) ?_;refine Zz (l:=[2])<|B1 [true,false] [(3,(_,_))] V rfl (Zw [_,_] Y call222 Y V (Mc hv q G A1)) ?_ Bz Ai;rintro _ _ ⟨_,⟨sm,m,rfl⟩,rfl⟩;refine ⟨Zk (AZ),?_⟩;obtain ⟨U,cm,rfl⟩:=m.form;have I:FJ sm U ((Cu q rows).map ivQ):=Kv m
  have O:=KE q rows;have K:=Et m
  refine Yw 4 31 V (Zu [_,_,_] Y call221 Y V (oJ I A1 A1 af))<|CT<|Yw 5 63 V (Xw As _)<|CT<|Ah<|Zn [6] ?_;refine Zx<|AJ<|Ae<|Zt<|Cw rfl da Y Wh (Ak BW As Wn (rfl)) (by exact ⟨.slice none 0 0,[],by rw [od g X];rfl,by rw [od g X];exact Bf 5 _,rfl⟩)
 refine A0<|Zv (CP Y Y)<|AG Y<|Zn [1,2,3,6,7,13,26] ?_;refine Zx<|Au Y (fun Z=>?_) (fun Z=>?_)
 ·
  refine Zq<|BV<|Az (n:=7) (0::0::3::0::7::31::63::[]) 116 A6 A6 V<|E6 0 V Wh (AA (cs:=#[_,_,_,_,_,_,_]) E4 CC Y Ax AN) ?_;refine A2 1 V (AO Y)<|E6 3 V Wh (Pa #[_,_,_] BW As Y) ?_;refine Zz (l:=[2])<|B1 [true,false] [(3,(_,_))] V rfl (Zw [_,_] Y call222 Y V (Mc hv q G A1)) ?_ Bz Ai;rintro _ _ ⟨_,⟨sm,m,rfl⟩,rfl⟩;refine ⟨Zk (AZ),?_⟩;obtain ⟨U,cm,rfl⟩:=m.form;have I:FJ sm U ((Cu q rows).map ivQ):=Kv m
  have O:=KE q rows;have K:=Et m
  refine Zz (l:=[4])<|B1 [true] [(3,(_,_))] V rfl (Zw [_] Y call224 Y V (NI (.func (.func 225) #[] #[]) V rfl)) ?_ Bz Ai;rintro _ _ ⟨_,⟨b9,rfl,rfl⟩,rfl⟩;refine B5<|Yw 5 63 V (Zu [_,_,_] Y call221 Y V (aO I A1 A1 b9 225 _ call225 fQ))<|CT<|Yw 6 127 V (Xw As _)<|CT<|Ah<|Zx<|AJ<|Ae<|Zt<|Cw V da Y Wh (Ak BW As Wn (V)) (by
   have e8:=Vw (fun a b=>decide (a<b)) (Cu q rows) CE.none;exact ⟨.slice none 0 0,[],by rw [oc g Z];rfl,by rw [oc g Z];rw [show(ER (fun a b=>decide (a<b)) (Cu q rows)).rows=[] from e8];exact Bf 5 _,rfl⟩)
 refine A0<|Zv (CP Y Y)<|A3 Y<|Au Y (fun k6=>?_) (fun k6=>?_)
 ·
  refine Zq<|BV<|Az (n:=7) (0::0::3::0::7::31::63::[]) 116 A6 A6 V<|E6 0 V Wh (AA (cs:=#[_,_,_,_,_,_,_]) E4 CC Y Ax AN) ?_;refine A2 1 V (AO Y)<|E6 3 V Wh (Pa #[_,_,_] BW As Y) ?_;refine Zz (l:=[2])<|B1 [true,false] [(3,(_,_))] V rfl (Zw [_,_] Y call222 Y V (Mc hv q G A1)) ?_ Bz Ai;rintro _ _ ⟨_,⟨sm,m,rfl⟩,rfl⟩;refine ⟨Zk (AZ),?_⟩;obtain ⟨U,cm,rfl⟩:=m.form;have I:FJ sm U ((Cu q rows).map ivQ):=Kv m
  have O:=KE q rows;have K:=Et m
  refine Zz (l:=[4])<|B1 [true] [(3,(_,_))] V rfl (Zw [_] Y call224 Y V (NI (.func (.func 226) #[] #[]) V rfl)) ?_ Bz Ai;rintro _ _ ⟨_,⟨b9,rfl,rfl⟩,rfl⟩;refine B5<|Yw 5 63 V (Zu [_,_,_] Y call221 Y V (aO I A1 A1 b9 226 _ call226 fP))<|CT<|Yw 6 127 V (Xw As _)<|CT<|Ah<|Zx<|AJ<|Ae<|Zt<|Cw V da Y Wh (Ak BW As Wn (V)) (by
   have e8:=Vw (fun a b=>decide (b<a)) (Cu q rows) CE.none;exact ⟨.slice none 0 0,[],by rw [oY g k6];rfl,by rw [oY g k6];rw [show(ER (fun a b=>decide (b<a)) (Cu q rows)).rows=[] from e8];exact Bf 5 _,rfl⟩)
 refine A0<|Zv (CP Y Y)<|A3 Y<|Au Y (fun k7=>?_) (fun k7=>?_)
 ·
  refine A0<|Zo Wh (AA (cs:=#[_,_,_,_,_,_,_]) E4 CC Y Ax AN) ?_;refine Zm Y<|Zm Y<|Zc [_,_,_] Y call227 Y V (ZH hv ho q G A1) ?_;rintro _ _ ⟨_,⟨sj,J,rfl⟩,rfl⟩;obtain ⟨gj,cj,rfl⟩:=J.form;refine Zv (BL (vs:=[(0,_)]) (cs:=#[_,_,_]) Y (AY (pl:=#[(0,1),(1,1),(2,1)]) G3 C7 (fun _=>by kernel_rfl) rfl))<|Xe (BK As Y Y (by(simp [Value.oneCell',Value.cells];done)) Wu AN E3 AW (by exact BA _)) ?_;refine A4<|AJ<|Ae<|Zt<|Cw rfl da Y Wh (Ak BW As Wn (rfl)) (by exact ⟨.slice gj _ cj,sj,by rw [oX g k7];rfl,by rw [oX g k7];exact J,rfl⟩)
 refine AC<|A8<|Zx<|A0<|Zm Y<|Zc [_] Y call109 Y V (Gg hv A1) ?_;rintro _ _ ⟨_,⟨sj,J,rfl⟩,rfl⟩;obtain ⟨gj,cj,rfl⟩:=J.form;refine Zv (BL (vs:=[(0,_)]) (cs:=#[_,_,_]) Y (AY (pl:=#[(0,1),(1,1),(2,1)]) G3 C7 (fun _=>by kernel_rfl) rfl))<|Xe (BK As Y Y (by(simp [Value.oneCell',Value.cells];done)) Wu AN E3 AW (by exact BA _)) ?_;refine A4<|AJ<|Cw rfl da Y Wh (Ak BW As Wn (rfl)) (by exact ⟨.slice gj _ cj,sj,by rw [ov g W X Z k6 k7];rfl,by rw [ov g W X Z k6 k7];exact J,rfl⟩)
theorem WX(h:r.ok)(c:Int):-1000000000<=Bl r c/\Bl r c<=1000000000:=by
 obtain ⟨⟨g,h2,m⟩,G,I⟩:=h;unfold inV at g h2 m;unfold Bl;split
 · omega
 · split
   · omega
   · split
     · omega
     · split<;>omega
variable{B:List A9}
theorem tF{A:List A9}(hv:De A v rows)(I:De B vo others)(q:QM)(m:rows.length<=1000000000)(G:BJ q->∀r∈rows,-1000000000<=Bl r q.bq/\Bl r q.bq<=1000000000):BZ prog 161 #[.agg q.A30,v,vo] [A,B] (fun w H'=>∃g s,w= .agg #[g,I4 (IV q rows others).val,.bool (IV q rows others).fnd]/\Bb 5 83 g (IV q rows others).rows.length (Af (IV q rows others).rows) s/\H'=[s,A,B]):=by
 refine Gv (mM (hv.mono (fun c hc=>DP B hc)) (I.mono (fun c hc=>Fm A hc)) q m G) B0 ?_;rintro r H' ⟨g,s,rfl,h,rfl⟩;exact ⟨_,⟨g,s,V,h,V⟩,by simp⟩
theorem ji(v:Value)(p:Int)(rs:List AU)(s:List A9)(hv:RG v p rs s)(t c lo hi:Int)(hc:0<=c/\c<=3):BZ prog 105 #[v,I4 t,I4 c,I4 lo,I4 hi] [s] (fun r H'=>∃g,Bb 5 83 r (Dq rs t c.toNat lo hi).length (Af (Dq rs t c.toNat lo hi)) g/\H'=[g,s]):=by
 have h:=YB v p rs s hv t c.toNat lo hi A1;rwa [show((c.toNat:Nat):Int)=c by omega]at h
theorem SQ{rs:List AU}{t:Int}{c:Nat}{lo hi:Int}:(Dq rs t c lo hi).length<=rs.length/\∀r∈Dq rs t c lo hi,r∈rs:=by
 have h:=EO rs t c lo hi;exact ⟨by rw [h.length_eq];exact MD _ _,fun r g=>(Ek.1 (h.mem_iff.1 g)).1⟩
def Jp(c:Chg)(x:AU):Bool:=decide (x.t=c.t)&&decide (x.k=c.k)
def KN(q:QM)(y x:AU):Bool:=decide (Bl y q.cl<Bl x q.cl)||(decide (Bl x q.cl=Bl y q.cl)&&decide (y.k<x.k))
def R7(pd:AU->Bool)(rows:List AU)(y:AU):List AU:=rows.take ((rows.findIdx? pd).getD rows.length)++[y]++rows.drop ((rows.findIdx? pd).getD rows.length)
def E8(q:QM)(c:Chg)(rows:List AU):List AU:=match afQ q c with
 |some y=>R7 (KN q y) (rows.filter fun x=>!Jp c x) y
 |none=>rows.filter fun x=>!Jp c x
def GZ(lt:Int->Int->Bool)(b a:Bool)(o n:Int)(r:CE):CE×Bool:=
 if b&&(!r.fnd||!lt r.val o)then(⟨r.rows,n,r.fnd⟩,(a&&r.fnd)&&!lt r.val n)
 else if a then(⟨r.rows,if !r.fnd||lt n r.val then n else r.val,true⟩,true)else(r,true)
theorem sF(g:AU->Bool)(rows:List AU)(y:AU):(R7 g rows y).length=rows.length+1:=by
 unfold R7;simp only [B7,C1,C2,E7];omega
theorem UQ(q:QM)(c:Chg)(rows:List AU):(E8 q c rows).length<=rows.length+1:=by
 have h:=MD (fun x=>!Jp c x) rows;unfold E8;split
 · rw [sF];omega
 · omega
theorem Mh(lt:Int->Int->Bool)(b a:Bool)(o n:Int)(r:CE):(GZ lt b a o n r).1.rows=r.rows:=by
 unfold GZ;split
 · rfl
 · split<;>rfl
theorem fu{P:Program}{f:FuncId}{args:Array Value}{H:Hp}{Q:Value->Hp->Prop}(h:BZ P f args H Q)(F:Hp):BZ P f args (H++F) (fun v H'=>∃H1,Q v H1/\H'=H1++F):=fun u R w G=>
 Calls.mono (h u (F++R) w (by rw [<-CN];exact G)) fun e I m=>by
  rcases m with⟨v,H',rfl,g,h2⟩|⟨ch,H',rfl,g,h2⟩
  · exact .inl ⟨v,H'++F,rfl,⟨H',g,rfl⟩,by rw [CN];exact h2⟩
  · exact g.elim
theorem xJ(g:AU->Bool)(rows:List AU):(R9 g rows<0/\(rows.findIdx? g).getD rows.length=rows.length)\/∃i:Nat,i<=rows.length/\R9 g rows=(i:Int)/\(rows.findIdx? g).getD rows.length=i:=by
 unfold R9;cases h:rows.findIdx? g with
 |none=>exact .inl ⟨by simp,rfl⟩
 |some i=>
  obtain ⟨m,_,_⟩:=Wg.1 h;exact .inr ⟨i,by omega,V,V⟩
theorem kQ(q:QM)(c:Chg)(G I:Option Addr)(o n:Int)(x:AU)(m:Nat):BI prog 205 #[.agg x.A29,I5 m] [[(m,.cells (q.G2 c G I o n) 167 (0,0))]] (.bool (Jp c x)):=by
 refine Se func205 ntmps205 [0,1] ?_;intro u R;refine A0<|Ze (Bx #[_,_,_,_,_])<|AD fun J=>A3 Y<|A0<|Zh 0 FG V rfl A5 Y<|Zl AE Y ?_;refine Zh 7 D3 V rfl C3 Y<|Zv (Ap (off:=0) B8 V rfl A5 Y)<|Zl AE Y ?_;refine Zv (CP Y Y)<|Zm Y<|Am (t:=10) Y V (fun g=>?_) (fun g=>?_)
 ·
  refine Yf 1 FG V rfl A5 Y<|Yl AE Y ?_;refine Yf 7 D3 V rfl C3 Y<|Yg (Ap (off:=1) B8 V rfl A5 Y)<|Yl AE Y ?_;refine Yg (CP Y Y)<|Zv (AV Y Y)<|AG Y<|Zn [3] ?_;refine Zx<|AJ<|AP V results205 Y (by exact ⟨by simp [Jp,g],V⟩)
 repeat refine A7 Y rfl ?_
 refine Zv (AL Y Y)<|AG Y<|Zn [3] ?_;refine Zx<|AJ<|AP V results205 Y (by exact ⟨by simp [Jp,g],V⟩)
theorem WT{A:List A9}(hv:De A v rows)(K:rows.length<=1000000000)(g:Nat)(us:List Value)(m:AU->Bool)(G:∀(args:Array Value) (w:World),(callFunc g args).run prog w= .ok (.enter g args) w)(J:∀x:AU,BI prog g (.agg x.A29::us).toArray [B] (.bool (m x))):BZ prog 204 #[v,.func (.func g) #[] us.toArray] [A,B] (fun r H'=>∃s,Bb 5 83 r (rows.filter fun x=>!m x).length (Af (rows.filter fun x=>!m x)) s/\H'=[s,A,B]):=by
 obtain ⟨p,cap,rfl,_⟩:=id hv;refine Se func204 ntmps204 [0,1] ?_;intro u R;refine A0<|A3 Y<|A0<|Zm Y<|Zc [_] Y call109 Y V (Gg hv A1) ?_;rintro _ _ ⟨_,⟨s1,I,rfl⟩,rfl⟩;obtain ⟨W,O,rfl⟩:=I.form;refine Zm Y<|Zc [_,_] Y call255 Y V (aY I K g us m G J) ?_;rintro _ _ ⟨_,⟨s2,h2,rfl⟩,rfl⟩;obtain ⟨X,U,rfl⟩:=h2.form;refine A3 Y<|AJ<|AP V results204 Y (by exact ⟨_,h2,V⟩)
theorem Ua(G:Bb 5 83 v rows.length (Af rows) s)(hn:rows.length<=1000000000)(y:AU)(g:Nat)(us:List Value)(I:AU->Bool)(U:∀(args:Array Value) (w:World),(callFunc g args).run prog w= .ok (.enter g args) w)(hf:∀x:AU,BI prog g (.agg x.A29::us).toArray [B] (.bool (I x))):BZ prog 206 #[v,.agg y.A29,.func (.func g) #[] us.toArray] [s,B] (fun r H'=>∃X s2,Bb 5 83 r (R7 I rows y).length (Af (R7 I rows y)) X/\H'=[X,s2,B]):=by
 have af:=mL;obtain ⟨p,cap,rfl⟩:=G.form;have hU:=DU G A1
 refine Se func206 ntmps206 [0,1,2] ?_;intro u R;refine A0<|Ze (Bx #[_,_,_,_,_])<|AD fun bx=>A3 Y<|A0<|Zm Y<|Zm Y<|Xr [_,_] Y call172 Y V (TW hU g us I U hf) ?_;obtain ⟨z9,O⟩:∃z,z=R9 I rows:=⟨_,rfl⟩;rw [<-O];have m:=xJ I rows
 rw [<-O]at m;refine A3 Y<|Zb [7,0,4] ?_;refine DK (e0:=[(7,_)]) (H0:=[]) (fun e H=>∃(i:Nat),(i<=rows.length/\(rows.findIdx? I).getD rows.length=i)/\e=[(7,I4 (i:Int))]/\H=[]) Wp ?hx_1 ?hy_1
 case hx_1=>
  refine A0<|Zm Y<|Zv (Dt Y Y)<|A4<|Au Y (fun K=>?_) (fun K=>?_)
  ·
   refine Zg<|Zm Y<|Zv (Aa B6 Y)<|AG Y<|Zn [7,0,4] ?_;refine BN (e':=[(7,_)]) (by exact ⟨rows.length,⟨CD _,by rcases m with⟨_,h⟩|⟨i,h1,h2,J⟩;exact h;omega⟩,rfl,rfl⟩)
  rcases m with⟨h9,_⟩|⟨i,h1,h2,J⟩
  · exact absurd h9 K
  subst h2;refine AC<|Zn [7,0,4] ?_;refine BN (e':=[(7,_)]) (by exact ⟨i,⟨h1,J⟩,V,V⟩)
 rintro _ _ ⟨i,⟨hi,W⟩,rfl,rfl⟩;refine A0<|Zm Y<|Zm Y<|Zo Wh (Pa #[_,_,_,_,_] CI An Y) ?_;refine Ze (Aj (vs:=[_]) (cs:=[_,_,_,_,_]) B6 An DS Y V rfl V rfl V)<|AD fun Z=>Zc [_,_,_] Y call256 Y V (ZP G hn i hi y Z) ?_;rintro _ _ ⟨_,⟨s3,s4,J,rfl⟩,rfl⟩;obtain ⟨g3,c3,rfl⟩:=J.form;refine A3 Y<|AJ<|AP rfl results206 Y (by exact ⟨_,s4,by unfold R7;rw [W];exact J,rfl⟩)
theorem Xj(q:QM)(I:0<=q.cl/\q.cl<=3)(c:Chg)(J:Option Addr)(o n:Int)(y:AU)(g:Nat):BZ prog 207 #[.agg #[I4 q.kd,I4 q.tb,I4 q.cl,I4 q.lo,I4 q.hi,I4 q.bq,I4 q.ot,I4 c.t,I4 c.k,.bool c.had,I4 c.o.a,I4 c.o.b,I4 c.o.c,.bool c.has,I4 c.n.a,I4 c.n.b,I4 c.n.c,.pointer J,I5 g,I4 o,I4 n]] [[(g,.cells y.A29 83 (0,0))]] (fun r H'=>∃G m,r= .func (.func 257) #[] #[I5 G,I5 m]/\H'=[[(G,.cells #[I4 q.kd,I4 q.tb,I4 q.cl,I4 q.lo,I4 q.hi,I4 q.bq,I4 q.ot,I4 c.t,I4 c.k,.bool c.had,I4 c.o.a,I4 c.o.b,I4 c.o.c,.bool c.has,I4 c.n.a,I4 c.n.b,I4 c.n.c,.pointer J,I5 g,I4 o,I4 n] 167 (0,0))],[(m,.cells #[I4 (Bl y q.cl)] 3 (0,0))],[(g,.cells y.A29 83 (0,0))]]):=by
 refine Se func207 ntmps207 [0] ?_;intro u R;refine A0<|Ze (Ep Y (cs:=#[I4 q.kd,I4 q.tb,I4 q.cl,I4 q.lo,I4 q.hi,I4 q.bq,I4 q.ot,I4 c.t,I4 c.k,.bool c.had,I4 c.o.a,I4 c.o.b,I4 c.o.c,.bool c.has,I4 c.n.a,I4 c.n.b,I4 c.n.c,.pointer J,I5 g,I4 o,I4 n]) (G6 q c J (some ⟨g,0,none⟩) o n))<|AD fun G=>A3 Y<|Zq<|Az (n:=10) (0::1::3::7::0::16::48::127::0::511::[]) 896 A6 A6 V<|A2 0 V (AB (off:=18) D3 V rfl It Y)<|B3 1 V Ly Y ?_;refine A2 2 V (Aq Y V)<|E6 3 V Wh (AA (cs:=#[_,_,_,_,_]) CI An Y Ax AN) ?_;refine A2 4 V (AB (off:=0) D3 V rfl CC Y)<|A2 5 V (Ap (off:=2) CA V rfl A5 Y)<|B3 6 V AE Y ?_;refine Zz (l:=[7,8])<|B1 [false,false,false] [] V rfl (Zu [_,_] Y S8 Y V (Fs y q.cl I)) ?_ (fun _ _ h=>h.elim) ?_
 ·
  rintro _ _ ⟨rfl,rfl⟩;refine B5<|Yw 8 511 V (Al H3 #[_])<|AD fun m=>Yw 9 1023 V (Zs A5 Y Y V (hi:=by decide))<|CT<|Ah<|Zx<|A0<|Zv (Bg (vs:=[]) (us:=[_,_]) Y Y)<|AG Y<|Zn [2] ?_;refine Zx<|AJ<|AP V results207 Y (by exact ⟨G,m,V,V⟩)
 refine B1 [true,true,true] [(6,(_,_)),(3,(_,_)),(1,(_,_))] V rfl (Al H3 #[_]) ?_ (fun _ _ h=>h.elim) Ai;rintro _ _ ⟨m,rfl,rfl⟩;refine B5<|Yw 7 511 V (Zu [_,_] Y S8 Y V (Fs y q.cl I))<|CT<|Yw 9 1023 V (Zs A5 Y Y V (hi:=by decide))<|CT<|Ah<|Zx<|A0<|Zv (Bg (vs:=[]) (us:=[_,_]) Y Y)<|AG Y<|Zn [2] ?_;refine Zx<|AJ<|AP V results207 Y (by exact ⟨G,m,V,V⟩)
theorem nQ(q:QM)(m:0<=q.cl/\q.cl<=3)(c:Chg)(K:Option Addr)(o n:Int)(y:AU)(G I J:Nat)(x:AU):BI prog 257 #[.agg x.A29,I5 I,I5 J] [[(I,.cells #[I4 q.kd,I4 q.tb,I4 q.cl,I4 q.lo,I4 q.hi,I4 q.bq,I4 q.ot,I4 c.t,I4 c.k,.bool c.had,I4 c.o.a,I4 c.o.b,I4 c.o.c,.bool c.has,I4 c.n.a,I4 c.n.b,I4 c.n.c,.pointer K,I5 G,I4 o,I4 n] 167 (0,0))],[(J,.cells #[I4 (Bl y q.cl)] 3 (0,0))],[(G,.cells y.A29 83 (0,0))]] (.bool (KN q y x)):=by
 refine Se func257 ntmps257 [0,1,2] ?_;intro u R;refine A0<|Ze (Bx #[_,_,_,_,_])<|AD fun O=>A3 Y<|A0<|Zo Wh (AA (cs:=#[_,_,_,_,_]) CI An Y Ax AN) ?_;refine Zh 0 D3 V rfl CC Y<|Zv (Ap (off:=2) CA V rfl A5 Y)<|Zl AE Y ?_;refine Xr [_,_] Y S8 Y V (Fs x q.cl m) ?_;refine A3 Y<|Zq<|Az (n:=19) (0::0::3::7::15::15::63::127::255::511::255::1279::3327::7423::15615::32767::65535::131071::262143::[]) 0 A6 A6 V<|A2 0 V (AO Y)<|B3 1 V AE Y ?_;refine A2 2 V (Er Y Y)<|A2 3 V (AO Y)<|CW (t:=14) Y (fun g=>?_) (fun g=>?_)
 ·
  rw [CM g];refine AF 4 V<|AF 5 V<|AF 6 V<|AF 7 V<|AF 8 V<|AF 9 V<|AF 10 V<|AF 11 V<|AF 12 V<|AF 13 V<|AF 14 V<|AF 15 V<|AF 16 V<|A2 17 V (AV Y Y)<|A2 18 V (Aw Y)<|Ah<|Zn [4] ?_;refine Zx<|AJ<|AP V results257 Y (by exact ⟨by simp [KN, *],V⟩)
 rw [C4 g];refine AH 4 V (AO Y)<|DA 5 V Wh (BO AE Y AN) ?_;refine AH 6 V (CP Y Y)<|AH 7 V (AO Y)<|CW (t:=18) Y (fun h2=>?_) (fun h2=>?_)
 ·
  rw [CM h2];refine AH 8 V (AB (off:=1) FG V rfl A5 Y)<|DA 9 V Wh (BO AE Y AN) ?_;refine AH 10 V (AB (off:=18) D3 V rfl It Y)<|DA 11 V Wh (BO Ly Y AN) ?_;refine AH 12 V (Aq Y V)<|AH 13 V (AB (off:=1) FG V rfl A5 Y)<|DA 14 V Wh (BO AE Y AN) ?_;refine AH 15 V (Er Y Y)<|AH 16 V (AV Y Y)<|A2 17 V (AL Y Y)<|A2 18 V (Aw Y)<|Ah<|Zn [4] ?_;refine Zx<|AJ<|AP V results257 Y (by exact ⟨by simp [KN, *],V⟩)
 rw [C4 h2];refine AF 8 V<|AF 9 V<|AF 10 V<|AF 11 V<|AF 12 V<|AF 13 V<|AF 14 V<|AF 15 V<|AH 16 V (AL Y Y)<|A2 17 V (AL Y Y)<|A2 18 V (Aw Y)<|Ah<|Zn [4] ?_;refine Zx<|AJ<|AP V results257 Y (by exact ⟨by simp [KN, *],V⟩)
theorem Qw(q:QM)(I:0<=q.cl/\q.cl<=3)(c:Chg)(J:Option Addr)(o n:Int)(y:AU)(g:Nat):BZ prog 207 #[.agg #[I4 q.kd,I4 q.tb,I4 q.cl,I4 q.lo,I4 q.hi,I4 q.bq,I4 q.ot,I4 c.t,I4 c.k,.bool c.had,I4 c.o.a,I4 c.o.b,I4 c.o.c,.bool c.has,I4 c.n.a,I4 c.n.b,I4 c.n.c,.pointer J,I5 g,I4 o,I4 n]] [[(g,.cells y.A29 83 (0,0))]] (fun r H'=>∃m G,r= .func (.func 257) #[] ([I5 m,I5 G]:List Value).toArray/\H'=[[(m,.cells #[I4 q.kd,I4 q.tb,I4 q.cl,I4 q.lo,I4 q.hi,I4 q.bq,I4 q.ot,I4 c.t,I4 c.k,.bool c.had,I4 c.o.a,I4 c.o.b,I4 c.o.c,.bool c.has,I4 c.n.a,I4 c.n.b,I4 c.n.c,.pointer J,I5 g,I4 o,I4 n] 167 (0,0))]++[(G,.cells #[I4 (Bl y q.cl)] 3 (0,0))]++[(g,.cells y.A29 83 (0,0))]]):=by
 refine Gv (Xj q I c J o n y g) V ?_;rintro r H' ⟨m,G,rfl,rfl⟩;exact ⟨_,⟨m,G,V,V⟩,by simp⟩
theorem au(q:QM)(I:0<=q.cl/\q.cl<=3)(c:Chg)(J:Option Addr)(o n:Int)(y:AU)(g m G:Nat)(x:AU):BI prog 257 (.agg x.A29::([I5 m,I5 G]:List Value)).toArray [[(m,.cells #[I4 q.kd,I4 q.tb,I4 q.cl,I4 q.lo,I4 q.hi,I4 q.bq,I4 q.ot,I4 c.t,I4 c.k,.bool c.had,I4 c.o.a,I4 c.o.b,I4 c.o.c,.bool c.has,I4 c.n.a,I4 c.n.b,I4 c.n.c,.pointer J,I5 g,I4 o,I4 n] 167 (0,0))]++[(G,.cells #[I4 (Bl y q.cl)] 3 (0,0))]++[(g,.cells y.A29 83 (0,0))]] (.bool (KN q y x)):=by
 refine Gv (nQ q I c J o n y g m G x) V ?_;rintro r H' ⟨rfl,rfl⟩;exact ⟨_,⟨V,V⟩,by simp⟩
set_option maxHeartbeats 1000000 in
theorem dP(q:QM)(c:Chg)(g m:Option Addr)(o n:Int)(G:0<=q.cl/\q.cl<=3){r:CE}{rv:Value}{sr:List A9}(hr:Bb 5 83 rv r.rows.length (Af r.rows) sr)(hn:r.rows.length<=100000000){s2:List A9}(h2:Ig m (afQ q c) s2):BZ prog 127 #[.agg (q.G2 c g m o n),.agg #[rv,I4 r.val,.bool r.fnd]] [sr,s2] (fun w H'=>∃I s',w= .tuple #[.agg #[I,I4 r.val,.bool r.fnd],.bool true]/\Bb 5 83 I (E8 q c r.rows).length (Af (E8 q c r.rows)) s'/\H'=[s']):=by
 have ax:=mL;obtain ⟨pv,cv,rfl⟩:=hr.form;have hU:=DU hr A1
 have af:(r.rows.filter fun x=>!Jp c x).length<=r.rows.length:=MD _ _;refine Se func127 ntmps127 [0,1] ?_;intro u R;refine A0<|Ze (Ep Y (cs:=(q.G2 c g m o n)) (G6 q c g m o n))<|AD fun U=>Ze (Bx #[.slice pv r.rows.length cv,I4 r.val,.bool r.fnd])<|AD fun br=>Ze (Al G3 #[_,_,_])<|AD fun b3=>A3 Y<|A0<|Zh 0 C7 V rfl C6 Y<|Zl FA Y ?_;refine Zv (Bg (vs:=[]) (us:=[_]) Y Y)<|Zc [_,_] Y call204 Y V (WT (B:=[(U,.cells (q.G2 c g m o n) 167 (0,0))]) hU A1 205 [I5 U] (Jp c) call205 (fun x=>kQ q c g m o n x U)) ?_;rintro _ _ ⟨_,⟨s3,W,rfl⟩,rfl⟩;obtain ⟨g3,c3,rfl⟩:=W.form;refine Zh 0 C7 V rfl C6 Y<|Xe (Zs C6 Y Y V (hi:=by(simp;done))) ?_;refine A4<|Zb [2,3,4] ?_;refine DK (e0:=[(2,_)]) (H0:=[[(br,.cells #[.slice g3 (r.rows.filter fun x=>!Jp c x).length c3,I4 r.val,.bool r.fnd] 53 (0,0))],s3,s2]) (fun e H=>∃(w:Value) (K:List A9),(Bb 5 83 w (E8 q c r.rows).length (Af (E8 q c r.rows)) K)/\e=[]/\H=[[(br,.cells #[w,I4 r.val,.bool r.fnd] 53 (0,0))],K]) Wp ?hx_1 ?hy_1
 case hx_1=>
  refine A0<|Zh 18 D3 V rfl It Y<|Zl Ly Y ?_;refine Zv (Em S2 Y Y)<|A4<|AX Y (fun X=>?_) (fun X=>?_)
  ·
   obtain ⟨y,J⟩:∃y,afQ q c=some y:=fm.1 (by rw [<-h2.some_];exact X);rw [J]at h2;obtain ⟨O,rfl,rfl⟩:=h2;refine Az (n:=11) (0::1::0::4::12::28::0::64::255::511::1023::[]) 1408 A6 A6 V<|A2 0 V (AB (off:=0) C7 V rfl C6 Y)<|B3 1 V FA Y ?_;refine A2 2 V (AB (off:=18) D3 V rfl It Y)<|B3 3 V Ly Y ?_;refine A2 4 V (Aq Y V)<|D8 (b:=O) (x:= .cells y.A29 83 (0,0)) (D':=63) 5 V rfl V B0 (Pa y.A29 CI An Y) ?_;refine E6 6 V Wh (AA cF Wc Y Ax (by exact BM V)) ?_;refine Zz (l:=[7])<|B1 [false,true,true,true] [(5,(_,_)),(3,(_,_)),(1,(_,_))] V rfl (Zw [_] Y call207 Y V (Qw q G c g o n y O)) ?_ Bz Ai;rintro _ _ ⟨_,⟨Z,b9,rfl,rfl⟩,rfl⟩;refine ⟨FE (by simp [*]) (Zk (Zk (AZ))),?_⟩;refine Zz (l:=[8])<|B1 [false,false,false] [] V rfl (Zw [_,_,_] Y call206 Y V (Ua W A1 y 257 [I5 Z,I5 b9] (KN q y) call257 (fun x=>au q G c g o n y O Z b9 x))) ?_ Bz Ai;rintro _ _ ⟨_,⟨s5,s6,h5,rfl⟩,rfl⟩;refine ⟨AZ,?_⟩;obtain ⟨g5,c5,rfl⟩:=h5.form;refine A2 9 V (AB (off:=0) C7 V rfl C6 Y)<|Zz (l:=[10])<|B1 [] [] V rfl (Zs C6 Y Y V (hi:=by(simp;done))) ?_ (fun _ _ h=>h.elim) Ai;rintro _ _ ⟨rfl,rfl⟩;refine B5<|Ah<|Zn [3,4] ?_;refine BN (e':=[]) (by exact ⟨_,s5,by unfold E8;rw [J];exact h5,rfl,rfl⟩)
  have J:afQ q c=none:=by have h9:=h2.some_;rw [X]at h9;exact pH.1 (by rw [<-h9];decide)
  refine AC<|Zn [3,4] ?_;refine BN (e':=[]) (by exact ⟨_,s3,by unfold E8;rw [J];exact W,rfl,rfl⟩)
 rintro _ _ ⟨w,K,h4,rfl,rfl⟩;obtain ⟨p4,c4,rfl⟩:=h4.form;refine A0<|Zo Wh (AA (cs:=#[_,_,_]) BW As Y Ax (by exact BM V)) ?_;refine Xe (BK As Y Y HJ Wu (by exact Du rfl) E3 AW (by exact BA _)) ?_;refine A3 Y<|AJ<|Bi V results127 Y Wh (Ak BW As Wn (V)) Y (by exact ⟨_,K,V,h4,V⟩)
theorem Ye(q:QM)(c:Chg)(J g:Option Addr)(o n:Int){r:CE}(K:Option Addr)(I m:Nat)(hv:-4000000000000000000<=r.val/\r.val<=4000000000000000000):BI prog 129 #[.agg (q.G2 c J g o n),.agg #[.slice K I m,I4 r.val,.bool r.fnd]] [] (.tuple #[.agg #[.slice K I m,I4 (if g.isSome then r.val+1 else r.val -1),.bool r.fnd],.bool true]):=by
 refine Se func129 ntmps129 [0,1] ?_;intro u R;refine A0<|Ze (Ep Y (cs:=(q.G2 c J g o n)) (G6 q c J g o n))<|AD fun U=>Ze (Bx #[.slice K I m,I4 r.val,.bool r.fnd])<|AD fun W=>Ze (Al G3 #[_,_,_])<|AD fun O=>A3 Y<|Zq<|A0<|Zh 18 D3 V rfl It Y<|Zl Ly Y ?_;refine Zv (Em S2 Y Y)<|A4<|AX Y (fun G=>?_) (fun G=>?_)
 ·
  refine Zg<|Zh 1 C7 V rfl A5 Y<|Zl AE Y ?_;refine Yi Y Y<|Zh 1 C7 V rfl A5 Y<|Xe (Zs A5 Y Y V (hi:=by(simp;done))) ?_;refine A4<|A0<|Zo Wh (AA (cs:=#[_,_,_]) BW As Y Ax AN) ?_;refine Xe (Xw As _) ?_;refine AG Y<|Zn [4,5] ?_;refine Zx<|AJ<|Bi rfl results129 Y Wh (Ak BW As Wn (rfl)) Y (by exact ⟨by rw [G];rfl,rfl⟩)
 refine Zg<|Zh 1 C7 V rfl A5 Y<|Zl AE Y ?_
 (refine BX (GG Y Y (IntWalk.i64_in _ ?_)) ?_;(focus (omega)))
 refine Zh 1 C7 V rfl A5 Y<|Xe (Zs A5 Y Y V (hi:=by(simp;done))) ?_;refine A4<|A0<|Zo Wh (AA (cs:=#[_,_,_]) BW As Y Ax AN) ?_;refine Xe (Xw As _) ?_;refine AG Y<|Zn [4,5] ?_;refine Zx<|AJ<|Bi rfl results129 Y Wh (Ak BW As Wn (rfl)) Y (by exact ⟨by rw [G];rfl,rfl⟩)
theorem kL(q:QM)(c:Chg)(G I:Option Addr)(o n:Int){r:CE}(J:Option Addr)(m g:Nat)(hv:-4000000000000000000<=r.val/\r.val<=4000000000000000000)(W:(-1000000000<=o/\o<=1000000000)/\-1000000000<=n/\n<=1000000000):BI prog 131 #[.agg (q.G2 c G I o n),.agg #[.slice J m g,I4 r.val,.bool r.fnd]] [] (.tuple #[.agg #[.slice J m g,I4 (r.val+(n -o)),.bool r.fnd],.bool true]):=by
 refine Se func131 ntmps131 [0,1] ?_;intro u R;refine A0<|Ze (Ep Y (cs:=(q.G2 c G I o n)) (G6 q c G I o n))<|AD fun O=>Ze (Bx #[.slice J m g,I4 r.val,.bool r.fnd])<|AD fun U=>Ze (Al G3 #[_,_,_])<|AD fun K=>A3 Y<|A0<|Zh 1 C7 V rfl A5 Y<|Zl AE Y ?_;refine Zh 20 D3 V rfl A5 Y<|Zl AE Y ?_;refine Zh 19 D3 V rfl A5 Y<|Zl AE Y ?_
 (refine BX (GG Y Y (IntWalk.i64_in _ ?_)) ?_;(focus (omega)))
 refine Yi Y Y<|Zh 1 C7 V rfl A5 Y<|Xe (Zs A5 Y Y V (hi:=by(simp;done))) ?_;refine Z0<|Zn [3,4] ?_;refine Zx<|A0<|Zo Wh (AA (cs:=#[_,_,_]) BW As Y Ax AN) ?_;refine Xe (Xw As _) ?_;refine A3 Y<|AJ<|Bi V results131 Y Wh (Ak BW As Wn (V)) Y (by exact ⟨V,V⟩)
end Go.Proofs.YteaiajghbkenoaaGreatDoor
