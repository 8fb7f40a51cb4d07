/- predicate.kinds, Touches. -/
/- eval: folds, measures, joins. -/
/- eval: extreme, the steps of From, joined. -/
/- eval: From, Of, Same. -/
/- eval: Same, Of. -/
/- The patches of a result. -/
/- The patches of the kinds of queries (not joins). -/
import Derived.Test.YteaiajghbkenoaaGreatDoorEz
import Derived.Test.YteaiajghbkenoaaGreatDoorQe3
import Derived.Test.YteaiajghbkenoaaGreatDoorQe1
set_option linter.unusedVariables false
set_option linter.unusedSimpArgs false
namespace Go.Proofs.YteaiajghbkenoaaGreatDoor
open Go.Proofs.Tryz
open Go Go.RowKit Gw
set_option maxRecDepth 100000
attribute [local irreducible] Gw.At Gw.Nx Gw.Ops
def Lu(b5 b6:Nat):List (Int×Value):=[(1,.agg #[.func (.func 126) #[] #[],.func (.func 127) #[] #[]]),(2,.agg #[.func (.func 126) #[] #[],.func (.func 127) #[] #[]]),(3,.agg #[.func (.func 128) #[] #[],.func (.func 129) #[] #[]]),(4,.agg #[.func (.func 130) #[] #[],.func (.func 131) #[] #[]]),(5,.agg #[.func (.func 132) #[] #[],.func (.func 208) #[] #[I5 b5]]),(6,.agg #[.func (.func 135) #[] #[],.func (.func 208) #[] #[I5 b6]]),(7,.agg #[.func (.func 137) #[] #[],.func (.func 138) #[] #[]])]
variable{lm:List (Int×Value)}{k:Int}{v:Value}
theorem Z6{g m:Nat}(h:∀p,p∈lm↔p∈Lu g m)(I:(lm.map (·.1)).Nodup)(G:(k,v)∈Lu g m):EF k lm=some v:=Cw I ((h _).2 G)
def H7(k:Int):Nat:=if k=1 then 126 else if k=2 then 126 else if k=3 then 128 else if k=4 then 130 else if k=5 then 132 else if k=6 then 135 else 137
theorem rQ{g m:Nat}(h:∀p,p∈lm↔p∈Lu g m)(G:(lm.map (·.1)).Nodup)(I:1<=k/\k<=7):∃pf,EF k lm=some (.agg #[.func (.func (H7 k)) #[] #[],pf]):=by
 obtain h9|h9|h9|h9|h9|h9|h9:k=1\/k=2\/k=3\/k=4\/k=5\/k=6\/k=7:=by omega
 all_goals subst h9
 all_goals exact ⟨_,Z6 h G (by simp [Lu,H7];rfl)⟩
theorem PD(v:Value)(g:v.oneCell'=true)(hc:v.cells=#[v]):Ba prog 133 #[v] [] (fun r H'=>∃b,r= .func (.func 208) #[] #[I5 b]/\H'=[[(b,.cells #[v] 73 (0,0))]]):=by
 refine Se func133 ntmps133 [0] ?_;intro u R;refine A0<|Ze (Eo Y (cs:=#[v]) hc)<|AD fun b=>A3 Y<|A0<|Zv (Bg (vs:=[]) (us:=[_]) Y Y)<|A3 Y<|AJ<|AO V results133 Y (by exact ⟨b,V,V⟩)
theorem Ng:Ba prog 68 #[] [] (fun v H'=>∃b es ck lm g m,v= .map (some b)/\Cj (fun k:Int=>I4 k) es ck lm/\(∀p,p∈lm↔p∈Lu g m)/\H'=[[(b,.map es ck)],[(g,.cells #[.func (.func 134) #[] #[]] 73 (0,0))],[(m,.cells #[.func (.func 136) #[] #[]] 73 (0,0))]]):=by
 refine Se func68 ntmps68 [] ?_;intro u R;refine A0<|A3 Y<|A0<|Ze (DR)<|AD fun mb=>Zv (BK (vs:=[(0,.func (.func 126) #[] #[]),(1,.func (.func 127) #[] #[])]) (cs:=#[.func (.func 126) #[] #[],.func (.func 127) #[] #[]]) Y (AY (pl:=#[(0,1),(1,1)]) WD W5 (fun _=>by kernel_rfl) A6))<|Ze (EC Hr W6 (ER _) (fun _ _=>trivial) (trivial) Y Y Y Wo) ?_;rintro _ _ ⟨rfl,l5,gq,p9,J,af,rfl⟩;refine Zv (BK (vs:=[(0,.func (.func 126) #[] #[]),(1,.func (.func 127) #[] #[])]) (cs:=#[.func (.func 126) #[] #[],.func (.func 127) #[] #[]]) Y (AY (pl:=#[(0,1),(1,1)]) WD W5 (fun _=>by kernel_rfl) A6))<|Ze (EC Hr W6 J (fun _ _=>trivial) (trivial) Y Y Y Wo) ?_;rintro _ _ ⟨rfl,l8,gy,pg,K,ax,rfl⟩;refine Zv (BK (vs:=[(0,.func (.func 128) #[] #[]),(1,.func (.func 129) #[] #[])]) (cs:=#[.func (.func 128) #[] #[],.func (.func 129) #[] #[]]) Y (AY (pl:=#[(0,1),(1,1)]) WD W5 (fun _=>by kernel_rfl) A6))<|Ze (EC Hr W6 K (fun _ _=>trivial) (trivial) Y Y Y Wo) ?_;rintro _ _ ⟨rfl,l9,ic,pq,O,bn,rfl⟩;refine Zv (BK (vs:=[(0,.func (.func 130) #[] #[]),(1,.func (.func 131) #[] #[])]) (cs:=#[.func (.func 130) #[] #[],.func (.func 131) #[] #[]]) Y (AY (pl:=#[(0,1),(1,1)]) WD W5 (fun _=>by kernel_rfl) A6))<|Ze (EC Hr W6 O (fun _ _=>trivial) (trivial) Y Y Y Wo) ?_;rintro _ _ ⟨rfl,o8,j3,pz,U,cu,rfl⟩;refine Zc [_] Y call133 Y V (PD (.func (.func 134) #[] #[]) V rfl) ?_;rintro _ _ ⟨_,⟨g,rfl,rfl⟩,rfl⟩;refine Zv (BK (vs:=[(0,.func (.func 132) #[] #[]),(1,.func (.func 208) #[] #[I5 g])]) (cs:=#[.func (.func 132) #[] #[],.func (.func 208) #[] #[I5 g]]) Y (AY (pl:=#[(0,1),(1,1)]) WD W5 (fun _=>by kernel_rfl) A6))<|Ze (EC Hr W6 U (fun _ _=>trivial) (trivial) Y Y Y Wo) ?_;rintro _ _ ⟨rfl,o9,j5,q9,W,cO,rfl⟩;refine Zc [_] Y call133 Y V (PD (.func (.func 136) #[] #[]) V rfl) ?_;rintro _ _ ⟨_,⟨m,rfl,rfl⟩,rfl⟩
 refine Zv (BK (vs:=[(0,.func (.func 135) #[] #[]),(1,.func (.func 208) #[] #[I5 m])]) (cs:=#[.func (.func 135) #[] #[],.func (.func 208) #[] #[I5 m]]) Y (AY (pl:=#[(0,1),(1,1)]) WD W5 (fun _=>by kernel_rfl) A6))<|Ze (EC Hr W6 W (fun _ _=>trivial) (trivial) Y Y Y Wo) ?_;rintro _ _ ⟨rfl,p8,kv,qa,X,d9,rfl⟩;refine Zv (BK (vs:=[(0,.func (.func 137) #[] #[]),(1,.func (.func 138) #[] #[])]) (cs:=#[.func (.func 137) #[] #[],.func (.func 138) #[] #[]]) Y (AY (pl:=#[(0,1),(1,1)]) WD W5 (fun _=>by kernel_rfl) A6))<|Ze (EC Hr W6 X (fun _ _=>trivial) (trivial) Y Y Y Wo) ?_;rintro _ _ ⟨rfl,I,G,gm,Z,ek,rfl⟩;refine Zm Y<|AG Y<|Zn [0] ?_;refine Zx<|AJ<|AO V results68 Y (by
  refine ⟨mb,I,G,gm,g,m,V,Z,fun p=>?_,V⟩;rw [ek,d9,cO,cu,bn,ax,af];simp only [Lu,D0,RM,SD,ij];constructor
  · rintro (rfl|⟨rfl|⟨rfl|⟨rfl|⟨rfl|⟨rfl|⟨rfl,-⟩,-⟩,-⟩,-⟩,-⟩,-⟩)<;>simp
  · rintro (h|h|h|h|h|h|h)<;>subst h<;>simp)
theorem ed(q:QM)(c:Chg)(Z:BI q){g m:Option Addr}{s1 s2:List A9}(U:Ib g (bfQ q c) s1)(h2:Ib m (afQ q c) s2):BJ prog (H7 q.kd) #[.agg (q.G0 c g m (mQ q (bfQ q c)) (mQ q (afQ q c)))] [] (.bool (Ce q c)):=by
 have e1:=U.some_;have e2:=h2.some_
 have X:q.kd=1\/q.kd=2\/q.kd=3\/q.kd=4\/q.kd=5\/q.kd=6\/q.kd=7:=by have:=Z.2.2.2;omega
 have G:=ak q c g m (mQ q (bfQ q c)) (mQ q (afQ q c));have O:=Sz q c g m (mQ q (bfQ q c)) (mQ q (afQ q c))
 have W:=wU q c g m (mQ q (bfQ q c)) (mQ q (afQ q c));have I:=wT q c g m (mQ q (bfQ q c)) (mQ q (afQ q c))
 have J:=wS q c g m (mQ q (bfQ q c)) (mQ q (afQ q c));have K:=wR q c g m (mQ q (bfQ q c)) (mQ q (afQ q c))
 rw [e1,e2]at G O I J K;rcases X with h|h|h|h|h|h|h
 · rw [show H7 q.kd=126 by rw [h];rfl,show Ce q c=Ny q c by unfold Ce;rw [AK A1]];exact G
 · rw [show H7 q.kd=126 by rw [h];rfl,show Ce q c=Ny q c by unfold Ce;rw [AK A1]];exact G
 · rw [show H7 q.kd=128 by rw [h];rfl,show Ce q c=UT q c by unfold Ce;rw [AH A1,AK A1]];exact O
 · rw [show H7 q.kd=130 by rw [h];rfl,show Ce q c=decide (mQ q (bfQ q c)≠mQ q (afQ q c)) by unfold Ce;rw [AH A1,AH A1,AK A1]];exact W
 · rw [show H7 q.kd=132 by rw [h];rfl,show Ce q c=(UT q c||decide (mQ q (bfQ q c)≠mQ q (afQ q c))) by unfold Ce;rw [AH A1,AH A1,AH A1,AK A1]];exact I
 · rw [show H7 q.kd=135 by rw [h];rfl,show Ce q c=(UT q c||decide (mQ q (bfQ q c)≠mQ q (afQ q c))) by unfold Ce;rw [AH A1,AH A1,AH A1,AK A1]];exact J
 · rw [show H7 q.kd=137 by rw [h];rfl,show Ce q c=(Ny q c||decide (c.t=q.ot)) by unfold Ce;rw [AH A1,AH A1,AH A1,AH A1]];exact K
theorem lM(g:1<=k/\k<=7):∀(args:Array Value) (w:World),(callFunc (H7 k) args).run prog w= .ok (.enter (H7 k) args) w:=by
 obtain h|h|h|h|h|h|h:k=1\/k=2\/k=3\/k=4\/k=5\/k=6\/k=7:=by omega
 all_goals (subst h;simp only [H7];first|exact call126|exact call128|exact call130|exact call132|exact call135|exact call137)
variable{q:QM}
theorem BI.kind(h:BI q):1<=q.kd/\q.kd<=7:=by have:=h.2.2.2;omega
theorem Im(q:QM)(c:Chg):BJ prog 22 #[.agg q.A17,.agg c.A15] [] (.bool (decide (BI q)&&(decide c.ok&&Ce q c))):=by
 refine Se func22 ntmps22 [0,1] ?_;intro u R;refine A0<|Ze (Bx #[_,_,_,_,_,_,_])<|AD fun pq=>Ze (Bx #[_,_,_,_,_,_,_,_,_,_])<|AD fun pc=>A3 Y<|Zq<|Az (n:=18) (0::1::3::7::15::31::63::127::127::383::1023::2047::127::127::12543::32767::65535::131071::[]) 49298 A6 A6 V<|E6 0 V Wh (AA (cs:=#[_,_,_,_,_,_,_]) Dg C7 Y As AM) ?_;refine Yw 1 3 V (Zu [_] Y call34 Y V (JW q))<|CM<|A2 2 V (AQ Y)<|Cf (t:=7) Y (fun g=>?_) (fun g=>?_)
 ·
  rw [g];refine DQ 3 V Wh (AA (cs:=#[_,_,_,_,_,_,_,_,_,_]) Fk C1 Y As AM) ?_;refine Yw 4 31 V (Zu [_] Y call67 Y V (Uw c))<|CM<|A2 5 V (AX Y Y)<|A2 6 V (AQ Y)<|Cf (t:=11) Y (fun h2=>?_) (fun h2=>?_)
  ·
   rw [h2];refine An 8 V (AB (off:=0) C6 V rfl A5 Y)<|DQ 9 V Wh (BO AE Y AM) ?_;refine DQ 12 V Wh (AA (cs:=#[_,_,_,_,_,_,_]) Dg C7 Y As AM) ?_;refine DQ 13 V Wh (AA (cs:=#[_,_,_,_,_,_,_,_,_,_]) Fk C1 Y As AM) ?_;refine Zz (l:=[7])<|B1 [true,true,true] [(13,(_,_)),(12,(_,_)),(9,(_,_))] V rfl (Zw [] Y call68 Y V (Ng)) ?_ Bv Ag;rintro _ _ ⟨_,⟨mb,es,ck,lm,U,W,rfl,K,O,rfl⟩,rfl⟩;refine ⟨Zk (Zk (Zk (AZ))),?_⟩;have G:BI q:=HP g
   obtain ⟨pf,m⟩:=rQ O K.keys G.kind;refine DQ 10 rfl Wh (Dj Hr W6 WD K (fun _ _=>trivial) (trivial) ((by rw [m];exact rfl:_=Value.agg #[.func (.func (H7 q.kd)) #[] #[],pf])) Y Y) ?_;refine An 11 V (Wz W5 V isAgg159 Y V)<|Zz (l:=[14])<|B1 [true,false,false,true] [(10,(_,_)),(9,(_,_))] V rfl (Zw [_,_] Y call69 Y V (Jd q G.2.1 (by have:=G.2.2.2;omega) c)) ?_ Bv Ag;rintro _ _ ⟨_,⟨X,Z,s1,s2,rfl,I,J,rfl⟩,rfl⟩;refine B5<|Yw 15 65535 V (Zu [_] Y (lM G.kind) Y V (ed q c G I J))<|CM<|A2 16 V (AX Y Y)<|A2 17 V (Aw Y)<|Ai<|Zn [4] ?_;refine Zx<|AJ<|AO V results22 Y (by exact ⟨by simp [g,h2],V⟩)
  rw [h2];refine AF 7 V<|AF 8 V<|AF 9 V<|AF 10 V<|AF 11 V<|AF 12 V<|AF 13 V<|AF 14 V<|AF 15 V<|A2 16 V (AL Y Y)<|A2 17 V (Aw Y)<|Ai<|Zn [4] ?_;refine Zx<|AJ<|AO V results22 Y (by exact ⟨by simp [g,h2],V⟩)
 rw [g];refine AF 3 V<|AF 4 V<|A2 5 V (AL Y Y)<|A2 6 V (AQ Y)<|AF 7 V<|AF 8 V<|AF 9 V<|AF 10 V<|AF 11 V<|AF 12 V<|AF 13 V<|AF 14 V<|AF 15 V<|A2 16 V (AL Y Y)<|A2 17 V (Aw Y)<|Ai<|Zn [4] ?_;refine Zx<|AJ<|AO V results22 Y (by exact ⟨by simp [g],V⟩)
def ivQ(n:Int):Value:=I4 n
theorem jk(e:TypeId)(g c:Nat)(z:Value)(h:c<=maxLen):Bc 1 e (I6 g 0 c) 0 [] [(g,.cells (List.replicate c z).toArray e (0,0))]:=⟨rfl,.inr ⟨g,c,_,(0,0),rfl,rfl,C0 _,h,by simp,by simp,BA _⟩⟩
variable{rows:List AU}{i:Nat}{r:AU}
theorem l6(h:rows[i]?=some r):Cq q (rows.take (i+1))=Cq q (rows.take i)++[Bl r q.bq]:=by
 unfold Cq;rw [Bh h,BW];rfl
theorem K9(q:QM)(rows:List AU):(Cq q rows).length=rows.length:=by unfold Cq;rw [B2]
theorem wI(h:rows[i]?=some r):(Cq q rows)[i]?=some (Bl r q.bq):=by unfold Cq;rw [DH,h];rfl
variable{M:List A9}
theorem fP(hv:E8 M v rows){v0:Int}{U:Bool}(st:Nat->Int×Bool)(h0:st 0=(v0,U))(G:Nat)(us:List Value)(K:∀(args:Array Value) (w:World),(callFunc G args).run prog w= .ok (.enter G args) w)(hf:∀(i:Nat) (r:AU),rows[i]?=some r->BJ prog G (.agg #[.slice none 0 0,I4 (st i).1,.bool (st i).2]:: .agg r.A16::us).toArray [M] (.agg #[.slice none 0 0,I4 (st (i+1)).1,.bool (st (i+1)).2])):BJ prog 219 #[v,.agg #[.slice none 0 0,I4 v0,.bool U],.func (.func G) #[] us.toArray] [M] (.agg #[.slice none 0 0,I4 (st rows.length).1,.bool (st rows.length).2]):=by
 have ax:=mL;obtain ⟨p,cap,rfl,⟨hl,af⟩,hg⟩:=id hv;refine Se func219 ntmps219 [0,1,2] ?_;intro u R;refine A0<|Ze (Bx #[_,_,_])<|AD fun Z=>Ze (Al G4 #[_,_,_])<|AD fun re=>A4<|Zq<|A0<|Zm Y<|Zv (Ab B6 Y)<|Zm Y<|A4<|AP<|Zb [11,2,4,6,9,10] ?_;refine BB (e0:=[(11,_)]) (fun m e H=>∃(i:Nat),m=rows.length -i/\(i<=rows.length)/\e=[(11,I4 (i:Int))]/\H=[[(Z,.cells #[.slice none 0 0,I4 (st i).1,.bool (st i).2] 53 (0,0))]]) (by exact ⟨0,rfl,C0 _,rfl,by rw [h0]⟩) Wp ?_;rintro _ _ _ ⟨i,rfl,hi,rfl,rfl⟩;refine A0<|Zv (Au Y Y)<|A4<|Zq<|Av Y (fun J=>?_) (fun J=>?_)
 ·
  obtain ⟨r,W⟩:∃r,rows[i]?=some r:=⟨_,B4 J⟩;obtain ⟨g,off,cur,T,zz,rfl,O,X,I⟩:=hg i r W;refine AC<|Zx<|Zq<|AP<|A0<|BX (Ad B6 AW Y Y A1)<|CO (cs:=[(g,.cells cur T zz)]) (by simp [O]) (AA (cs:=r.A16) CH AW Y A1 I) V rfl ?_;refine Ze (Al DP #[_,_,_,_,_])<|AD fun rb=>Xe (Xw AW r.A16) ?_;refine A4<|Zg<|Zm Y<|Zo Wh (AA (cs:=#[_,_,_]) Bm Ax Y As AM) ?_;refine Zo Wh (AA (cs:=#[_,_,_,_,_]) CH AW Y As AM) ?_;refine Xr [_,_] Y (K) Y V (hf i r W) ?_;refine Xe (BM Ax Y Y HR Wu (by exact (rfl:_=(#[.slice none 0 0,I4 (st (i+1)).1,.bool (st (i+1)).2]:Array Value))) E7 As (by exact BA _)) ?_;refine Z0<|A8<|Zx<|Zg<|Ya (n:=1) Y Y<|Zm Y<|Z0<|Zn [11,2,4,6,9,10] ?_;refine Aa (e':=[(11,_)]) (by exact ⟨i+1,V,by omega,V,V⟩)
 have ei:i=rows.length:=by omega
 subst ei;refine Ay<|Zt<|Zt<|AR<|Zx<|A0<|Zo Wh (AA (cs:=#[_,_,_]) Bm Ax Y As AM) ?_;refine Xe (Xw Ax _) ?_;refine A4<|AJ<|Ct V results219 Y Wh (Ak Bm Ax Wn (V)) (by exact ⟨V,V⟩)
variable{p:Option Addr}{cap:Nat}{ms:List Int}
theorem TZ(hc:FK M p (ms.map ivQ))(hl:ms.length<=maxLen)(af:ms.length<=cap){v0:Int}{W:Bool}(st:Nat->Int×Bool)(h0:st 0=(v0,W))(G:Nat)(us:List Value)(O:∀(args:Array Value) (w:World),(callFunc G args).run prog w= .ok (.enter G args) w)(hf:∀(i:Nat) (x:Int),ms[i]?=some x->BJ prog G (.agg #[.slice none 0 0,I4 (st i).1,.bool (st i).2]::I4 x::us).toArray [M] (.agg #[.slice none 0 0,I4 (st (i+1)).1,.bool (st (i+1)).2])):BJ prog 221 #[.slice p ms.length cap,.agg #[.slice none 0 0,I4 v0,.bool W],.func (.func G) #[] us.toArray] [M] (.agg #[.slice none 0 0,I4 (st ms.length).1,.bool (st ms.length).2]):=by
 have ax:=mL;refine Se func221 ntmps221 [0,1,2] ?_;intro u R;refine A0<|Ze (Bx #[_,_,_])<|AD fun Z=>Ze (Al G4 #[_,_,_])<|AD fun re=>A4<|Zq<|A0<|Zm Y<|Zv (Ab Cd Y)<|Zm Y<|A4<|AP<|Zb [11,2,4,6,9,10] ?_;refine BB (e0:=[(11,_)]) (fun m e H=>∃(i:Nat),m=ms.length -i/\(i<=ms.length)/\e=[(11,I4 (i:Int))]/\H=[[(Z,.cells #[.slice none 0 0,I4 (st i).1,.bool (st i).2] 53 (0,0))]]) (by exact ⟨0,rfl,C0 _,rfl,by rw [h0]⟩) Wp ?_;rintro _ _ _ ⟨i,rfl,hi,rfl,rfl⟩;refine A0<|Zv (Au Y Y)<|A4<|Zq<|Av Y (fun K=>?_) (fun K=>?_)
 ·
  obtain ⟨x,X⟩:∃x,ms[i]?=some x:=⟨_,B4 K⟩;obtain ⟨g,off,cur,T,zz,rfl,U,J⟩:=hc i (ivQ x) (by rw [DH,X];rfl);have I:cur[off+i]?=some (I4 x):=J
  refine AC<|Zx<|Zq<|AP<|A0<|BX (CW Cd A5 Y Y de)<|CO (cs:=[(g,.cells cur T zz)]) (by simp [U]) (BO AE Y (by exact I)) rfl rfl ?_;refine A3 Y<|Zg<|Zm Y<|Zo Wh (AA (cs:=#[_,_,_]) Bm Ax Y As AM) ?_;refine Zm Y<|Xr [_,_] Y (O) Y V (hf i x X) ?_;refine Xe (BM Ax Y Y HR Wu (by exact (rfl:_=(#[.slice none 0 0,I4 (st (i+1)).1,.bool (st (i+1)).2]:Array Value))) E7 As (by exact BA _)) ?_;refine Z0<|A8<|Zx<|Zg<|Ya (n:=1) Y Y<|Zm Y<|Z0<|Zn [11,2,4,6,9,10] ?_;refine Aa (e':=[(11,_)]) (by exact ⟨i+1,V,by omega,V,V⟩)
 have ei:i=ms.length:=by omega
 subst ei;refine Ay<|Zt<|Zt<|AR<|Zx<|A0<|Zo Wh (AA (cs:=#[_,_,_]) Bm Ax Y As AM) ?_;refine Xe (Xw Ax _) ?_;refine A4<|AJ<|Ct V results221 Y Wh (Ak Bm Ax Wn (V)) (by exact ⟨V,V⟩)
theorem Ma(hv:E8 M v rows)(q:QM)(U:0<=q.bq/\q.bq<=3)(hb:rows.length<=1000000000000):Ba prog 222 #[.agg q.A17,v] [M] (fun r H'=>∃s,Bc 1 3 r (Cq q rows).length ((Cq q rows).map ivQ) s/\H'=[s,M]):=by
 have cu:=mL;obtain ⟨p,cap,rfl,⟨hl,bn⟩,hg⟩:=id hv;refine Se func222 ntmps222 [0,1] ?_;intro u R;refine A0<|Ze (Bx #[_,_,_,_,_,_,_])<|AD fun bq=>A3 Y<|A0<|Zm Y<|Zv (Ab B6 Y)<|Ze (GZ (by_:=8) (l:=0) Cd (V:Tryz.prog.info? 3=some Tryz.t3) V rfl V rfl Y Y ?_ ?_ ?_) ?_
 (focus (omega))
 (focus (omega))
 (focus (omega))
 rintro _ _ ⟨mk,rfl,rfl⟩;refine A3 Y<|Zq<|A0<|Zm Y<|Zv (Ab B6 Y)<|Zm Y<|A4<|AP<|Zb [5,13,2,11,12] ?_;refine BB (e0:=[(5,_),(13,_)]) (fun m e H=>∃(i:Nat) (vo:Value) (O:List A9),m=rows.length -i/\(i<=rows.length/\Bc 1 3 vo i ((Cq q (rows.take i)).map ivQ) O)/\e=[(5,vo),(13,I4 (i:Int))]/\H=[O]) (by exact ⟨0,_,_,rfl,⟨C0 _,by rw [HX];exact jk _ _ _ (I4 0) A1⟩,rfl,rfl⟩) Wp ?_;rintro _ _ _ ⟨i,vo,O,rfl,⟨hi,I⟩,rfl,rfl⟩;obtain ⟨qo,co,rfl⟩:=I.form;refine A0<|Zv (Au Y Y)<|A4<|Zq<|Av Y (fun K=>?_) (fun K=>?_)
 ·
  obtain ⟨r,X⟩:∃r,rows[i]?=some r:=⟨_,B4 K⟩;obtain ⟨g,off,cur,T,zz,rfl,W,Z,J⟩:=hg i r X;refine AC<|Zx<|Zq<|AP<|A0<|BX (Ad B6 AW Y Y A1)<|CO (cs:=[(g,.cells cur T zz)]) (by simp [W]) (AA (cs:=r.A16) CH AW Y A1 J) V rfl ?_;refine Ze (Al DP #[_,_,_,_,_])<|AD fun rb=>Xe (Xw AW r.A16) ?_;refine A4<|Zg<|Zm Y<|Zo Wh (AA (cs:=#[_,_,_,_,_]) CH AW Y As AM) ?_;refine Zh 5 C6 V rfl A5 Y<|Zl AE Y ?_;refine Xr [_,_] Y S7 Y V (Fs r q.bq U) ?_;refine Ze (Ah (vs:=[_]) (cs:=[_]) Cd A5 Gk Y V rfl V rfl V)<|AD fun gb=>Ze (BQ (by_:=8) (sz:=1) Cd (V:Tryz.prog.info? 3=some Tryz.t3) V rfl V rfl Y (I) Y (DJ 1 gb 1 1 3 (0,0) [I4 (Bl r q.bq)] V) Wo Wo Fm A1 A1) ?_;rintro _ _ ⟨cO,G,rfl⟩;obtain ⟨ax,af,rfl⟩:=G.form;refine AG Y<|Zn [2,5,11,12,13] ?_;refine A8<|Zx<|Zg<|Ya (n:=1) Y Y<|Zm Y<|Z0<|Zn [5,13,2,11,12] ?_;refine Aa (e':=[(5,_),(13,_)]) (by exact ⟨i+1,_,_,rfl,⟨by omega,BR G rfl (by rw [l6 X,BW];rfl)⟩,rfl,rfl⟩)
 have ei:i=rows.length:=by omega
 subst ei;refine Ay<|Zt<|Zt<|AR<|Zx<|A0<|Zm Y<|A3 Y<|AJ<|AO rfl results222 Y (by exact ⟨O,BR I (K9 q rows).symm (by rw [FF]),rfl⟩)
theorem NH(v:Value)(g:v.oneCell'=true)(hc:v.cells=#[v]):Ba prog 224 #[v] [] (fun r H'=>∃b,r= .func (.func 272) #[] #[I5 b]/\H'=[[(b,.cells #[v] 73 (0,0))]]):=by
 refine Se func224 ntmps224 [0] ?_;intro u R;refine A0<|Ze (Eo Y (cs:=#[v]) hc)<|AD fun b=>A3 Y<|A0<|Zv (Bg (vs:=[]) (us:=[_]) Y Y)<|A3 Y<|AJ<|AO V results224 Y (by exact ⟨b,V,V⟩)
theorem mX(v n:Int)(f:Bool)(b g:Nat)(lt:Int->Int->Bool)(m:∀(args:Array Value) (w:World),(callFunc g args).run prog w= .ok (.enter g args) w)(G:∀x y:Int,BJ prog g #[I4 x,I4 y] [] (.bool (lt x y))):BJ prog 272 #[.agg #[.slice none 0 0,I4 v,.bool f],I4 n,I5 b] [[(b,.cells #[.func (.func g) #[] #[]] 73 (0,0))]] (.agg #[.slice none 0 0,I4 (if !f||lt n v then n else v),.bool true]):=by
 refine Se func272 ntmps272 [0,1,2] ?_;intro u R;refine A0<|Ze (Bx #[_,_,_])<|AD fun J=>Ze (Al G4 #[_,_,_])<|AD fun K=>A4<|Zq<|A0<|Zh 2 CC V rfl CD Y<|Zl E4 Y ?_;refine Zv (Br Y)<|Zm Y<|Af (t:=9) Y V (fun I=>?_) (fun I=>?_)
 ·
  repeat refine A7 Y rfl ?_
  refine Zv (AX Y Y)<|A4<|Cn Y<|Zg<|Zm Y<|Zh 1 CC V rfl A5 Y<|Xe (Zs A5 Y Y V (hi:=by(simp;done))) ?_;refine Z0<|Zn [3,5] ?_;refine Zx<|A0<|Zh 2 CC V rfl CD Y<|Xe (Zs CD Y Y V (hi:=by(simp;done))) ?_;refine A4<|A0<|Zo Wh (AA (cs:=#[_,_,_]) Bm Ax Y As AM) ?_;refine Xe (Xw Ax _) ?_;refine A4<|AJ<|Ct V results272 Y Wh (Ak Bm Ax Wn (V)) (by exact ⟨by simp_all;rfl,V⟩)
 refine Yl isAgg73 Y ?_;refine Zf Y Y<|Yf 1 CC V rfl A5 Y<|Yl AE Y ?_;refine Xr [_,_] Y (m) Y V (G n v) ?_;refine Zv (AL Y Y)<|A4<|AV Y (fun h2=>?_) (fun h2=>?_)
 ·
  refine Zg<|Zm Y<|Zh 1 CC V rfl A5 Y<|Xe (Zs A5 Y Y V (hi:=by(simp;done))) ?_;refine Z0<|Zn [3,5] ?_;refine Zx<|A0<|Zh 2 CC V rfl CD Y<|Xe (Zs CD Y Y V (hi:=by(simp;done))) ?_;refine A4<|A0<|Zo Wh (AA (cs:=#[_,_,_]) Bm Ax Y As AM) ?_;refine Xe (Xw Ax _) ?_;refine A4<|AJ<|Ct V results272 Y Wh (Ak Bm Ax Wn (V)) (by exact ⟨by simp_all;rfl,V⟩)
 refine AC<|Zx<|A0<|Zh 2 CC V rfl CD Y<|Xe (Zs CD Y Y V (hi:=by(simp;done))) ?_;refine Z0<|Zn [3,5] ?_;refine Zx<|A0<|Zo Wh (AA (cs:=#[_,_,_]) Bm Ax Y As AM) ?_;refine Xe (Xw Ax _) ?_;refine A4<|AJ<|Ct V results272 Y Wh (Ak Bm Ax Wn (V)) (by exact ⟨by simp_all;rfl,V⟩)
theorem fJ(x y:Int):BJ prog 225 #[I4 x,I4 y] [] (.bool (decide (x<y))):=by
 refine Se func225 ntmps225 [0,1] ?_;intro u R;refine A0<|A3 Y<|A0<|Zm Y<|Zm Y<|Zv (Dq Y Y)<|A3 Y<|AJ<|AO V results225 Y (by exact ⟨by rfl,V⟩)
theorem fI(x y:Int):BJ prog 226 #[I4 x,I4 y] [] (.bool (decide (y<x))):=by
 refine Se func226 ntmps226 [0,1] ?_;intro u R;refine A0<|A3 Y<|A0<|Zm Y<|Zm Y<|Zv (Ep Y Y)<|A3 Y<|AJ<|AO V results226 Y (by exact ⟨by rfl,V⟩)
theorem fM(v:Int)(f:Bool)(r:AU)(h:-9223372036854775807<=v/\v<=9223372036854775806):BJ prog 220 #[.agg #[.slice none 0 0,I4 v,.bool f],.agg r.A16] [] (.agg #[.slice none 0 0,I4 (v+1),.bool f]):=by
 refine Se func220 ntmps220 [0,1] ?_;intro u R;refine A0<|Ze (Bx #[_,_,_])<|AD fun m=>Ze (Bx #[_,_,_,_,_])<|AD fun G=>Ze (Al G4 #[_,_,_])<|AD fun g=>A4<|A0<|Zh 1 CC V rfl A5 Y<|Zl AE Y ?_;refine Yi Y Y<|Zh 1 CC V rfl A5 Y<|Xe (Zs A5 Y Y V (hi:=by(simp;done))) ?_;refine A4<|A0<|Zo Wh (AA (cs:=#[_,_,_]) Bm Ax Y As AM) ?_;refine Xe (Xw Ax _) ?_;refine A4<|AJ<|Ct V results220 Y Wh (Ak Bm Ax Wn (V)) (by exact ⟨V,V⟩)
theorem fK(v n:Int)(f:Bool)(h:-9223372036854775807<=v+n/\v+n<=9223372036854775806):BJ prog 223 #[.agg #[.slice none 0 0,I4 v,.bool f],I4 n] [] (.agg #[.slice none 0 0,I4 (v+n),.bool f]):=by
 refine Se func223 ntmps223 [0,1] ?_;intro u R;refine A0<|Ze (Bx #[_,_,_])<|AD fun m=>Ze (Al G4 #[_,_,_])<|AD fun g=>A4<|A0<|Zh 1 CC V rfl A5 Y<|Zl AE Y ?_;refine Zm Y<|Yi Y Y<|Zh 1 CC V rfl A5 Y<|Xe (Zs A5 Y Y V (hi:=by(simp;done))) ?_;refine A4<|A0<|Zo Wh (AA (cs:=#[_,_,_]) Bm Ax Y As AM) ?_;refine Xe (Xw Ax _) ?_;refine A4<|AJ<|Ct V results223 Y Wh (Ak Bm Ax Wn (V)) (by exact ⟨V,V⟩)
def xu(r:AU):Value:= .agg r.A16
theorem qm{g:List (Int×Value)}{I:Int}(J:(lm.map (·.1)).Nodup)(m:(g.map (·.1)).Nodup)(G:∀p,p∈g↔p=(I,v)\/(p∈lm/\p.1≠I))(k:Int):EF k g=if k=I then some v else EF k lm:=by
 split
 · rename_i h
   rw [h];exact Cw m ((G _).2 (.inl V))
 · rename_i h
   cases hg:EF k lm with
   |some x=>exact Cw m ((G _).2 (.inr ⟨VX hg,h⟩))
   |none=>
    cases hg2:EF k g with
    |none=>rfl
    |some x=>
     rcases (G _).1 (VX hg2)with e|⟨e,_⟩
     · injection e with e1 e2;exact absurd e1 h
     · rw [Cw J e]at hg;cases hg
variable{others:List AU}{x:AU}
theorem VP(h:others[i]?=some x)(k:Int):DZ q (others.take (i+1)) k=(DZ q (others.take i) k).or (if x.t=q.ot/\x.k=k then some x else none):=by
 unfold DZ;rw [Bh h,List.find?_append];congr 1;simp only [List.find?_cons,List.find?_nil];split<;>simp_all
def U9(q:QM)(others:List AU)(lm:List (Int×Value)):Prop:=∀k,EF k lm=(DZ q others k).map xu
theorem Sj(h:others[i]?=some x)(G:U9 q (others.take i) lm)(g:¬x.t=q.ot\/(DZ q (others.take i) x.k).isSome=true):U9 q (others.take (i+1)) lm:=by
 intro k;rw [G k,VP h k];cases hg:DZ q (others.take i) k with
 |some y=>rfl
 |none=>
  rw [AH]
  · rfl
  · rintro ⟨m,rfl⟩
    rcases g with g|g
    · exact g m
    · rw [hg]at g;cases g
theorem kK{g:List (Int×Value)}(h:others[i]?=some x)(J:U9 q (others.take i) lm)(U:x.t=q.ot)(G:(DZ q (others.take i) x.k).isSome=false)(K:(lm.map (·.1)).Nodup)(m:(g.map (·.1)).Nodup)(O:∀p,p∈g↔p=(x.k,xu x)\/(p∈lm/\p.1≠x.k)):U9 q (others.take (i+1)) g:=by
 intro k;rw [qm K m O k,VP h k];split
 · rename_i hk
   have:DZ q (others.take i) k=none:=by
    rw [hk];cases hg:DZ q (others.take i) x.k with
    |none=>rfl
    |some y=>rw [hg]at G;cases G
   rw [this,AK ⟨U,hk.symm⟩];rfl
 · rename_i hk
   rw [J k,AH (fun I=>hk I.2.symm)];cases DZ q (others.take i) k<;>rfl
variable{y:AU}
theorem VQ(g:U9 q others lm)(k:Int)(m:y=(DZ q others k).getD ⟨0,0,⟨0,0,0⟩⟩):(EF k lm).getD (.agg #[I4 (⟨0,0,⟨0,0,0⟩⟩:AU).t,I4 (⟨0,0,⟨0,0,0⟩⟩:AU).k,I4 (⟨0,0,⟨0,0,0⟩⟩:AU).v.a,I4 (⟨0,0,⟨0,0,0⟩⟩:AU).v.b,I4 (⟨0,0,⟨0,0,0⟩⟩:AU).v.c])= .agg y.A16/\(EF k lm).isSome=(DZ q others k).isSome:=by
 rw [g k,m];cases DZ q others k<;>exact ⟨rfl,rfl⟩
theorem VO(g:y=(DZ q others k).getD ⟨0,0,⟨0,0,0⟩⟩)(h:(DZ q others k).isSome=true):DZ q others k=some y:=by
 rw [g];cases hp:DZ q others k with
 |none=>rw [hp]at h;cases h
 |some x=>rfl
variable{s:List A9}
theorem Ko{sz:Nat}{e:TypeId}{n c k:Nat}{xs:List Value}(h:Bc sz e (.slice p n c) k xs s):FK s p xs:=by
 intro j u G;obtain ⟨J,⟨_,rfl,_⟩|⟨g,cap,cur,z,hv,rfl,_,_,_,m,_⟩⟩:=h
 · have:xs=[]:=LN A1
   subst this;cases G
 · injection hv with h1 h2 h3
   subst h1;refine ⟨g,0,cur,e,z,V,by simp,?_⟩;have I:=(BE.1 G).1
   rw [<-m,H3,AK A1,HE]at G;rwa [D2]
theorem QA(h:rows[i]?=some r):Ig q (rows.take (i+1)) others=Ig q (rows.take i) others++Ie q others r:=by
 unfold Ig;rw [Bh h,OK,ml]
theorem VR(h:DZ q others (Bl r q.bq)=some y):Ie q others r=[r,y]:=by unfold Ie;rw [h]
theorem kL(h:DZ q others (Bl r q.bq)=none):Ie q others r=[]:=by unfold Ie;rw [h]
theorem qE(q:QM)(others:List AU)(r:AU):(Ie q others r).length<=2:=by unfold Ie;split<;>simp
theorem TI(q:QM)(rows others:List AU):(Ig q rows others).length<=2*rows.length:=by
 induction rows with
 |nil=>simp [Ig]
 |cons r rows ih=>
  have:=qE q others r;unfold Ig at*;rw [HH,B7,DE];omega
variable{vo:Value}
set_option maxHeartbeats 1000000 in
theorem ZB(hv:E8 M v rows)(ho:E8 M vo others)(q:QM)(ic:0<=q.bq/\q.bq<=3)(hb:rows.length<=100000000000):Ba prog 227 #[.agg q.A17,v,vo] [M] (fun r H'=>∃s,Bc 5 83 r (Ig q rows others).length (Ae (Ig q rows others)) s/\H'=[s,M]):=by
 have sJ:=mL;obtain ⟨p,cap,rfl,⟨hl,sj⟩,hg⟩:=id hv;obtain ⟨po,p9,rfl,⟨sw,pg⟩,j5⟩:=id ho;refine Se func227 ntmps227 [0,1,2] ?_;intro u R;refine A0<|Ze (Bx #[_,_,_,_,_,_,_])<|AD fun bq=>A3 Y<|A0<|Ze (DR)<|AD fun mb=>A3 Y<|Zq<|A0<|Zm Y<|Zv (Ab B6 Y)<|Zm Y<|A4<|AP<|Zb [19,1,3,6,7,17,18] ?_;refine BB (e0:=[(19,_)]) (fun m e H=>∃(i:Nat) (es:Array MapEntry) (ck:Nat) (lm:List (Int×Value)),m=others.length -i/\(i<=others.length/\Cj (fun k:Int=>I4 k) es ck lm/\U9 q (others.take i) lm)/\e=[(19,I4 (i:Int))]/\H=[[(mb,.map es ck)]]) (by exact ⟨0,#[],0,[],V,⟨C0 _,ER _,fun k=>rfl⟩,V,V⟩) Wp ?_;rintro _ _ _ ⟨i,es,ck,lm,rfl,⟨hi,W,U⟩,rfl,rfl⟩;refine A0<|Zv (Au Y Y)<|A4<|Zq<|Av Y (fun G=>?_) (fun G=>?_)
 ·
  obtain ⟨x,hx⟩:∃x,others[i]?=some x:=⟨_,B4 G⟩;obtain ⟨g1,qa,Z,T1,o8,rfl,kv,pz,ax⟩:=j5 i x hx;refine AC<|Zx<|Zq<|AP<|A0<|BX (Ad B6 AW Y Y A1)<|CO (cs:=[(g1,.cells Z T1 o8)]) (by simp [kv]) (AA (cs:=x.A16) CH AW Y A1 ax) V rfl ?_;refine Ze (Al DP #[_,_,_,_,_])<|AD fun bx=>Xe (Xw AW x.A16) ?_;refine A4<|Zq ?_;obtain ⟨y0,ek⟩:∃y,y=(DZ q (others.take i) x.k).getD ⟨0,0,⟨0,0,0⟩⟩:=⟨_,rfl⟩;refine Zg<|Zm Y<|Zh 1 Fi V rfl A5 Y<|Zl AE Y ?_;refine Zo Wh (Dy Hr underlying366 DP W (fun _ _=>trivial) (trivial) (VQ U x.k ek) Y Y) ?_;refine Zm Y<|Zd Y V<|Zd Y V<|Ze (Al DP #[_,_,_,_,_])<|AD fun bt=>Xe (Xw AW y0.A16) ?_;refine AG Y<|Zn [1,3,6,7,9,11,17,18,19] ?_;refine Zx<|Zq ?_;obtain ⟨y0,ek⟩:∃y,y=(DZ q (others.take i) x.k).getD ⟨0,0,⟨0,0,0⟩⟩:=⟨_,rfl⟩;refine Zg<|Zh 0 Fi V rfl A5 Y<|Zl AE Y ?_;refine Zh 6 C6 V rfl A5 Y<|Zl AE Y ?_;refine Zv (CP Y Y)<|Zm Y<|Ao (t:=35) Y V (fun h1=>?_) (fun h1=>?_)
  ·
   refine Zf Y Y<|Yg (Br Y)<|Zv (AX Y Y)<|A4<|AV Y (fun h2=>?_) (fun h2=>?_)
   ·
    refine Zg<|Zm Y<|Zh 1 Fi V rfl A5 Y<|Zl AE Y ?_;refine Zo Wh (AA (cs:=#[_,_,_,_,_]) CH AW Y As AM) ?_;refine Ze (F9 Hr underlying366 W (fun _ _=>trivial) (trivial) Y Y Y Wo) ?_;rintro _ _ ⟨rfl,qx,qw,l9,I,l8,rfl⟩;have gy:U9 q (others.take (i+1)) l9:=kK hx U h1 (by simpa using h2) W.keys I.keys l8
    refine Z0<|Zn [1,3,6,7,17,18,19] ?_;refine A8<|Zx<|Zg<|Ya (n:=1) Y Y<|Zm Y<|Z0<|Zn [19,1,3,6,7,17,18] ?_;refine Aa (e':=[(19,_)]) (by exact ⟨i+1,_,_,_,V,⟨by omega,I,gy⟩,V,V⟩)
   refine AC<|A8<|Zx<|Zg<|Ya (n:=1) Y Y<|Zm Y<|Z0<|Zn [19,1,3,6,7,17,18] ?_;refine Aa (e':=[(19,_)]) (by exact ⟨i+1,es,ck,lm,rfl,⟨by omega,W,Sj hx U (by first|exact .inl A1|exact .inr (by simpa using h2))⟩,rfl,rfl⟩)
  refine A7 Y V<|A7 Y V<|Zv (AL Y Y)<|A4<|D5 Y<|AC<|A8<|Zx<|Zg<|Ya (n:=1) Y Y<|Zm Y<|Z0<|Zn [19,1,3,6,7,17,18] ?_;refine Aa (e':=[(19,_)]) (by exact ⟨i+1,es,ck,lm,rfl,⟨by omega,W,Sj hx U (by first|exact .inl A1|exact .inr (by simpa using h2))⟩,rfl,rfl⟩)
 have ei:i=others.length:=by omega
 subst ei;rw [FF]at U;refine Ay<|Zt<|Zt<|AR<|Zx<|Zq<|A0<|Zo Wh (AA (cs:=#[_,_,_,_,_,_,_]) Dg C7 Y As AM) ?_;refine Zm Y<|Zc [_,_] Y call222 Y V (Ma hv q ic A1) ?_;rintro _ _ ⟨_,⟨sm,d9,rfl⟩,rfl⟩;obtain ⟨gm,cm,rfl⟩:=d9.form;refine Zv (Ab Cd Y)<|Zm Y<|A4<|AP<|BV ?_;have j3:FK sm gm ((Cq q rows).map ivQ):=Ko d9
 have pq:=K9 q rows;refine Zb [6,48,1,7,46,47] ?_;refine BB (e0:=[(6,_),(48,_)]) (fun m e H=>∃(i:Nat) (w:Value) (so:List A9),m=rows.length -i/\(i<=rows.length/\Bc 5 83 w (Ig q (rows.take i) others).length (Ae (Ig q (rows.take i) others)) so)/\e=[(6,w),(48,I4 (i:Int))]/\H=[so]) (by exact ⟨0,.slice none 0 0,[],rfl,⟨C0 _,by rw [HX];exact Bf 5 _⟩,rfl,rfl⟩) Wp ?_;rintro _ _ _ ⟨i,w,so,rfl,⟨hi,g⟩,rfl,rfl⟩;obtain ⟨qo,co,rfl⟩:=g.form;have r9:(Ig q (rows.take i) others).length<=2*i:=N1 (TI _ _ _) (by rw [C2];omega)
 refine A0<|Zv (Au Y Y)<|A4<|Zq<|Av Y (fun G=>?_) (fun G=>?_)
 ·
  obtain ⟨r,hr⟩:∃r,rows[i]?=some r:=⟨_,B4 A1⟩;obtain ⟨g2,gq,J,T2,o9,rfl,I,bn⟩:=j3 i (ivQ (Bl r q.bq)) (by rw [DH,wI hr];rfl);have cO:J[gq+i]?=some (I4 (Bl r q.bq)):=bn
  obtain ⟨X,O⟩:∃y,y=(DZ q others (Bl r q.bq)).getD ⟨0,0,⟨0,0,0⟩⟩:=⟨_,rfl⟩;refine AC<|Zx<|Zq<|AP<|A0<|Zm Y<|BX (CW Cd A5 Y Y de)<|CO (cs:=[(g2,.cells J T2 o9)]) (by simp [I]) (BO AE Y (by exact cO)) rfl rfl ?_;refine Za Y<|A3 Y<|A0<|Zm Y<|Zm Y<|Zo Wh (Dy Hr underlying366 DP W (fun _ _=>trivial) (trivial) (VQ U (Bl r q.bq) O) Y Y) ?_;refine Zm Y<|Zd Y V<|Zd Y V<|Ze (Al DP #[_,_,_,_,_])<|AD fun qj=>Xe (Xw AW X.A16) ?_;refine AG Y<|Zn [1,6,7,12,14,15,46,47,48] ?_;refine Zx<|A0<|Zm Y<|A4<|AV Y (fun h5=>?_) (fun h5=>?_)
  ·
   obtain ⟨g3,qb,af,T3,p8,rfl,l5,q9,cu⟩:=hg i r hr;refine Az (n:=9) (0::0::0::6::14::0::62::127::255::[]) 192 A6 A6 V<|A2 0 V (AQ Y)<|A2 1 V (AQ Y)<|A2 2 V (AQ Y)<|A2 3 V (Ad B6 AW Y Y A1)<|DI (b:=g3) (x:= .cells af T3 p8) (D':=31) 4 V rfl V (by simp [l5]) (AA (cs:=r.A16) CH AW Y A1 cu) ?_;refine E6 5 V Wh (AA (cs:=#[_,_,_,_,_]) CH AW Y As AM) ?_;refine Yw 6 127 V (Ah (vs:=[_,_]) (cs:=[_,_,_,_,_,_,_,_,_,_]) B6 AW DP Y V rfl V rfl V)<|AD fun gb=>Yw 7 255 V (BQ (by_:=40) (sz:=5) B6 (V:Tryz.prog.info? 83=some Tryz.t83) V rfl V rfl Y (g) Y (DJ 5 gb 2 2 83 (0,0) [I4 r.t,I4 r.k,I4 r.v.a,I4 r.v.b,I4 r.v.c,I4 X.t,I4 X.k,I4 X.v.a,I4 X.v.b,I4 X.v.c] V) Wo Wo Fm A1 A1) ?_;rintro _ _ ⟨sM,K,rfl⟩;obtain ⟨qz,ql,rfl⟩:=K.form;refine A2 8 V (Aw Y)<|Ai<|A8<|Zx<|Zg<|Ya (n:=1) Y Y<|Zm Y<|Z0<|Zn [6,48,1,7,46,47] ?_;refine Aa (e':=[(6,_),(48,_)]) (by exact ⟨i+1,_,_,rfl,⟨by omega,BR K (by rw [QA hr,VR (VO O h5),B7];rfl) (by rw [QA hr,VR (VO O h5),Bi];rfl)⟩,rfl,rfl⟩)
  refine AC<|A8<|Zx<|Zg<|Ya (n:=1) Y Y<|Zm Y<|Z0<|Zn [6,48,1,7,46,47] ?_;refine Aa (e':=[(6,_),(48,_)]) (by exact ⟨i+1,_,so,rfl,⟨by omega,by rw [QA hr,kL (pB.1 (by simpa using h5)),Cp];exact g⟩,rfl,rfl⟩)
 have ei:i=rows.length:=by omega
 subst ei;rw [FF]at g⊢;refine Ay<|Zt<|Zt<|AR<|Zx<|A0<|Zm Y<|A3 Y<|AJ<|AO V results227 Y (by exact ⟨so,g,V⟩)
def IP(q:QM)(rows others:List AU):CF:=if BI q then FN q rows others else CF.none
theorem yB(h:¬BI q):IP q rows others=⟨[],0,false⟩:=AH h
theorem P8(h:BI q):IP q rows others=FN q rows others:=AK h
theorem oc(h:BI q)(k:q.kd=3):IP q rows others=⟨[],rows.length,false⟩:=by rw [P8 h];unfold FN;rw [AK k]
theorem oY(h:BI q)(k:q.kd=4):IP q rows others=⟨[],LK (Cq q rows),false⟩:=by rw [P8 h];unfold FN;rw [AH A1,AK k]
theorem oX(h:BI q)(k:q.kd=5):IP q rows others=ES (fun a b=>decide (a<b)) (Cq q rows):=by rw [P8 h];unfold FN;rw [AH A1,AH A1,AK k]
theorem oT(h:BI q)(k:q.kd=6):IP q rows others=ES (fun a b=>decide (b<a)) (Cq q rows):=by rw [P8 h];unfold FN;rw [AH A1,AH A1,AH A1,AK k]
theorem oS(h:BI q)(k:q.kd=7):IP q rows others=⟨Ig q rows others,0,false⟩:=by rw [P8 h];unfold FN;rw [AH A1,AH A1,AH A1,AH A1,AK k]
theorem od(h:BI q)(g:¬q.kd=3)(m:¬q.kd=4)(G:¬q.kd=5)(I:¬q.kd=6)(J:¬q.kd=7):IP q rows others=⟨rows,0,false⟩:=by rw [P8 h];unfold FN;rw [AH g,AH m,AH G,AH I,AH J]
theorem jY{x:Int}(h:ms[i]?=some x):LK (ms.take (i+1))=LK (ms.take i)+x:=by unfold LK;rw [Bh h,X2];rfl
theorem Re(B:Int):∀(ms:List Int),(∀m∈ms,-B<=m/\m<=B)->-(ms.length*B)<=Jj ms/\Jj ms<=ms.length*B
 |[],_=>by simp [Jj]
 |m::ms,h=>by
  have G:=h m B0;have h2:=Re B ms (fun y g=>h y (E3 _ g))
  have I:((m::ms).length:Int)*B=ms.length*B+B:=by rw [DE];push_cast;rw [Int.add_mul,Int.one_mul]
  simp only [Jj];omega
theorem iG(h:∀m∈ms,-1000000000<=m/\m<=1000000000)(I:ms.length<=1000000000)(i:Nat):-1000000000000000000<=LK (ms.take i)/\LK (ms.take i)<=1000000000000000000:=by
 have G:=Re 1000000000 (ms.take i) (fun m g=>h m (Nd g));have h2:(ms.take i).length<=1000000000:=by rw [C2];omega
 unfold LK;rw [Mf];omega
theorem mW{lt:Int->Int->Bool}{x:Int}(h:ms[i]?=some x):ES lt (ms.take (i+1))=⟨(ES lt (ms.take i)).rows,if !(ES lt (ms.take i)).fnd||lt x (ES lt (ms.take i)).val then x else(ES lt (ms.take i)).val,true⟩:=by unfold ES;rw [Bh h,X2];rfl
theorem Vq(lt:Int->Int->Bool)(ms:List Int):∀r:CF,(ms.foldl (fun r n=>⟨r.rows,if !r.fnd||lt n r.val then n else r.val,true⟩:CF->Int->CF) r).rows=r.rows:=by
 induction ms with
 |nil=>intro r;rfl
 |cons m ms ih=>intro r;rw [TO,ih]
theorem fu(hv:E8 M v rows)(G:rows.length<=1000000000):BJ prog 219 #[v,.agg #[.slice none 0 0,I4 0,.bool false],.func (.func 220) #[] #[]] [M] (.agg #[.slice none 0 0,I4 (rows.length:Int),.bool false]):=
 fP hv (fun i=>((i:Int),false)) rfl 220 [] call220 (fun i r m=>by
  have g:=(BE.1 m).1;have:=fM (i:Int) false r A1
  exact Qm this)
theorem oF(hc:FK s p (ms.map ivQ))(K:ms.length<=1000000000)(g:ms.length<=cap)(G:∀m∈ms,-1000000000<=m/\m<=1000000000):BJ prog 221 #[.slice p ms.length cap,.agg #[.slice none 0 0,I4 0,.bool false],.func (.func 223) #[] #[]] [s] (.agg #[.slice none 0 0,I4 (LK ms),.bool false]):=by
 have O:=mL;have h:=TZ hc A1 g (fun i=>(LK (ms.take i),false)) rfl 223 [] call223 (fun i x I=>by
  have U:=iG G K i;have h2:=G x (DG I)
  have J:=fK (LK (ms.take i)) x false A1;show BJ _ _ _ _ (.agg #[.slice none 0 0,I4 (LK (ms.take (i+1))),.bool false])
  rw [jY I];exact Qm J)
 rwa [FF]at h
theorem aJ(hc:FK s p (ms.map ivQ))(Z:ms.length<=1000000000)(I:ms.length<=cap)(b m:Nat)(lt:Int->Int->Bool)(G:∀(args:Array Value) (w:World),(callFunc m args).run prog w= .ok (.enter m args) w)(J:∀x y:Int,BJ prog m #[I4 x,I4 y] [] (.bool (lt x y))):BJ prog 221 #[.slice p ms.length cap,.agg #[.slice none 0 0,I4 0,.bool false],.func (.func 272) #[] #[I5 b]] [s,[(b,.cells #[.func (.func m) #[] #[]] 73 (0,0))]] (.agg #[.slice none 0 0,I4 (ES lt ms).val,.bool (ES lt ms).fnd]):=by
 have U:=mL;refine mo ?_;have h:=TZ (M:=s++[(b,.cells #[.func (.func m) #[] #[]] 73 (0,0))]) (ms:=ms) (p:=p) (fun j u W=>by
  obtain ⟨g,o,c,T,z,K,h2,O⟩:=hc j u W;exact ⟨g,o,c,T,z,K,DS _ h2,O⟩) A1 I (fun i=>((ES lt (ms.take i)).val,(ES lt (ms.take i)).fnd)) V 272 [I5 b] call272 (fun i x X=>by
  show BJ _ _ _ _ (.agg #[.slice none 0 0,I4 (ES lt (ms.take (i+1))).val,.bool (ES lt (ms.take (i+1))).fnd]);rw [mW X];exact aO (mX (ES lt (ms.take i)).val x (ES lt (ms.take i)).fnd b m lt G J))
 rwa [FF]at h
theorem iZ(h:∀r∈rows,-1000000000<=Bl r q.bq/\Bl r q.bq<=1000000000):∀m∈Cq q rows,-1000000000<=m/\m<=1000000000:=by
 intro m g;obtain ⟨r,G,rfl⟩:=Bk.1 g;exact h r G
set_option maxHeartbeats 1000000 in
theorem mH(hv:E8 M v rows)(ho:E8 M vo others)(q:QM)(hb:rows.length<=1000000000)(hm:BI q->∀r∈rows,-1000000000<=Bl r q.bq/\Bl r q.bq<=1000000000):Ba prog 161 #[.agg q.A17,v,vo] [M] (fun w H'=>∃rv s,w= .agg #[rv,I4 (IP q rows others).val,.bool (IP q rows others).fnd]/\Bc 5 83 rv (IP q rows others).rows.length (Ae (IP q rows others).rows) s/\H'=[s,M]):=by
 have ax:=mL;refine Se func161 ntmps161 [0,1,2] ?_;intro u R;refine A0<|Ze (Bx #[_,_,_,_,_,_,_])<|AD fun bq=>Ze (Al G4 #[_,_,_])<|AD fun br=>A4<|Zq<|A0<|Zo Wh (AA (cs:=#[_,_,_,_,_,_,_]) Dg C7 Y As AM) ?_;refine Xr [_] Y call34 Y V (JW q) ?_;refine Zv (DD Y)<|A4<|AV Y (fun hq=>?_) (fun hq=>?_)
 ·
  have g:¬BI q:=by simpa using hq
  refine Zq<|BV<|Zg<|Zv (BK (vs:=[]) (cs:=#[_,_,_]) Y (AY (pl:=#[(0,1),(1,1),(2,1)]) G4 CC (fun _=>by kernel_rfl) V))<|Xe (Xw Ax _) ?_;refine A4<|AJ<|Zt<|Ct rfl cn Y Wh (Ak Bm Ax Wn (rfl)) (by exact ⟨.slice none 0 0,[],by rw [yB g];rfl,by rw [yB g];exact Bf 5 _,rfl⟩)
 have g:BI q:=by simpa using hq
 have G:0<=q.bq/\q.bq<=3:=by have:=g.2.2.2;omega
 have af:=iZ (hm g);refine AC<|Zx<|A0<|Ze (Al G4 #[_,_,_])<|AD fun bn=>A4<|Zq<|A0<|Zh 0 C6 V rfl A5 Y<|Zl AE Y ?_;refine A4<|AP<|A0<|Zv (CP Y Y)<|A3 Y<|Av Y (fun W=>?_) (fun W=>?_)
 ·
  refine Zq<|BV<|Zg<|Zm Y<|Zo Wh (Pa #[_,_,_] Bm Ax Y) ?_;refine Xr [_,_,_] Y call219 Y V (fu hv hb) ?_;refine Xe (Xw Ax _) ?_;refine Z0<|Zn [6] ?_;refine Zx<|AJ<|Ac<|Zt<|Ct rfl cn Y Wh (Ak Bm Ax Wn (rfl)) (by exact ⟨.slice none 0 0,[],by rw [oc g W];rfl,by rw [oc g W];exact Bf 5 _,rfl⟩)
 refine A0<|Zv (CP Y Y)<|A3 Y<|Av Y (fun X=>?_) (fun X=>?_)
 ·
  refine Zq<|BV<|Az (n:=6) (0::0::3::0::15::31::[]) 52 A6 A6 V<|E6 0 V Wh (AA (cs:=#[_,_,_,_,_,_,_]) Dg C7 Y As AM) ?_;refine A2 1 V (AQ Y)<|E6 3 V Wh (Pa #[_,_,_] Bm Ax Y) ?_;refine Zz (l:=[2])<|B1 [true,false] [(3,(_,_))] V rfl (Zw [_,_] Y call222 Y V (Ma hv q G A1)) ?_ Bv Ag;rintro _ _ ⟨_,⟨sm,m,rfl⟩,rfl⟩;refine ⟨Zk (AZ),?_⟩;obtain ⟨U,cm,rfl⟩:=m.form;have I:FK sm U ((Cq q rows).map ivQ):=Ko m
  have O:=K9 q rows;have K:=Es m
  refine Yw 4 31 V (Zu [_,_,_] Y call221 Y V (oF I A1 A1 af))<|CM<|Yw 5 63 V (Xw Ax _)<|CM<|Ai<|Zn [6] ?_;refine Zx<|AJ<|Ac<|Zt<|Ct rfl cn Y Wh (Ak Bm Ax Wn (rfl)) (by exact ⟨.slice none 0 0,[],by rw [oY g X];rfl,by rw [oY g X];exact Bf 5 _,rfl⟩)
 refine A0<|Zv (CP Y Y)<|AG Y<|Zn [1,2,3,6,7,13,26] ?_;refine Zx<|Av Y (fun Z=>?_) (fun Z=>?_)
 ·
  refine Zq<|BV<|Az (n:=7) (0::0::3::0::7::31::63::[]) 116 A6 A6 V<|E6 0 V Wh (AA (cs:=#[_,_,_,_,_,_,_]) Dg C7 Y As AM) ?_;refine A2 1 V (AQ Y)<|E6 3 V Wh (Pa #[_,_,_] Bm Ax Y) ?_;refine Zz (l:=[2])<|B1 [true,false] [(3,(_,_))] V rfl (Zw [_,_] Y call222 Y V (Ma hv q G A1)) ?_ Bv Ag;rintro _ _ ⟨_,⟨sm,m,rfl⟩,rfl⟩;refine ⟨Zk (AZ),?_⟩;obtain ⟨U,cm,rfl⟩:=m.form;have I:FK sm U ((Cq q rows).map ivQ):=Ko m
  have O:=K9 q rows;have K:=Es m
  refine Zz (l:=[4])<|B1 [true] [(3,(_,_))] V rfl (Zw [_] Y call224 Y V (NH (.func (.func 225) #[] #[]) V rfl)) ?_ Bv Ag;rintro _ _ ⟨_,⟨b9,rfl,rfl⟩,rfl⟩;refine B5<|Yw 5 63 V (Zu [_,_,_] Y call221 Y V (aJ I A1 A1 b9 225 _ call225 fJ))<|CM<|Yw 6 127 V (Xw Ax _)<|CM<|Ai<|Zx<|AJ<|Ac<|Zt<|Ct V cn Y Wh (Ak Bm Ax Wn (V)) (by
   have e8:=Vq (fun a b=>decide (a<b)) (Cq q rows) CF.none;exact ⟨.slice none 0 0,[],by rw [oX g Z];rfl,by rw [oX g Z];rw [show(ES (fun a b=>decide (a<b)) (Cq q rows)).rows=[] from e8];exact Bf 5 _,rfl⟩)
 refine A0<|Zv (CP Y Y)<|A3 Y<|Av Y (fun k6=>?_) (fun k6=>?_)
 ·
  refine Zq<|BV<|Az (n:=7) (0::0::3::0::7::31::63::[]) 116 A6 A6 V<|E6 0 V Wh (AA (cs:=#[_,_,_,_,_,_,_]) Dg C7 Y As AM) ?_;refine A2 1 V (AQ Y)<|E6 3 V Wh (Pa #[_,_,_] Bm Ax Y) ?_;refine Zz (l:=[2])<|B1 [true,false] [(3,(_,_))] V rfl (Zw [_,_] Y call222 Y V (Ma hv q G A1)) ?_ Bv Ag;rintro _ _ ⟨_,⟨sm,m,rfl⟩,rfl⟩;refine ⟨Zk (AZ),?_⟩;obtain ⟨U,cm,rfl⟩:=m.form;have I:FK sm U ((Cq q rows).map ivQ):=Ko m
  have O:=K9 q rows;have K:=Es m
  refine Zz (l:=[4])<|B1 [true] [(3,(_,_))] V rfl (Zw [_] Y call224 Y V (NH (.func (.func 226) #[] #[]) V rfl)) ?_ Bv Ag;rintro _ _ ⟨_,⟨b9,rfl,rfl⟩,rfl⟩;refine B5<|Yw 5 63 V (Zu [_,_,_] Y call221 Y V (aJ I A1 A1 b9 226 _ call226 fI))<|CM<|Yw 6 127 V (Xw Ax _)<|CM<|Ai<|Zx<|AJ<|Ac<|Zt<|Ct V cn Y Wh (Ak Bm Ax Wn (V)) (by
   have e8:=Vq (fun a b=>decide (b<a)) (Cq q rows) CF.none;exact ⟨.slice none 0 0,[],by rw [oT g k6];rfl,by rw [oT g k6];rw [show(ES (fun a b=>decide (b<a)) (Cq q rows)).rows=[] from e8];exact Bf 5 _,rfl⟩)
 refine A0<|Zv (CP Y Y)<|A3 Y<|Av Y (fun k7=>?_) (fun k7=>?_)
 ·
  refine A0<|Zo Wh (AA (cs:=#[_,_,_,_,_,_,_]) Dg C7 Y As AM) ?_;refine Zm Y<|Zm Y<|Zc [_,_,_] Y call227 Y V (ZB hv ho q G A1) ?_;rintro _ _ ⟨_,⟨sj,J,rfl⟩,rfl⟩;obtain ⟨gj,cj,rfl⟩:=J.form;refine Zv (BK (vs:=[(0,_)]) (cs:=#[_,_,_]) Y (AY (pl:=#[(0,1),(1,1),(2,1)]) G4 CC (fun _=>by kernel_rfl) rfl))<|Xe (BM Ax Y Y (by(simp [Value.oneCell',Value.cells];done)) Wu AM E7 AN (by exact BA _)) ?_;refine A4<|AJ<|Ac<|Zt<|Ct rfl cn Y Wh (Ak Bm Ax Wn (rfl)) (by exact ⟨.slice gj _ cj,sj,by rw [oS g k7];rfl,by rw [oS g k7];exact J,rfl⟩)
 refine AC<|A8<|Zx<|A0<|Zm Y<|Zc [_] Y call109 Y V (Gd hv A1) ?_;rintro _ _ ⟨_,⟨sj,J,rfl⟩,rfl⟩;obtain ⟨gj,cj,rfl⟩:=J.form;refine Zv (BK (vs:=[(0,_)]) (cs:=#[_,_,_]) Y (AY (pl:=#[(0,1),(1,1),(2,1)]) G4 CC (fun _=>by kernel_rfl) rfl))<|Xe (BM Ax Y Y (by(simp [Value.oneCell',Value.cells];done)) Wu AM E7 AN (by exact BA _)) ?_;refine A4<|AJ<|Ct rfl cn Y Wh (Ak Bm Ax Wn (rfl)) (by exact ⟨.slice gj _ cj,sj,by rw [od g W X Z k6 k7];rfl,by rw [od g W X Z k6 k7];exact J,rfl⟩)
theorem WQ(h:r.ok)(c:Int):-1000000000<=Bl r c/\Bl r c<=1000000000:=by
 obtain ⟨⟨g,h2,m⟩,G,I⟩:=h;unfold inV at g h2 m;unfold Bl;split
 · omega
 · split
   · omega
   · split
     · omega
     · split<;>omega
variable{B:List A9}
theorem sU{A:List A9}(hv:E8 A v rows)(I:E8 B vo others)(q:QM)(m:rows.length<=1000000000)(G:BI q->∀r∈rows,-1000000000<=Bl r q.bq/\Bl r q.bq<=1000000000):Ba prog 161 #[.agg q.A17,v,vo] [A,B] (fun w H'=>∃g s,w= .agg #[g,I4 (IP q rows others).val,.bool (IP q rows others).fnd]/\Bc 5 83 g (IP q rows others).rows.length (Ae (IP q rows others).rows) s/\H'=[s,A,B]):=by
 refine Gs (mH (hv.mono (fun c hc=>DS B hc)) (I.mono (fun c hc=>G1 A hc)) q m G) B0 ?_;rintro r H' ⟨g,s,rfl,h,rfl⟩;exact ⟨_,⟨g,s,V,h,V⟩,by simp⟩
theorem jc(v:Value)(p:Int)(rs:List AU)(s:List A9)(hv:RA v p rs s)(t c lo hi:Int)(hc:0<=c/\c<=3):Ba prog 105 #[v,I4 t,I4 c,I4 lo,I4 hi] [s] (fun r H'=>∃g,Bc 5 83 r (Dm rs t c.toNat lo hi).length (Ae (Dm rs t c.toNat lo hi)) g/\H'=[g,s]):=by
 have h:=Y6 v p rs s hv t c.toNat lo hi A1;rwa [show((c.toNat:Nat):Int)=c by omega]at h
theorem SG{rs:List AU}{t:Int}{c:Nat}{lo hi:Int}:(Dm rs t c lo hi).length<=rs.length/\∀r∈Dm rs t c lo hi,r∈rs:=by
 have h:=EO rs t c lo hi;exact ⟨by rw [h.length_eq];exact Mu _ _,fun r g=>(F1.1 (h.mem_iff.1 g)).1⟩
def Jl(c:Chg)(x:AU):Bool:=decide (x.t=c.t)&&decide (x.k=c.k)
def KJ(q:QM)(y x:AU):Bool:=decide (Bl y q.cl<Bl x q.cl)||(decide (Bl x q.cl=Bl y q.cl)&&decide (y.k<x.k))
def R3(pd:AU->Bool)(rows:List AU)(y:AU):List AU:=rows.take ((rows.findIdx? pd).getD rows.length)++[y]++rows.drop ((rows.findIdx? pd).getD rows.length)
def Dx(q:QM)(c:Chg)(rows:List AU):List AU:=match afQ q c with
 |some y=>R3 (KJ q y) (rows.filter fun x=>!Jl c x) y
 |none=>rows.filter fun x=>!Jl c x
def GX(lt:Int->Int->Bool)(b a:Bool)(o n:Int)(r:CF):CF×Bool:=
 if b&&(!r.fnd||!lt r.val o)then(⟨r.rows,n,r.fnd⟩,(a&&r.fnd)&&!lt r.val n)
 else if a then(⟨r.rows,if !r.fnd||lt n r.val then n else r.val,true⟩,true)else(r,true)
theorem ru(g:AU->Bool)(rows:List AU)(y:AU):(R3 g rows y).length=rows.length+1:=by
 unfold R3;simp only [B7,C2,C3,E0];omega
theorem UJ(q:QM)(c:Chg)(rows:List AU):(Dx q c rows).length<=rows.length+1:=by
 have h:=Mu (fun x=>!Jl c x) rows;unfold Dx;split
 · rw [ru];omega
 · omega
theorem Mg(lt:Int->Int->Bool)(b a:Bool)(o n:Int)(r:CF):(GX lt b a o n r).1.rows=r.rows:=by
 unfold GX;split
 · rfl
 · split<;>rfl
theorem fV{P:Program}{f:FuncId}{args:Array Value}{H:Hp}{Q:Value->Hp->Prop}(h:Ba P f args H Q)(F:Hp):Ba P f args (H++F) (fun v H'=>∃H1,Q v H1/\H'=H1++F):=fun u R w G=>
 Calls.mono (h u (F++R) w (by rw [<-CA];exact G)) fun e I m=>by
  rcases m with⟨v,H',rfl,g,h2⟩|⟨ch,H',rfl,g,h2⟩
  · exact .inl ⟨v,H'++F,rfl,⟨H',g,rfl⟩,by rw [CA];exact h2⟩
  · exact g.elim
theorem wy(g:AU->Bool)(rows:List AU):(R5 g rows<0/\(rows.findIdx? g).getD rows.length=rows.length)\/∃i:Nat,i<=rows.length/\R5 g rows=(i:Int)/\(rows.findIdx? g).getD rows.length=i:=by
 unfold R5;cases h:rows.findIdx? g with
 |none=>exact .inl ⟨by simp,rfl⟩
 |some i=>
  obtain ⟨m,_,_⟩:=Wf.1 h;exact .inr ⟨i,by omega,V,V⟩
theorem kJ(q:QM)(c:Chg)(G I:Option Addr)(o n:Int)(x:AU)(m:Nat):BJ prog 205 #[.agg x.A16,I5 m] [[(m,.cells (q.G0 c G I o n) 167 (0,0))]] (.bool (Jl c x)):=by
 refine Se func205 ntmps205 [0,1] ?_;intro u R;refine A0<|Ze (Bx #[_,_,_,_,_])<|AD fun J=>A3 Y<|A0<|Zh 0 Fi V rfl A5 Y<|Zl AE Y ?_;refine Zh 7 D3 V rfl C1 Y<|Zv (Aq (off:=0) B8 V rfl A5 Y)<|Zl AE Y ?_;refine Zv (CP Y Y)<|Zm Y<|Ao (t:=10) Y V (fun g=>?_) (fun g=>?_)
 ·
  refine Yf 1 Fi V rfl A5 Y<|Yl AE Y ?_;refine Yf 7 D3 V rfl C1 Y<|Yg (Aq (off:=1) B8 V rfl A5 Y)<|Yl AE Y ?_;refine Yg (CP Y Y)<|Zv (AX Y Y)<|AG Y<|Zn [3] ?_;refine Zx<|AJ<|AO V results205 Y (by exact ⟨by simp [Jl,g],V⟩)
 repeat refine A7 Y rfl ?_
 refine Zv (AL Y Y)<|AG Y<|Zn [3] ?_;refine Zx<|AJ<|AO V results205 Y (by exact ⟨by simp [Jl,g],V⟩)
theorem WM{A:List A9}(hv:E8 A v rows)(K:rows.length<=1000000000)(g:Nat)(us:List Value)(m:AU->Bool)(G:∀(args:Array Value) (w:World),(callFunc g args).run prog w= .ok (.enter g args) w)(J:∀x:AU,BJ prog g (.agg x.A16::us).toArray [B] (.bool (m x))):Ba prog 204 #[v,.func (.func g) #[] us.toArray] [A,B] (fun r H'=>∃s,Bc 5 83 r (rows.filter fun x=>!m x).length (Ae (rows.filter fun x=>!m x)) s/\H'=[s,A,B]):=by
 obtain ⟨p,cap,rfl,_⟩:=id hv;refine Se func204 ntmps204 [0,1] ?_;intro u R;refine A0<|A3 Y<|A0<|Zm Y<|Zc [_] Y call109 Y V (Gd hv A1) ?_;rintro _ _ ⟨_,⟨s1,I,rfl⟩,rfl⟩;obtain ⟨W,O,rfl⟩:=I.form;refine Zm Y<|Zc [_,_] Y call255 Y V (aR I K g us m G J) ?_;rintro _ _ ⟨_,⟨s2,h2,rfl⟩,rfl⟩;obtain ⟨X,U,rfl⟩:=h2.form;refine A3 Y<|AJ<|AO V results204 Y (by exact ⟨_,h2,V⟩)
theorem UU(G:Bc 5 83 v rows.length (Ae rows) s)(hn:rows.length<=1000000000)(y:AU)(g:Nat)(us:List Value)(I:AU->Bool)(U:∀(args:Array Value) (w:World),(callFunc g args).run prog w= .ok (.enter g args) w)(hf:∀x:AU,BJ prog g (.agg x.A16::us).toArray [B] (.bool (I x))):Ba prog 206 #[v,.agg y.A16,.func (.func g) #[] us.toArray] [s,B] (fun r H'=>∃X s2,Bc 5 83 r (R3 I rows y).length (Ae (R3 I rows y)) X/\H'=[X,s2,B]):=by
 have af:=mL;obtain ⟨p,cap,rfl⟩:=G.form;have hU:=DT G A1
 refine Se func206 ntmps206 [0,1,2] ?_;intro u R;refine A0<|Ze (Bx #[_,_,_,_,_])<|AD fun bx=>A3 Y<|A0<|Zm Y<|Zm Y<|Xr [_,_] Y call172 Y V (TQ hU g us I U hf) ?_;obtain ⟨z9,O⟩:∃z,z=R5 I rows:=⟨_,rfl⟩;rw [<-O];have m:=wy I rows
 rw [<-O]at m;refine A3 Y<|Zb [7,0,4] ?_;refine D7 (e0:=[(7,_)]) (H0:=[]) (fun e H=>∃(i:Nat),(i<=rows.length/\(rows.findIdx? I).getD rows.length=i)/\e=[(7,I4 (i:Int))]/\H=[]) Wp ?hx_1 ?hy_1
 case hx_1=>
  refine A0<|Zm Y<|Zv (Dq Y Y)<|A4<|Av Y (fun K=>?_) (fun K=>?_)
  ·
   refine Zg<|Zm Y<|Zv (Ab B6 Y)<|AG Y<|Zn [7,0,4] ?_;refine BL (e':=[(7,_)]) (by exact ⟨rows.length,⟨CT _,by rcases m with⟨_,h⟩|⟨i,h1,h2,J⟩;exact h;omega⟩,rfl,rfl⟩)
  rcases m with⟨h9,_⟩|⟨i,h1,h2,J⟩
  · exact absurd h9 K
  subst h2;refine AC<|Zn [7,0,4] ?_;refine BL (e':=[(7,_)]) (by exact ⟨i,⟨h1,J⟩,V,V⟩)
 rintro _ _ ⟨i,⟨hi,W⟩,rfl,rfl⟩;refine A0<|Zm Y<|Zm Y<|Zo Wh (Pa #[_,_,_,_,_] CH AW Y) ?_;refine Ze (Ah (vs:=[_]) (cs:=[_,_,_,_,_]) B6 AW DP Y V rfl V rfl V)<|AD fun Z=>Zc [_,_,_] Y call256 Y V (ZK G hn i hi y Z) ?_;rintro _ _ ⟨_,⟨s3,s4,J,rfl⟩,rfl⟩;obtain ⟨g3,c3,rfl⟩:=J.form;refine A3 Y<|AJ<|AO rfl results206 Y (by exact ⟨_,s4,by unfold R3;rw [W];exact J,rfl⟩)
theorem Xc(q:QM)(I:0<=q.cl/\q.cl<=3)(c:Chg)(J:Option Addr)(o n:Int)(y:AU)(g:Nat):Ba prog 207 #[.agg #[I4 q.kd,I4 q.tb,I4 q.cl,I4 q.lo,I4 q.hi,I4 q.bq,I4 q.ot,I4 c.t,I4 c.k,.bool c.had,I4 c.o.a,I4 c.o.b,I4 c.o.c,.bool c.has,I4 c.n.a,I4 c.n.b,I4 c.n.c,.pointer J,I5 g,I4 o,I4 n]] [[(g,.cells y.A16 83 (0,0))]] (fun r H'=>∃G m,r= .func (.func 257) #[] #[I5 G,I5 m]/\H'=[[(G,.cells #[I4 q.kd,I4 q.tb,I4 q.cl,I4 q.lo,I4 q.hi,I4 q.bq,I4 q.ot,I4 c.t,I4 c.k,.bool c.had,I4 c.o.a,I4 c.o.b,I4 c.o.c,.bool c.has,I4 c.n.a,I4 c.n.b,I4 c.n.c,.pointer J,I5 g,I4 o,I4 n] 167 (0,0))],[(m,.cells #[I4 (Bl y q.cl)] 3 (0,0))],[(g,.cells y.A16 83 (0,0))]]):=by
 refine Se func207 ntmps207 [0] ?_;intro u R;refine A0<|Ze (Eo Y (cs:=#[I4 q.kd,I4 q.tb,I4 q.cl,I4 q.lo,I4 q.hi,I4 q.bq,I4 q.ot,I4 c.t,I4 c.k,.bool c.had,I4 c.o.a,I4 c.o.b,I4 c.o.c,.bool c.has,I4 c.n.a,I4 c.n.b,I4 c.n.c,.pointer J,I5 g,I4 o,I4 n]) (G6 q c J (some ⟨g,0,none⟩) o n))<|AD fun G=>A3 Y<|Zq<|Az (n:=10) (0::1::3::7::0::16::48::127::0::511::[]) 896 A6 A6 V<|A2 0 V (AB (off:=18) D3 V rfl ID Y)<|B3 1 V Lo Y ?_;refine A2 2 V (Ap Y V)<|E6 3 V Wh (AA (cs:=#[_,_,_,_,_]) CH AW Y As AM) ?_;refine A2 4 V (AB (off:=0) D3 V rfl C7 Y)<|A2 5 V (Aq (off:=2) C6 V rfl A5 Y)<|B3 6 V AE Y ?_;refine Zz (l:=[7,8])<|B1 [false,false,false] [] V rfl (Zu [_,_] Y S7 Y V (Fs y q.cl I)) ?_ (fun _ _ h=>h.elim) ?_
 ·
  rintro _ _ ⟨rfl,rfl⟩;refine B5<|Yw 8 511 V (Al Gk #[_])<|AD fun m=>Yw 9 1023 V (Zs A5 Y Y V (hi:=by decide))<|CM<|Ai<|Zx<|A0<|Zv (Bg (vs:=[]) (us:=[_,_]) Y Y)<|AG Y<|Zn [2] ?_;refine Zx<|AJ<|AO V results207 Y (by exact ⟨G,m,V,V⟩)
 refine B1 [true,true,true] [(6,(_,_)),(3,(_,_)),(1,(_,_))] V rfl (Al Gk #[_]) ?_ (fun _ _ h=>h.elim) Ag;rintro _ _ ⟨m,rfl,rfl⟩;refine B5<|Yw 7 511 V (Zu [_,_] Y S7 Y V (Fs y q.cl I))<|CM<|Yw 9 1023 V (Zs A5 Y Y V (hi:=by decide))<|CM<|Ai<|Zx<|A0<|Zv (Bg (vs:=[]) (us:=[_,_]) Y Y)<|AG Y<|Zn [2] ?_;refine Zx<|AJ<|AO V results207 Y (by exact ⟨G,m,V,V⟩)
theorem nO(q:QM)(m:0<=q.cl/\q.cl<=3)(c:Chg)(K:Option Addr)(o n:Int)(y:AU)(G I J:Nat)(x:AU):BJ prog 257 #[.agg x.A16,I5 I,I5 J] [[(I,.cells #[I4 q.kd,I4 q.tb,I4 q.cl,I4 q.lo,I4 q.hi,I4 q.bq,I4 q.ot,I4 c.t,I4 c.k,.bool c.had,I4 c.o.a,I4 c.o.b,I4 c.o.c,.bool c.has,I4 c.n.a,I4 c.n.b,I4 c.n.c,.pointer K,I5 G,I4 o,I4 n] 167 (0,0))],[(J,.cells #[I4 (Bl y q.cl)] 3 (0,0))],[(G,.cells y.A16 83 (0,0))]] (.bool (KJ q y x)):=by
 refine Se func257 ntmps257 [0,1,2] ?_;intro u R;refine A0<|Ze (Bx #[_,_,_,_,_])<|AD fun O=>A3 Y<|A0<|Zo Wh (AA (cs:=#[_,_,_,_,_]) CH AW Y As AM) ?_;refine Zh 0 D3 V rfl C7 Y<|Zv (Aq (off:=2) C6 V rfl A5 Y)<|Zl AE Y ?_;refine Xr [_,_] Y S7 Y V (Fs x q.cl m) ?_;refine A3 Y<|Zq<|Az (n:=19) (0::0::3::7::15::15::63::127::255::511::255::1279::3327::7423::15615::32767::65535::131071::262143::[]) 0 A6 A6 V<|A2 0 V (AQ Y)<|B3 1 V AE Y ?_;refine A2 2 V (Ep Y Y)<|A2 3 V (AQ Y)<|Db (t:=14) Y (fun g=>?_) (fun g=>?_)
 ·
  rw [DA g];refine AF 4 V<|AF 5 V<|AF 6 V<|AF 7 V<|AF 8 V<|AF 9 V<|AF 10 V<|AF 11 V<|AF 12 V<|AF 13 V<|AF 14 V<|AF 15 V<|AF 16 V<|A2 17 V (AX Y Y)<|A2 18 V (Aw Y)<|Ai<|Zn [4] ?_;refine Zx<|AJ<|AO V results257 Y (by exact ⟨by simp [KJ, *],V⟩)
 rw [CI g];refine An 4 V (AQ Y)<|DQ 5 V Wh (BO AE Y AM) ?_;refine An 6 V (CP Y Y)<|An 7 V (AQ Y)<|Db (t:=18) Y (fun h2=>?_) (fun h2=>?_)
 ·
  rw [DA h2];refine An 8 V (AB (off:=1) Fi V rfl A5 Y)<|DQ 9 V Wh (BO AE Y AM) ?_;refine An 10 V (AB (off:=18) D3 V rfl ID Y)<|DQ 11 V Wh (BO Lo Y AM) ?_;refine An 12 V (Ap Y V)<|An 13 V (AB (off:=1) Fi V rfl A5 Y)<|DQ 14 V Wh (BO AE Y AM) ?_;refine An 15 V (Ep Y Y)<|An 16 V (AX Y Y)<|A2 17 V (AL Y Y)<|A2 18 V (Aw Y)<|Ai<|Zn [4] ?_;refine Zx<|AJ<|AO V results257 Y (by exact ⟨by simp [KJ, *],V⟩)
 rw [CI h2];refine AF 8 V<|AF 9 V<|AF 10 V<|AF 11 V<|AF 12 V<|AF 13 V<|AF 14 V<|AF 15 V<|An 16 V (AL Y Y)<|A2 17 V (AL Y Y)<|A2 18 V (Aw Y)<|Ai<|Zn [4] ?_;refine Zx<|AJ<|AO V results257 Y (by exact ⟨by simp [KJ, *],V⟩)
theorem Qs(q:QM)(I:0<=q.cl/\q.cl<=3)(c:Chg)(J:Option Addr)(o n:Int)(y:AU)(g:Nat):Ba prog 207 #[.agg #[I4 q.kd,I4 q.tb,I4 q.cl,I4 q.lo,I4 q.hi,I4 q.bq,I4 q.ot,I4 c.t,I4 c.k,.bool c.had,I4 c.o.a,I4 c.o.b,I4 c.o.c,.bool c.has,I4 c.n.a,I4 c.n.b,I4 c.n.c,.pointer J,I5 g,I4 o,I4 n]] [[(g,.cells y.A16 83 (0,0))]] (fun r H'=>∃m G,r= .func (.func 257) #[] ([I5 m,I5 G]:List Value).toArray/\H'=[[(m,.cells #[I4 q.kd,I4 q.tb,I4 q.cl,I4 q.lo,I4 q.hi,I4 q.bq,I4 q.ot,I4 c.t,I4 c.k,.bool c.had,I4 c.o.a,I4 c.o.b,I4 c.o.c,.bool c.has,I4 c.n.a,I4 c.n.b,I4 c.n.c,.pointer J,I5 g,I4 o,I4 n] 167 (0,0))]++[(G,.cells #[I4 (Bl y q.cl)] 3 (0,0))]++[(g,.cells y.A16 83 (0,0))]]):=by
 refine Gs (Xc q I c J o n y g) V ?_;rintro r H' ⟨m,G,rfl,rfl⟩;exact ⟨_,⟨m,G,V,V⟩,by simp⟩
theorem ae(q:QM)(I:0<=q.cl/\q.cl<=3)(c:Chg)(J:Option Addr)(o n:Int)(y:AU)(g m G:Nat)(x:AU):BJ prog 257 (.agg x.A16::([I5 m,I5 G]:List Value)).toArray [[(m,.cells #[I4 q.kd,I4 q.tb,I4 q.cl,I4 q.lo,I4 q.hi,I4 q.bq,I4 q.ot,I4 c.t,I4 c.k,.bool c.had,I4 c.o.a,I4 c.o.b,I4 c.o.c,.bool c.has,I4 c.n.a,I4 c.n.b,I4 c.n.c,.pointer J,I5 g,I4 o,I4 n] 167 (0,0))]++[(G,.cells #[I4 (Bl y q.cl)] 3 (0,0))]++[(g,.cells y.A16 83 (0,0))]] (.bool (KJ q y x)):=by
 refine Gs (nO q I c J o n y g m G x) V ?_;rintro r H' ⟨rfl,rfl⟩;exact ⟨_,⟨V,V⟩,by simp⟩
set_option maxHeartbeats 1000000 in
theorem dJ(q:QM)(c:Chg)(g m:Option Addr)(o n:Int)(G:0<=q.cl/\q.cl<=3){r:CF}{rv:Value}{sr:List A9}(hr:Bc 5 83 rv r.rows.length (Ae r.rows) sr)(hn:r.rows.length<=100000000){s2:List A9}(h2:Ib m (afQ q c) s2):Ba prog 127 #[.agg (q.G0 c g m o n),.agg #[rv,I4 r.val,.bool r.fnd]] [sr,s2] (fun w H'=>∃I s',w= .tuple #[.agg #[I,I4 r.val,.bool r.fnd],.bool true]/\Bc 5 83 I (Dx q c r.rows).length (Ae (Dx q c r.rows)) s'/\H'=[s']):=by
 have ax:=mL;obtain ⟨pv,cv,rfl⟩:=hr.form;have hU:=DT hr A1
 have af:(r.rows.filter fun x=>!Jl c x).length<=r.rows.length:=Mu _ _;refine Se func127 ntmps127 [0,1] ?_;intro u R;refine A0<|Ze (Eo Y (cs:=(q.G0 c g m o n)) (G6 q c g m o n))<|AD fun U=>Ze (Bx #[.slice pv r.rows.length cv,I4 r.val,.bool r.fnd])<|AD fun br=>Ze (Al G4 #[_,_,_])<|AD fun b3=>A3 Y<|A0<|Zh 0 CC V rfl C5 Y<|Zl Fl Y ?_;refine Zv (Bg (vs:=[]) (us:=[_]) Y Y)<|Zc [_,_] Y call204 Y V (WM (B:=[(U,.cells (q.G0 c g m o n) 167 (0,0))]) hU A1 205 [I5 U] (Jl c) call205 (fun x=>kJ q c g m o n x U)) ?_;rintro _ _ ⟨_,⟨s3,W,rfl⟩,rfl⟩;obtain ⟨g3,c3,rfl⟩:=W.form;refine Zh 0 CC V rfl C5 Y<|Xe (Zs C5 Y Y V (hi:=by(simp;done))) ?_;refine A4<|Zb [2,3,4] ?_;refine D7 (e0:=[(2,_)]) (H0:=[[(br,.cells #[.slice g3 (r.rows.filter fun x=>!Jl c x).length c3,I4 r.val,.bool r.fnd] 53 (0,0))],s3,s2]) (fun e H=>∃(w:Value) (K:List A9),(Bc 5 83 w (Dx q c r.rows).length (Ae (Dx q c r.rows)) K)/\e=[]/\H=[[(br,.cells #[w,I4 r.val,.bool r.fnd] 53 (0,0))],K]) Wp ?hx_1 ?hy_1
 case hx_1=>
  refine A0<|Zh 18 D3 V rfl ID Y<|Zl Lo Y ?_;refine Zv (El S1 Y Y)<|A4<|AV Y (fun X=>?_) (fun X=>?_)
  ·
   obtain ⟨y,J⟩:∃y,afQ q c=some y:=ff.1 (by rw [<-h2.some_];exact X);rw [J]at h2;obtain ⟨O,rfl,rfl⟩:=h2;refine Az (n:=11) (0::1::0::4::12::28::0::64::255::511::1023::[]) 1408 A6 A6 V<|A2 0 V (AB (off:=0) CC V rfl C5 Y)<|B3 1 V Fl Y ?_;refine A2 2 V (AB (off:=18) D3 V rfl ID Y)<|B3 3 V Lo Y ?_;refine A2 4 V (Ap Y V)<|DI (b:=O) (x:= .cells y.A16 83 (0,0)) (D':=63) 5 V rfl V B0 (Pa y.A16 CH AW Y) ?_;refine E6 6 V Wh (AA cD Wa Y As (by exact BN V)) ?_;refine Zz (l:=[7])<|B1 [false,true,true,true] [(5,(_,_)),(3,(_,_)),(1,(_,_))] V rfl (Zw [_] Y call207 Y V (Qs q G c g o n y O)) ?_ Bv Ag;rintro _ _ ⟨_,⟨Z,b9,rfl,rfl⟩,rfl⟩;refine ⟨FH (by simp [*]) (Zk (Zk (AZ))),?_⟩;refine Zz (l:=[8])<|B1 [false,false,false] [] V rfl (Zw [_,_,_] Y call206 Y V (UU W A1 y 257 [I5 Z,I5 b9] (KJ q y) call257 (fun x=>ae q G c g o n y O Z b9 x))) ?_ Bv Ag;rintro _ _ ⟨_,⟨s5,s6,h5,rfl⟩,rfl⟩;refine ⟨AZ,?_⟩;obtain ⟨g5,c5,rfl⟩:=h5.form;refine A2 9 V (AB (off:=0) CC V rfl C5 Y)<|Zz (l:=[10])<|B1 [] [] V rfl (Zs C5 Y Y V (hi:=by(simp;done))) ?_ (fun _ _ h=>h.elim) Ag;rintro _ _ ⟨rfl,rfl⟩;refine B5<|Ai<|Zn [3,4] ?_;refine BL (e':=[]) (by exact ⟨_,s5,by unfold Dx;rw [J];exact h5,rfl,rfl⟩)
  have J:afQ q c=none:=by have h9:=h2.some_;rw [X]at h9;exact pB.1 (by rw [<-h9];decide)
  refine AC<|Zn [3,4] ?_;refine BL (e':=[]) (by exact ⟨_,s3,by unfold Dx;rw [J];exact W,rfl,rfl⟩)
 rintro _ _ ⟨w,K,h4,rfl,rfl⟩;obtain ⟨p4,c4,rfl⟩:=h4.form;refine A0<|Zo Wh (AA (cs:=#[_,_,_]) Bm Ax Y As (by exact BN V)) ?_;refine Xe (BM Ax Y Y HR Wu (by exact EJ rfl) E7 AN (by exact BA _)) ?_;refine A3 Y<|AJ<|Bn V results127 Y Wh (Ak Bm Ax Wn (V)) Y (by exact ⟨_,K,V,h4,V⟩)
theorem YX(q:QM)(c:Chg)(J g:Option Addr)(o n:Int){r:CF}(K:Option Addr)(I m:Nat)(hv:-4000000000000000000<=r.val/\r.val<=4000000000000000000):BJ prog 129 #[.agg (q.G0 c J g o n),.agg #[.slice K I m,I4 r.val,.bool r.fnd]] [] (.tuple #[.agg #[.slice K I m,I4 (if g.isSome then r.val+1 else r.val -1),.bool r.fnd],.bool true]):=by
 refine Se func129 ntmps129 [0,1] ?_;intro u R;refine A0<|Ze (Eo Y (cs:=(q.G0 c J g o n)) (G6 q c J g o n))<|AD fun U=>Ze (Bx #[.slice K I m,I4 r.val,.bool r.fnd])<|AD fun W=>Ze (Al G4 #[_,_,_])<|AD fun O=>A3 Y<|Zq<|A0<|Zh 18 D3 V rfl ID Y<|Zl Lo Y ?_;refine Zv (El S1 Y Y)<|A4<|AV Y (fun G=>?_) (fun G=>?_)
 ·
  refine Zg<|Zh 1 CC V rfl A5 Y<|Zl AE Y ?_;refine Yi Y Y<|Zh 1 CC V rfl A5 Y<|Xe (Zs A5 Y Y V (hi:=by(simp;done))) ?_;refine A4<|A0<|Zo Wh (AA (cs:=#[_,_,_]) Bm Ax Y As AM) ?_;refine Xe (Xw Ax _) ?_;refine AG Y<|Zn [4,5] ?_;refine Zx<|AJ<|Bn rfl results129 Y Wh (Ak Bm Ax Wn (rfl)) Y (by exact ⟨by rw [G];rfl,rfl⟩)
 refine Zg<|Zh 1 CC V rfl A5 Y<|Zl AE Y ?_
 (refine BX (GG Y Y (IntWalk.i64_in _ ?_)) ?_;(focus (omega)))
 refine Zh 1 CC V rfl A5 Y<|Xe (Zs A5 Y Y V (hi:=by(simp;done))) ?_;refine A4<|A0<|Zo Wh (AA (cs:=#[_,_,_]) Bm Ax Y As AM) ?_;refine Xe (Xw Ax _) ?_;refine AG Y<|Zn [4,5] ?_;refine Zx<|AJ<|Bn rfl results129 Y Wh (Ak Bm Ax Wn (rfl)) Y (by exact ⟨by rw [G];rfl,rfl⟩)
theorem kF(q:QM)(c:Chg)(G I:Option Addr)(o n:Int){r:CF}(J:Option Addr)(m g:Nat)(hv:-4000000000000000000<=r.val/\r.val<=4000000000000000000)(W:(-1000000000<=o/\o<=1000000000)/\-1000000000<=n/\n<=1000000000):BJ prog 131 #[.agg (q.G0 c G I o n),.agg #[.slice J m g,I4 r.val,.bool r.fnd]] [] (.tuple #[.agg #[.slice J m g,I4 (r.val+(n -o)),.bool r.fnd],.bool true]):=by
 refine Se func131 ntmps131 [0,1] ?_;intro u R;refine A0<|Ze (Eo Y (cs:=(q.G0 c G I o n)) (G6 q c G I o n))<|AD fun O=>Ze (Bx #[.slice J m g,I4 r.val,.bool r.fnd])<|AD fun U=>Ze (Al G4 #[_,_,_])<|AD fun K=>A3 Y<|A0<|Zh 1 CC V rfl A5 Y<|Zl AE Y ?_;refine Zh 20 D3 V rfl A5 Y<|Zl AE Y ?_;refine Zh 19 D3 V rfl A5 Y<|Zl AE Y ?_
 (refine BX (GG Y Y (IntWalk.i64_in _ ?_)) ?_;(focus (omega)))
 refine Yi Y Y<|Zh 1 CC V rfl A5 Y<|Xe (Zs A5 Y Y V (hi:=by(simp;done))) ?_;refine Z0<|Zn [3,4] ?_;refine Zx<|A0<|Zo Wh (AA (cs:=#[_,_,_]) Bm Ax Y As AM) ?_;refine Xe (Xw Ax _) ?_;refine A3 Y<|AJ<|Bn V results131 Y Wh (Ak Bm Ax Wn (V)) Y (by exact ⟨V,V⟩)
end Go.Proofs.YteaiajghbkenoaaGreatDoor
