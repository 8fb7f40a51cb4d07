/- predicate.kinds, Touches. -/
import Derived.Test.YtfhjaegddfehhaaGreatDoorQe3
set_option linter.unusedVariables false
set_option linter.unusedSimpArgs false
namespace Go.Proofs.YtfhjaegddfehhaaGreatDoor
open Go.Proofs.Tryz
open Go Go.RowKit Gw
set_option maxRecDepth 100000
attribute [local irreducible] Gw.At Gw.Nx Gw.Ops
def M8(b5 b6:Nat):List (Int×Value):=[(1,.agg #[.func (.func 196) #[] #[],.func (.func 197) #[] #[]]),(2,.agg #[.func (.func 196) #[] #[],.func (.func 197) #[] #[]]),(3,.agg #[.func (.func 198) #[] #[],.func (.func 199) #[] #[]]),(4,.agg #[.func (.func 200) #[] #[],.func (.func 201) #[] #[]]),(5,.agg #[.func (.func 202) #[] #[],.func (.func 247) #[] #[I5 b5]]),(6,.agg #[.func (.func 205) #[] #[],.func (.func 247) #[] #[I5 b6]]),(7,.agg #[.func (.func 207) #[] #[],.func (.func 208) #[] #[]])]
variable{lm:List (Int×Value)}{k:Int}{v:Value}
theorem ZE{g m:Nat}(h:∀p,p∈lm↔p∈M8 g m)(hn:(lm.map (·.1)).Nodup)(G:(k,v)∈M8 g m):EI k lm=some v:=Cy hn ((h _).2 G)
def Hg(k:Int):Nat:=if k=1 then 196 else if k=2 then 196 else if k=3 then 198 else if k=4 then 200 else if k=5 then 202 else if k=6 then 205 else 207
theorem sU{g m:Nat}(h:∀p,p∈lm↔p∈M8 g m)(hn:(lm.map (·.1)).Nodup)(G:1<=k/\k<=7):∃pf,EI k lm=some (.agg #[.func (.func (Hg k)) #[] #[],pf]):=by
 obtain h9|h9|h9|h9|h9|h9|h9:k=1\/k=2\/k=3\/k=4\/k=5\/k=6\/k=7:=by omega
 all_goals subst h9
 all_goals exact ⟨_,ZE h hn (by simp [M8,Hg];rfl)⟩
theorem PM(v:Value)(g:v.oneCell'=true)(hc:v.cells=#[v]):Ba prog 203 #[v] [] (fun r H'=>∃b,r= .func (.func 247) #[] #[I5 b]/\H'=[[(b,.cells #[v] 222 (0,0))]]):=by
 refine Se func203 ntmps203 [0] ?_;intro u R;refine A0<|Ze (Eu Y (cs:=#[v]) hc)<|AE fun b=>A3 Y<|A0<|Zv (Bg (vs:=[]) (us:=[_]) Y Y)<|A3 Y<|AJ<|AO V results203 Y (by exact ⟨b,V,V⟩)
theorem Ns:Ba prog 143 #[] [] (fun v H'=>∃b es ck lm g m,v= .map (some b)/\Co (fun k:Int=>I4 k) es ck lm/\(∀p,p∈lm↔p∈M8 g m)/\H'=[[(b,.map es ck)],[(g,.cells #[.func (.func 204) #[] #[]] 222 (0,0))],[(m,.cells #[.func (.func 206) #[] #[]] 222 (0,0))]]):=by
 refine Se func143 ntmps143 [] ?_;intro u R;refine A0<|A3 Y<|A0<|Ze (DT)<|AE fun mb=>Zv (BM (vs:=[(0,.func (.func 196) #[] #[]),(1,.func (.func 197) #[] #[])]) (cs:=#[.func (.func 196) #[] #[],.func (.func 197) #[] #[]]) Y (AZ (pl:=#[(0,1),(1,1)]) Wa W7 (fun _=>by kernel_rfl) A6))<|Ze (EG I7 W8 (EU _) (fun _ _=>trivial) (trivial) Y Y Y Wo) ?_;rintro _ _ ⟨rfl,j3,gm,lw,J,af,rfl⟩;refine Zv (BM (vs:=[(0,.func (.func 196) #[] #[]),(1,.func (.func 197) #[] #[])]) (cs:=#[.func (.func 196) #[] #[],.func (.func 197) #[] #[]]) Y (AZ (pl:=#[(0,1),(1,1)]) Wa W7 (fun _=>by kernel_rfl) A6))<|Ze (EG I7 W8 J (fun _ _=>trivial) (trivial) Y Y Y Wo) ?_;rintro _ _ ⟨rfl,j5,gq,o8,K,ax,rfl⟩;refine Zv (BM (vs:=[(0,.func (.func 198) #[] #[]),(1,.func (.func 199) #[] #[])]) (cs:=#[.func (.func 198) #[] #[],.func (.func 199) #[] #[]]) Y (AZ (pl:=#[(0,1),(1,1)]) Wa W7 (fun _=>by kernel_rfl) A6))<|Ze (EG I7 W8 K (fun _ _=>trivial) (trivial) Y Y Y Wo) ?_;rintro _ _ ⟨rfl,kv,gy,o9,O,bg,rfl⟩;refine Zv (BM (vs:=[(0,.func (.func 200) #[] #[]),(1,.func (.func 201) #[] #[])]) (cs:=#[.func (.func 200) #[] #[],.func (.func 201) #[] #[]]) Y (AZ (pl:=#[(0,1),(1,1)]) Wa W7 (fun _=>by kernel_rfl) A6))<|Ze (EG I7 W8 O (fun _ _=>trivial) (trivial) Y Y Y Wo) ?_;rintro _ _ ⟨rfl,l5,gB,p8,U,bn,rfl⟩;refine Zc [_] Y call203 Y V (PM (.func (.func 204) #[] #[]) V rfl) ?_;rintro _ _ ⟨_,⟨g,rfl,rfl⟩,rfl⟩;refine Zv (BM (vs:=[(0,.func (.func 202) #[] #[]),(1,.func (.func 247) #[] #[I5 g])]) (cs:=#[.func (.func 202) #[] #[],.func (.func 247) #[] #[I5 g]]) Y (AZ (pl:=#[(0,1),(1,1)]) Wa W7 (fun _=>by kernel_rfl) A6))<|Ze (EG I7 W8 U (fun _ _=>trivial) (trivial) Y Y Y Wo) ?_;rintro _ _ ⟨rfl,l8,gF,p9,W,cu,rfl⟩;refine Zc [_] Y call203 Y V (PM (.func (.func 206) #[] #[]) V rfl) ?_;rintro _ _ ⟨_,⟨m,rfl,rfl⟩,rfl⟩
 refine Zv (BM (vs:=[(0,.func (.func 205) #[] #[]),(1,.func (.func 247) #[] #[I5 m])]) (cs:=#[.func (.func 205) #[] #[],.func (.func 247) #[] #[I5 m]]) Y (AZ (pl:=#[(0,1),(1,1)]) Wa W7 (fun _=>by kernel_rfl) A6))<|Ze (EG I7 W8 W (fun _ _=>trivial) (trivial) Y Y Y Wo) ?_;rintro _ _ ⟨rfl,l9,ic,pg,X,cO,rfl⟩;refine Zv (BM (vs:=[(0,.func (.func 207) #[] #[]),(1,.func (.func 208) #[] #[])]) (cs:=#[.func (.func 207) #[] #[],.func (.func 208) #[] #[]]) Y (AZ (pl:=#[(0,1),(1,1)]) Wa W7 (fun _=>by kernel_rfl) A6))<|Ze (EG I7 W8 X (fun _ _=>trivial) (trivial) Y Y Y Wo) ?_;rintro _ _ ⟨rfl,I,G,ek,Z,d9,rfl⟩;refine Zm Y<|AG Y<|Zn [0] ?_;refine Zx<|AJ<|AO V results143 Y (by
  refine ⟨mb,I,G,ek,g,m,V,Z,fun p=>?_,V⟩;rw [d9,cO,cu,bn,bg,ax,af];simp only [M8,D4,RW,RC,fz];constructor;· rintro (rfl|⟨rfl|⟨rfl|⟨rfl|⟨rfl|⟨rfl|⟨rfl,-⟩,-⟩,-⟩,-⟩,-⟩,-⟩)<;>simp
  · rintro (h|h|h|h|h|h|h)<;>subst h<;>simp)
theorem fJ(q:QM)(c:Chg)(Z:BJ q){g m:Option Addr}{s1 s2:List AA}(U:Il g (bfQ q c) s1)(h2:Il m (afQ q c) s2):BH prog (Hg q.kd) #[.agg (q.G4 c g m (mQ q (bfQ q c)) (mQ q (afQ q c)))] [] (.bool (Cq q c)):=by
 have e1:=U.some_;have e2:=h2.some_
 have X:q.kd=1\/q.kd=2\/q.kd=3\/q.kd=4\/q.kd=5\/q.kd=6\/q.kd=7:=by have:=Z.2.2.2;omega
 have G:=bC q c g m (mQ q (bfQ q c)) (mQ q (afQ q c));have O:=TI q c g m (mQ q (bfQ q c)) (mQ q (afQ q c))
 have W:=xQ q c g m (mQ q (bfQ q c)) (mQ q (afQ q c));have I:=xP q c g m (mQ q (bfQ q c)) (mQ q (afQ q c))
 have J:=xO q c g m (mQ q (bfQ q c)) (mQ q (afQ q c));have K:=xN q c g m (mQ q (bfQ q c)) (mQ q (afQ q c))
 rw [e1,e2]at G O I J K;rcases X with h|h|h|h|h|h|h
 · rw [show Hg q.kd=196 by rw [h];rfl,show Cq q c=O9 q c by unfold Cq;rw [AM A1]];exact G
 · rw [show Hg q.kd=196 by rw [h];rfl,show Cq q c=O9 q c by unfold Cq;rw [AM A1]];exact G
 · rw [show Hg q.kd=198 by rw [h];rfl,show Cq q c=Ub q c by unfold Cq;rw [AK A1,AM A1]];exact O
 · rw [show Hg q.kd=200 by rw [h];rfl,show Cq q c=decide (mQ q (bfQ q c)≠mQ q (afQ q c)) by unfold Cq;rw [AK A1,AK A1,AM A1]];exact W
 · rw [show Hg q.kd=202 by rw [h];rfl,show Cq q c=(Ub q c||decide (mQ q (bfQ q c)≠mQ q (afQ q c))) by unfold Cq;rw [AK A1,AK A1,AK A1,AM A1]];exact I
 · rw [show Hg q.kd=205 by rw [h];rfl,show Cq q c=(Ub q c||decide (mQ q (bfQ q c)≠mQ q (afQ q c))) by unfold Cq;rw [AK A1,AK A1,AK A1,AM A1]];exact J
 · rw [show Hg q.kd=207 by rw [h];rfl,show Cq q c=(O9 q c||decide (c.t=q.ot)) by unfold Cq;rw [AK A1,AK A1,AK A1,AK A1]];exact K
theorem mE(g:1<=k/\k<=7):∀(args:Array Value) (w:World),(callFunc (Hg k) args).run prog w= .ok (.enter (Hg k) args) w:=by
 obtain h|h|h|h|h|h|h:k=1\/k=2\/k=3\/k=4\/k=5\/k=6\/k=7:=by omega
 all_goals (subst h;simp only [Hg];first|exact call196|exact call198|exact call200|exact call202|exact call205|exact call207)
variable{q:QM}
theorem BJ.kind(h:BJ q):1<=q.kd/\q.kd<=7:=by have:=h.2.2.2;omega
theorem KZ(q:QM)(c:Chg):BH prog 91 #[.agg q.A59,.agg c.A57] [] (.bool (decide (BJ q)&&(decide c.ok&&Cq q c))):=by
 refine Se func91 ntmps91 [0,1] ?_;intro u R;refine A0<|Ze (Bx #[_,_,_,_,_,_,_])<|AE fun pq=>Ze (Bx #[_,_,_,_,_,_,_,_,_,_])<|AE fun pc=>A3 Y<|Zq<|Az (n:=18) (0::1::3::7::15::31::63::127::127::383::1023::2047::127::127::12543::32767::65535::131071::[]) 49298 A6 A6 V<|E7 0 V Wh (A9 (cs:=#[_,_,_,_,_,_,_]) Dd C7 Y As AN)<|Yw 1 3 V (Zu [_] Y call22 Y V (Jd q))<|CT<|A2 2 V (AP Y)<|CU (t:=7) Y (fun g=>?_) (fun g=>?_);·
  rw [g];refine DH 3 V Wh (A9 (cs:=#[_,_,_,_,_,_,_,_,_,_]) Fk C1 Y As AN)<|Yw 4 31 V (Zu [_] Y call88 Y V (V9 c))<|CT<|A2 5 V (AQ Y Y)<|A2 6 V (AP Y)<|CU (t:=11) Y (fun h2=>?_) (fun h2=>?_);·
   rw [h2];refine An 8 V (AB (off:=0) CC V rfl A4 Y)<|DH 9 V Wh (BP AD Y AN)<|DH 12 V Wh (A9 (cs:=#[_,_,_,_,_,_,_]) Dd C7 Y As AN)<|DH 13 V Wh (A9 (cs:=#[_,_,_,_,_,_,_,_,_,_]) Fk C1 Y As AN)<|Zz (l:=[7])<|B1 [true,true,true] [(13,(_,_)),(12,(_,_)),(9,(_,_))] V rfl (Zw [] Y call143 Y V (Ns)) ?_ Bv Ai;rintro _ _ ⟨_,⟨mb,es,ck,lm,U,W,rfl,K,O,rfl⟩,rfl⟩;refine ⟨Zk (Zk (Zk (Aa))),?_⟩;have G:BJ q:=Hb g
   obtain ⟨pf,m⟩:=sU O K.keys G.kind;refine DH 10 rfl Wh (De I7 W8 Wa K (fun _ _=>trivial) (trivial) ((by rw [m];exact rfl:_=Value.agg #[.func (.func (Hg q.kd)) #[] #[],pf])) Y Y)<|An 11 rfl (XD W7 rfl isAgg249 Y rfl)<|Zz (l:=[14])<|B1 [true,false,false,true] [(10,(_,_)),(9,(_,_))] rfl rfl (Zw [_,_] Y call144 Y rfl (Jk q G.2.1 (by have:=G.2.2.2;omega) c)) ?_ Bv Ai;rintro _ _ ⟨_,⟨X,Z,s1,s2,rfl,I,J,rfl⟩,rfl⟩;refine B6<|Yw 15 65535 V (Zu [_] Y (mE G.kind) Y V (fJ q c G I J))<|CT<|A2 16 V (AQ Y Y)<|A2 17 V (Av Y)<|Ag<|Zn [4] ?_;refine Zx<|AJ<|AO V results91 Y (by exact ⟨by simp [g,h2],V⟩)
  rw [h2];refine AF 7 V<|AF 8 V<|AF 9 V<|AF 10 V<|AF 11 V<|AF 12 V<|AF 13 V<|AF 14 V<|AF 15 V<|A2 16 V (AL Y Y)<|A2 17 V (Av Y)<|Ag<|Zn [4] ?_;refine Zx<|AJ<|AO V results91 Y (by exact ⟨by simp [g,h2],V⟩)
 rw [g];refine AF 3 V<|AF 4 V<|A2 5 V (AL Y Y)<|A2 6 V (AP Y)<|AF 7 V<|AF 8 V<|AF 9 V<|AF 10 V<|AF 11 V<|AF 12 V<|AF 13 V<|AF 14 V<|AF 15 V<|A2 16 V (AL Y Y)<|A2 17 V (Av Y)<|Ag<|Zn [4] ?_;refine Zx<|AJ<|AO V results91 Y (by exact ⟨by simp [g],V⟩)
def ivQ(n:Int):Value:=I4 n
theorem kI(e:TypeId)(g c:Nat)(z:Value)(h:c<=maxLen):Bc 1 e (I6 g 0 c) 0 [] [(g,.cells (List.replicate c z).toArray e (0,0))]:=⟨rfl,.inr ⟨g,c,_,(0,0),rfl,rfl,C0 _,h,by simp,by simp,BB _⟩⟩
variable{rows:List AV}{i:Nat}{r:AV}
theorem lW(h:rows[i]?=some r):Ct q (rows.take (i+1))=Ct q (rows.take i)++[Bn r q.bq]:=by
 unfold Ct;rw [Bi h,BW];rfl
theorem KI(q:QM)(rows:List AV):(Ct q rows).length=rows.length:=by unfold Ct;rw [B4]
theorem xC(h:rows[i]?=some r):(Ct q rows)[i]?=some (Bn r q.bq):=by unfold Ct;rw [DO,h];rfl
variable{M:List AA}
theorem gD(hv:Db M v rows){v0:Int}{U:Bool}(st:Nat->Int×Bool)(h0:st 0=(v0,U))(G:Nat)(us:List Value)(K:∀(args:Array Value) (w:World),(callFunc G args).run prog w= .ok (.enter G args) w)(hf:∀(i:Nat) (r:AV),rows[i]?=some r->BH prog G (.agg #[.slice none 0 0,I4 (st i).1,.bool (st i).2]:: .agg r.A58::us).toArray [M] (.agg #[.slice none 0 0,I4 (st (i+1)).1,.bool (st (i+1)).2])):BH prog 173 #[v,.agg #[.slice none 0 0,I4 v0,.bool U],.func (.func G) #[] us.toArray] [M] (.agg #[.slice none 0 0,I4 (st rows.length).1,.bool (st rows.length).2]):=by
 have ax:=mL;obtain ⟨p,cap,rfl,⟨hl,af⟩,hg⟩:=id hv;refine Se func173 ntmps173 [0,1,2] ?_;intro u R;refine A0<|Ze (Bx #[_,_,_])<|AE fun Z=>Ze (Al GC #[_,_,_])<|AE fun re=>A5<|Zq<|A0<|Zm Y<|Zv (AY B5 Y)<|Zm Y<|A5<|AR<|Zb [11,2,4,6,9,10] ?_;refine BA (e0:=[(11,_)]) (fun m e H=>∃(i:Nat),m=rows.length -i/\(i<=rows.length)/\e=[(11,I4 (i:Int))]/\H=[[(Z,.cells #[.slice none 0 0,I4 (st i).1,.bool (st i).2] 53 (0,0))]]) (by exact ⟨0,rfl,C0 _,rfl,by rw [h0]⟩) Wp ?_;rintro _ _ _ ⟨i,rfl,hi,rfl,rfl⟩;refine A0<|Zv (Au Y Y)<|A5<|Zq<|Aq Y (fun J=>?_) (fun J=>?_);·
  obtain ⟨r,W⟩:∃r,rows[i]?=some r:=⟨_,B3 J⟩;obtain ⟨g,off,cur,T,zz,rfl,O,X,I⟩:=hg i r W;refine AC<|Zx<|Zq<|AR<|A0<|Bb (Ac B5 AW Y Y A1)<|CS (cs:=[(g,.cells cur T zz)]) (by simp [O]) (A9 (cs:=r.A58) CI AW Y A1 I) V rfl<|Ze (Al DS #[_,_,_,_,_])<|AE fun rb=>Xe (Xw AW r.A58)<|A5<|Zg<|Zm Y<|Zo Wh (A9 (cs:=#[_,_,_]) Bk Ax Y As AN)<|Zo Wh (A9 (cs:=#[_,_,_,_,_]) CI AW Y As AN)<|Xr [_,_] Y (K) Y rfl (hf i r W)<|Xe (BL Ax Y Y HK Wu (by exact (rfl:_=(#[.slice none 0 0,I4 (st (i+1)).1,.bool (st (i+1)).2]:Array Value))) E6 As (by exact BB _))<|Z0<|A8<|Zx<|Zg<|Ya (n:=1) Y Y<|Zm Y<|Z0<|Zn [11,2,4,6,9,10] ?_;refine Ab (e':=[(11,_)]) (by exact ⟨i+1,V,by omega,V,V⟩)
 have ei:i=rows.length:=by omega
 subst ei;refine Ay<|Zt<|Zt<|AU<|Zx<|A0<|Zo Wh (A9 (cs:=#[_,_,_]) Bk Ax Y As AN)<|Xe (Xw Ax _)<|A5<|AJ<|Cu V results173 Y Wh (Am Bk Ax Wn (V)) (by exact ⟨V,V⟩)
variable{p:Option Addr}{cap:Nat}{ms:List Int}
theorem Tn(hc:FN M p (ms.map ivQ))(hl:ms.length<=maxLen)(af:ms.length<=cap){v0:Int}{W:Bool}(st:Nat->Int×Bool)(h0:st 0=(v0,W))(G:Nat)(us:List Value)(O:∀(args:Array Value) (w:World),(callFunc G args).run prog w= .ok (.enter G args) w)(hf:∀(i:Nat) (x:Int),ms[i]?=some x->BH prog G (.agg #[.slice none 0 0,I4 (st i).1,.bool (st i).2]::I4 x::us).toArray [M] (.agg #[.slice none 0 0,I4 (st (i+1)).1,.bool (st (i+1)).2])):BH prog 175 #[.slice p ms.length cap,.agg #[.slice none 0 0,I4 v0,.bool W],.func (.func G) #[] us.toArray] [M] (.agg #[.slice none 0 0,I4 (st ms.length).1,.bool (st ms.length).2]):=by
 have ax:=mL;refine Se func175 ntmps175 [0,1,2] ?_;intro u R;refine A0<|Ze (Bx #[_,_,_])<|AE fun X=>Ze (Al GC #[_,_,_])<|AE fun re=>A5<|Zq<|A0<|Zm Y<|Zv (AY Cl Y)<|Zm Y<|A5<|AR<|Zb [11,2,4,6,9,10] ?_;refine BA (e0:=[(11,_)]) (fun m e H=>∃(i:Nat),m=ms.length -i/\(i<=ms.length)/\e=[(11,I4 (i:Int))]/\H=[[(X,.cells #[.slice none 0 0,I4 (st i).1,.bool (st i).2] 53 (0,0))]]) (by exact ⟨0,rfl,C0 _,rfl,by rw [h0]⟩) Wp ?_;rintro _ _ _ ⟨i,rfl,hi,rfl,rfl⟩;refine A0<|Zv (Au Y Y)<|A5<|Zq<|Aq Y (fun K=>?_) (fun K=>?_);·
  obtain ⟨x,hx⟩:∃x,ms[i]?=some x:=⟨_,B3 K⟩;obtain ⟨g,off,cur,T,zz,rfl,U,J⟩:=hc i (ivQ x) (by rw [DO,hx];rfl);have I:cur[off+i]?=some (I4 x):=J
  refine AC<|Zx<|Zq<|AR<|A0<|Bb (CB Cl A4 Y Y X2)<|CS (cs:=[(g,.cells cur T zz)]) (by simp [U]) (BP AD Y I) rfl rfl<|A3 Y<|Zg<|Zm Y<|Zo Wh (A9 (cs:=#[_,_,_]) Bk Ax Y As AN)<|Zm Y<|Xr [_,_] Y (O) Y rfl (hf i x hx)<|Xe (BL Ax Y Y HK Wu (by exact (rfl:_=(#[.slice none 0 0,I4 (st (i+1)).1,.bool (st (i+1)).2]:Array Value))) E6 As (by exact BB _))<|Z0<|A8<|Zx<|Zg<|Ya (n:=1) Y Y<|Zm Y<|Z0<|Zn [11,2,4,6,9,10] ?_;refine Ab (e':=[(11,_)]) (by exact ⟨i+1,V,by omega,V,V⟩)
 have Z:i=ms.length:=by omega
 subst Z;refine Ay<|Zt<|Zt<|AU<|Zx<|A0<|Zo Wh (A9 (cs:=#[_,_,_]) Bk Ax Y As AN)<|Xe (Xw Ax _)<|A5<|AJ<|Cu V results175 Y Wh (Am Bk Ax Wn (V)) (by exact ⟨V,V⟩)
theorem Ml(hv:Db M v rows)(q:QM)(U:0<=q.bq/\q.bq<=3)(hb:rows.length<=1000000000000):Ba prog 176 #[.agg q.A59,v] [M] (fun r H'=>∃s,Bc 1 3 r (Ct q rows).length ((Ct q rows).map ivQ) s/\H'=[s,M]):=by
 have bn:=mL;obtain ⟨p,cap,rfl,⟨hl,bg⟩,hg⟩:=id hv;refine Se func176 ntmps176 [0,1] ?_;intro u R;refine A0<|Ze (Bx #[_,_,_,_,_,_,_])<|AE fun bq=>A3 Y<|A0<|Zm Y<|Zv (AY B5 Y)<|Ze (Gf (by_:=8) (l:=0) Cl (V:Tryz.prog.info? 3=some Tryz.t3) V rfl V rfl Y Y ?_ ?_ ?_) ?_
 (focus (omega))
 (focus (omega))
 (focus (omega))
 rintro _ _ ⟨mk,rfl,rfl⟩;refine A3 Y<|Zq<|A0<|Zm Y<|Zv (AY B5 Y)<|Zm Y<|A5<|AR<|Zb [5,13,2,11,12] ?_;refine BA (e0:=[(5,_),(13,_)]) (fun m e H=>∃(i:Nat) (vo:Value) (O:List AA),m=rows.length -i/\(i<=rows.length/\Bc 1 3 vo i ((Ct q (rows.take i)).map ivQ) O)/\e=[(5,vo),(13,I4 (i:Int))]/\H=[O]) (by exact ⟨0,_,_,rfl,⟨C0 _,by rw [ID];exact kI _ _ _ (I4 0) A1⟩,rfl,rfl⟩) Wp ?_;rintro _ _ _ ⟨i,vo,O,rfl,⟨hi,I⟩,rfl,rfl⟩;obtain ⟨qo,co,rfl⟩:=I.form;refine A0<|Zv (Au Y Y)<|A5<|Zq<|Aq Y (fun K=>?_) (fun K=>?_);·
  obtain ⟨r,X⟩:∃r,rows[i]?=some r:=⟨_,B3 K⟩;obtain ⟨g,off,cur,T,zz,rfl,W,Z,J⟩:=hg i r X;refine AC<|Zx<|Zq<|AR<|A0<|Bb (Ac B5 AW Y Y A1)<|CS (cs:=[(g,.cells cur T zz)]) (by simp [W]) (A9 (cs:=r.A58) CI AW Y A1 J) V rfl<|Ze (Al DS #[_,_,_,_,_])<|AE fun rb=>Xe (Xw AW r.A58)<|A5<|Zg<|Zm Y<|Zo Wh (A9 (cs:=#[_,_,_,_,_]) CI AW Y As AN)<|Zh 5 CC V rfl A4 Y<|Zl AD Y<|Xr [_,_] Y SD Y V (Fy r q.bq U)<|Ze (Ah (vs:=[_]) (cs:=[_]) Cl A4 H4 Y V rfl V rfl V)<|AE fun gb=>Ze (BR (by_:=8) (sz:=1) Cl (V:Tryz.prog.info? 3=some Tryz.t3) V rfl V rfl Y (I) Y (D8 1 gb 1 1 3 (0,0) [I4 (Bn r q.bq)] V) Wo Wo Fm A1 A1) ?_;rintro _ _ ⟨cu,G,rfl⟩;obtain ⟨ax,af,rfl⟩:=G.form;refine AG Y<|Zn [2,5,11,12,13] ?_;refine A8<|Zx<|Zg<|Ya (n:=1) Y Y<|Zm Y<|Z0<|Zn [5,13,2,11,12] ?_;refine Ab (e':=[(5,_),(13,_)]) (by exact ⟨i+1,_,_,rfl,⟨by omega,BS G rfl (by rw [lW X,BW];rfl)⟩,rfl,rfl⟩)
 have ei:i=rows.length:=by omega
 subst ei;refine Ay<|Zt<|Zt<|AU<|Zx<|A0<|Zm Y<|A3 Y<|AJ<|AO rfl results176 Y (by exact ⟨O,BS I (KI q rows).symm (by rw [GB]),rfl⟩)
theorem NT(v:Value)(g:v.oneCell'=true)(hc:v.cells=#[v]):Ba prog 178 #[v] [] (fun r H'=>∃b,r= .func (.func 233) #[] #[I5 b]/\H'=[[(b,.cells #[v] 222 (0,0))]]):=by
 refine Se func178 ntmps178 [0] ?_;intro u R;refine A0<|Ze (Eu Y (cs:=#[v]) hc)<|AE fun b=>A3 Y<|A0<|Zv (Bg (vs:=[]) (us:=[_]) Y Y)<|A3 Y<|AJ<|AO V results178 Y (by exact ⟨b,V,V⟩)
theorem nL(v n:Int)(f:Bool)(b g:Nat)(lt:Int->Int->Bool)(m:∀(args:Array Value) (w:World),(callFunc g args).run prog w= .ok (.enter g args) w)(G:∀x y:Int,BH prog g #[I4 x,I4 y] [] (.bool (lt x y))):BH prog 233 #[.agg #[.slice none 0 0,I4 v,.bool f],I4 n,I5 b] [[(b,.cells #[.func (.func g) #[] #[]] 222 (0,0))]] (.agg #[.slice none 0 0,I4 (if !f||lt n v then n else v),.bool true]):=by
 refine Se func233 ntmps233 [0,1,2] ?_;intro u R;refine A0<|Ze (Bx #[_,_,_])<|AE fun J=>Ze (Al GC #[_,_,_])<|AE fun bs=>A5<|Zq<|A0<|Zh 2 CD V rfl CH Y<|Zl DM Y ?_;refine Zv (Br Y)<|Zm Y<|Af (t:=9) Y V (fun I=>?_) (fun I=>?_);·
  refine A7 Y V<|A7 Y V<|A7 Y V<|A7 Y V<|A7 Y V<|Zv (AQ Y Y)<|A5<|CW Y<|Zg<|Zm Y<|Zh 1 CD V rfl A4 Y<|Xe (Zs A4 Y Y V (hi:=by(simp;done))) ?_;refine Z0<|Zn [3,5] ?_;refine Zx<|A0<|Zh 2 CD V rfl CH Y<|Xe (Zs CH Y Y V (hi:=by(simp;done))) ?_;refine A5<|A0<|Zo Wh (A9 (cs:=#[_,_,_]) Bk Ax Y As AN) ?_;refine Xe (Xw Ax _) ?_;refine A5<|AJ<|Cu V results233 Y Wh (Am Bk Ax Wn (V)) (by exact ⟨by simp_all;rfl,V⟩)
 refine Yl isAgg222 Y ?_;refine Zf Y Y<|Yf 1 CD V rfl A4 Y<|Yl AD Y ?_;refine Xr [_,_] Y (m) Y V (G n v) ?_;refine Zv (AL Y Y)<|A5<|AX Y (fun h2=>?_) (fun h2=>?_);·
  refine Zg<|Zm Y<|Zh 1 CD V rfl A4 Y<|Xe (Zs A4 Y Y V (hi:=by(simp;done))) ?_;refine Z0<|Zn [3,5] ?_;refine Zx<|A0<|Zh 2 CD V rfl CH Y<|Xe (Zs CH Y Y V (hi:=by(simp;done))) ?_;refine A5<|A0<|Zo Wh (A9 (cs:=#[_,_,_]) Bk Ax Y As AN) ?_;refine Xe (Xw Ax _) ?_;refine A5<|AJ<|Cu V results233 Y Wh (Am Bk Ax Wn (V)) (by exact ⟨by simp_all;rfl,V⟩)
 refine AC<|Zx<|A0<|Zh 2 CD V rfl CH Y<|Xe (Zs CH Y Y V (hi:=by(simp;done))) ?_;refine Z0<|Zn [3,5] ?_;refine Zx<|A0<|Zo Wh (A9 (cs:=#[_,_,_]) Bk Ax Y As AN) ?_;refine Xe (Xw Ax _) ?_;refine A5<|AJ<|Cu V results233 Y Wh (Am Bk Ax Wn (V)) (by exact ⟨by simp_all;rfl,V⟩)
theorem fo(x y:Int):BH prog 179 #[I4 x,I4 y] [] (.bool (decide (x<y))):=by
 refine Se func179 ntmps179 [0,1] ?_;intro u R;refine A0<|A3 Y<|A0<|Zm Y<|Zm Y<|Zv (Dv Y Y)<|A3 Y<|AJ<|AO V results179 Y (by exact ⟨by rfl,V⟩)
theorem fe(x y:Int):BH prog 180 #[I4 x,I4 y] [] (.bool (decide (y<x))):=by
 refine Se func180 ntmps180 [0,1] ?_;intro u R;refine A0<|A3 Y<|A0<|Zm Y<|Zm Y<|Zv (Ev Y Y)<|A3 Y<|AJ<|AO V results180 Y (by exact ⟨by rfl,V⟩)
theorem fu(v:Int)(f:Bool)(r:AV)(h:-9223372036854775807<=v/\v<=9223372036854775806):BH prog 174 #[.agg #[.slice none 0 0,I4 v,.bool f],.agg r.A58] [] (.agg #[.slice none 0 0,I4 (v+1),.bool f]):=by
 refine Se func174 ntmps174 [0,1] ?_;intro u R;refine A0<|Ze (Bx #[_,_,_])<|AE fun m=>Ze (Bx #[_,_,_,_,_])<|AE fun G=>Ze (Al GC #[_,_,_])<|AE fun g=>A5<|A0<|Zh 1 CD V rfl A4 Y<|Zl AD Y<|Yi Y Y<|Zh 1 CD V rfl A4 Y<|Xe (Zs A4 Y Y V (hi:=by(simp;done)))<|A5<|A0<|Zo Wh (A9 (cs:=#[_,_,_]) Bk Ax Y As AN)<|Xe (Xw Ax _)<|A5<|AJ<|Cu V results174 Y Wh (Am Bk Ax Wn (V)) (by exact ⟨V,V⟩)
theorem fq(v n:Int)(f:Bool)(h:-9223372036854775807<=v+n/\v+n<=9223372036854775806):BH prog 177 #[.agg #[.slice none 0 0,I4 v,.bool f],I4 n] [] (.agg #[.slice none 0 0,I4 (v+n),.bool f]):=by
 refine Se func177 ntmps177 [0,1] ?_;intro u R;refine A0<|Ze (Bx #[_,_,_])<|AE fun m=>Ze (Al GC #[_,_,_])<|AE fun g=>A5<|A0<|Zh 1 CD V rfl A4 Y<|Zl AD Y<|Zm Y<|Yi Y Y<|Zh 1 CD V rfl A4 Y<|Xe (Zs A4 Y Y V (hi:=by(simp;done)))<|A5<|A0<|Zo Wh (A9 (cs:=#[_,_,_]) Bk Ax Y As AN)<|Xe (Xw Ax _)<|A5<|AJ<|Cu V results177 Y Wh (Am Bk Ax Wn (V)) (by exact ⟨V,V⟩)
def yV(r:AV):Value:= .agg r.A58
theorem rZ{g:List (Int×Value)}{I:Int}(hn:(lm.map (·.1)).Nodup)(m:(g.map (·.1)).Nodup)(G:∀p,p∈g↔p=(I,v)\/(p∈lm/\p.1≠I))(k:Int):EI k g=if k=I then some v else EI k lm:=by
 split
 · rename_i h
   rw [h];exact Cy m ((G _).2 (.inl V))
 · rename_i h
   cases hg:EI k lm with
   |some x=>exact Cy m ((G _).2 (.inr ⟨Vi hg,h⟩))
   |none=>
    cases hg2:EI k g with
    |none=>rfl
    |some x=>
     rcases (G _).1 (Vi hg2)with e|⟨e,_⟩
     · injection e with e1 e2;exact absurd e1 h
     · rw [Cy hn e]at hg;cases hg
variable{others:List AV}{x:AV}
theorem VX(h:others[i]?=some x)(k:Int):Dc q (others.take (i+1)) k=(Dc q (others.take i) k).or (if x.t=q.ot/\x.k=k then some x else none):=by
 unfold Dc;rw [Bi h,List.find?_append];congr 1;simp only [List.find?_cons,List.find?_nil];split<;>simp_all
def UG(q:QM)(others:List AV)(lm:List (Int×Value)):Prop:=∀k,EI k lm=(Dc q others k).map yV
theorem Sv(h:others[i]?=some x)(m:UG q (others.take i) lm)(hx:¬x.t=q.ot\/(Dc q (others.take i) x.k).isSome=true):UG q (others.take (i+1)) lm:=by
 intro k;rw [m k,VX h k];cases hg:Dc q (others.take i) k with
 |some y=>rfl
 |none=>
  rw [AK];· rfl
  · rintro ⟨g,rfl⟩
    rcases hx with hx|hx
    · exact hx g
    · rw [hg]at hx;cases hx
theorem ko{g:List (Int×Value)}(h:others[i]?=some x)(J:UG q (others.take i) lm)(hx:x.t=q.ot)(G:(Dc q (others.take i) x.k).isSome=false)(hn:(lm.map (·.1)).Nodup)(m:(g.map (·.1)).Nodup)(K:∀p,p∈g↔p=(x.k,yV x)\/(p∈lm/\p.1≠x.k)):UG q (others.take (i+1)) g:=by
 intro k;rw [rZ hn m K k,VX h k];split
 · rename_i hk
   have:Dc q (others.take i) k=none:=by
    rw [hk];cases hg:Dc q (others.take i) x.k with
    |none=>rfl
    |some y=>rw [hg]at G;cases G
   rw [this,AM ⟨hx,hk.symm⟩];rfl
 · rename_i hk
   rw [J k,AK (fun I=>hk I.2.symm)];cases Dc q (others.take i) k<;>rfl
variable{y:AV}
theorem VY(g:UG q others lm)(k:Int)(hy:y=(Dc q others k).getD ⟨0,0,⟨0,0,0⟩⟩):(EI k lm).getD (.agg #[I4 (⟨0,0,⟨0,0,0⟩⟩:AV).t,I4 (⟨0,0,⟨0,0,0⟩⟩:AV).k,I4 (⟨0,0,⟨0,0,0⟩⟩:AV).v.a,I4 (⟨0,0,⟨0,0,0⟩⟩:AV).v.b,I4 (⟨0,0,⟨0,0,0⟩⟩:AV).v.c])= .agg y.A58/\(EI k lm).isSome=(Dc q others k).isSome:=by
 rw [g k,hy];cases Dc q others k<;>exact ⟨rfl,rfl⟩
theorem VW(hy:y=(Dc q others k).getD ⟨0,0,⟨0,0,0⟩⟩)(h:(Dc q others k).isSome=true):Dc q others k=some y:=by
 rw [hy];cases hp:Dc q others k with
 |none=>rw [hp]at h;cases h
 |some x=>rfl
variable{s:List AA}
theorem L6{sz:Nat}{e:TypeId}{n c k:Nat}{xs:List Value}(h:Bc sz e (.slice p n c) k xs s):FN s p xs:=by
 intro j u G;obtain ⟨J,⟨_,rfl,_⟩|⟨g,cap,cur,z,hv,rfl,_,_,_,m,_⟩⟩:=h
 · have:xs=[]:=Lw A1
   subst this;cases G
 · injection hv with h1 h2 h3
   subst h1;refine ⟨g,0,cur,e,z,V,by simp,?_⟩;have I:=(BE.1 G).1
   rw [<-m,HC,AM A1,HH]at G;rwa [D0]
theorem QI(h:rows[i]?=some r):Ip q (rows.take (i+1)) others=Ip q (rows.take i) others++Io q others r:=by
 unfold Ip;rw [Bi h,N6,nh]
theorem VZ(h:Dc q others (Bn r q.bq)=some y):Io q others r=[r,y]:=by unfold Io;rw [h]
theorem kw(h:Dc q others (Bn r q.bq)=none):Io q others r=[]:=by unfold Io;rw [h]
theorem qZ(q:QM)(others:List AV)(r:AV):(Io q others r).length<=2:=by unfold Io;split<;>simp
theorem TS(q:QM)(rows others:List AV):(Ip q rows others).length<=2*rows.length:=by
 induction rows with
 |nil=>simp [Ip]
 |cons r rows ih=>
  have:=qZ q others r;unfold Ip at*;rw [HL,B7,DG];omega
variable{vo:Value}
set_option maxHeartbeats 1000000 in
theorem ZJ(hv:Db M v rows)(ho:Db M vo others)(q:QM)(gy:0<=q.bq/\q.bq<=3)(hb:rows.length<=100000000000):Ba prog 181 #[.agg q.A59,v,vo] [M] (fun r H'=>∃s,Bc 5 71 r (Ip q rows others).length (Ae (Ip q rows others)) s/\H'=[s,M]):=by
 have qy:=mL;obtain ⟨p,cap,rfl,⟨hl,qw⟩,hg⟩:=id hv;obtain ⟨po,lw,rfl,⟨qx,o8⟩,gF⟩:=id ho;refine Se func181 ntmps181 [0,1,2] ?_;intro u R;refine A0<|Ze (Bx #[_,_,_,_,_,_,_])<|AE fun bq=>A3 Y<|A0<|Ze (DT)<|AE fun mb=>A3 Y<|Zq<|A0<|Zm Y<|Zv (AY B5 Y)<|Zm Y<|A5<|AR<|Zb [19,1,3,6,7,17,18] ?_;refine BA (e0:=[(19,_)]) (fun m e H=>∃(i:Nat) (es:Array MapEntry) (ck:Nat) (lm:List (Int×Value)),m=others.length -i/\(i<=others.length/\Co (fun k:Int=>I4 k) es ck lm/\UG q (others.take i) lm)/\e=[(19,I4 (i:Int))]/\H=[[(mb,.map es ck)]]) (by exact ⟨0,#[],0,[],V,⟨C0 _,EU _,fun k=>rfl⟩,V,V⟩) Wp ?_;rintro _ _ _ ⟨i,es,ck,lm,rfl,⟨hi,W,U⟩,rfl,rfl⟩;refine A0<|Zv (Au Y Y)<|A5<|Zq<|Aq Y (fun G=>?_) (fun G=>?_);·
  obtain ⟨x,hx⟩:∃x,others[i]?=some x:=⟨_,B3 G⟩;obtain ⟨g1,pg,Z,T1,l5,rfl,ic,p8,ax⟩:=gF i x hx;refine AC<|Zx<|Zq<|AR<|A0<|Bb (Ac B5 AW Y Y A1)<|CS (cs:=[(g1,.cells Z T1 l5)]) (by simp [ic]) (A9 (cs:=x.A58) CI AW Y A1 ax) V rfl<|Ze (Al DS #[_,_,_,_,_])<|AE fun bx=>Xe (Xw AW x.A58)<|A5<|Zq ?_;obtain ⟨y0,d9⟩:∃y,y=(Dc q (others.take i) x.k).getD ⟨0,0,⟨0,0,0⟩⟩:=⟨_,rfl⟩;refine Zg<|Zm Y<|Zh 1 FF V rfl A4 Y<|Zl AD Y<|Zo Wh (EB I7 underlying343 DS W (fun _ _=>trivial) (trivial) (VY U x.k d9) Y Y)<|Zm Y<|Zd Y V<|Zd Y V<|Ze (Al DS #[_,_,_,_,_])<|AE fun bt=>Xe (Xw AW y0.A58)<|AG Y<|Zn [1,3,6,7,9,11,17,18,19] ?_;refine Zx<|Zq ?_;obtain ⟨y0,d9⟩:∃y,y=(Dc q (others.take i) x.k).getD ⟨0,0,⟨0,0,0⟩⟩:=⟨_,rfl⟩;refine Zg<|Zh 0 FF V rfl A4 Y<|Zl AD Y<|Zh 6 CC V rfl A4 Y<|Zl AD Y<|Zv (CP Y Y)<|Zm Y<|Aj (t:=35) Y V (fun h1=>?_) (fun h1=>?_);·
   refine Zf Y Y<|Yg (Br Y)<|Zv (AQ Y Y)<|A5<|AX Y (fun h2=>?_) (fun h2=>?_);·
    refine Zg<|Zm Y<|Zh 1 FF V rfl A4 Y<|Zl AD Y<|Zo Wh (A9 (cs:=#[_,_,_,_,_]) CI AW Y As AN)<|Ze (FE I7 underlying343 W (fun _ _=>trivial) (trivial) Y Y Y Wo) ?_;rintro _ _ ⟨rfl,qb,qa,kv,I,j5,rfl⟩;have gq:UG q (others.take (i+1)) kv:=ko hx U h1 (by simpa using h2) W.keys I.keys j5
    refine Z0<|Zn [1,3,6,7,17,18,19] ?_;refine A8<|Zx<|Zg<|Ya (n:=1) Y Y<|Zm Y<|Z0<|Zn [19,1,3,6,7,17,18] ?_;refine Ab (e':=[(19,_)]) (by exact ⟨i+1,_,_,_,V,⟨by omega,I,gq⟩,V,V⟩)
   refine AC<|A8<|Zx<|Zg<|Ya (n:=1) Y Y<|Zm Y<|Z0<|Zn [19,1,3,6,7,17,18] ?_;refine Ab (e':=[(19,_)]) (by exact ⟨i+1,es,ck,lm,rfl,⟨by omega,W,Sv hx U (by first|exact .inl A1|exact .inr (by simpa using h2))⟩,rfl,rfl⟩)
  refine A7 Y V<|A7 Y V<|Zv (AL Y Y)<|A5<|DI Y<|AC<|A8<|Zx<|Zg<|Ya (n:=1) Y Y<|Zm Y<|Z0<|Zn [19,1,3,6,7,17,18] ?_;refine Ab (e':=[(19,_)]) (by exact ⟨i+1,es,ck,lm,rfl,⟨by omega,W,Sv hx U (by first|exact .inl A1|exact .inr (by simpa using h2))⟩,rfl,rfl⟩)
 have ei:i=others.length:=by omega
 subst ei;rw [GB]at U;refine Ay<|Zt<|Zt<|AU<|Zx<|Zq<|A0<|Zo Wh (A9 (cs:=#[_,_,_,_,_,_,_]) Dd C7 Y As AN)<|Zm Y<|Zc [_,_] Y call176 Y V (Ml hv q gy A1) ?_;rintro _ _ ⟨_,⟨sm,cO,rfl⟩,rfl⟩;obtain ⟨gm,cm,rfl⟩:=cO.form;refine Zv (AY Cl Y)<|Zm Y<|A5<|AR<|BU ?_;have gB:FN sm gm ((Ct q rows).map ivQ):=L6 cO
 have o9:=KI q rows;refine Zb [6,48,1,7,46,47] ?_;refine BA (e0:=[(6,_),(48,_)]) (fun m e H=>∃(i:Nat) (w:Value) (so:List AA),m=rows.length -i/\(i<=rows.length/\Bc 5 71 w (Ip q (rows.take i) others).length (Ae (Ip q (rows.take i) others)) so)/\e=[(6,w),(48,I4 (i:Int))]/\H=[so]) (by exact ⟨0,.slice none 0 0,[],rfl,⟨C0 _,by rw [ID];exact Bf 5 _⟩,rfl,rfl⟩) Wp ?_;rintro _ _ _ ⟨i,w,so,rfl,⟨hi,g⟩,rfl,rfl⟩;obtain ⟨qo,co,rfl⟩:=g.form;have ql:(Ip q (rows.take i) others).length<=2*i:=MY (TS _ _ _) (by rw [C3];omega)
 refine A0<|Zv (Au Y Y)<|A5<|Zq<|Aq Y (fun G=>?_) (fun G=>?_);·
  obtain ⟨r,hr⟩:∃r,rows[i]?=some r:=⟨_,B3 A1⟩;obtain ⟨g2,ek,J,T2,l8,rfl,I,bg⟩:=gB i (ivQ (Bn r q.bq)) (by rw [DO,xC hr];rfl);have cu:J[ek+i]?=some (I4 (Bn r q.bq)):=bg
  obtain ⟨X,O⟩:∃y,y=(Dc q others (Bn r q.bq)).getD ⟨0,0,⟨0,0,0⟩⟩:=⟨_,rfl⟩;refine AC<|Zx<|Zq<|AR<|A0<|Zm Y<|Bb (CB Cl A4 Y Y X2)<|CS (cs:=[(g2,.cells J T2 l8)]) (by simp [I]) (BP AD Y cu) rfl rfl<|Za Y<|A3 Y<|A0<|Zm Y<|Zm Y<|Zo Wh (EB I7 underlying343 DS W (fun _ _=>trivial) (trivial) (VY U (Bn r q.bq) O) Y Y)<|Zm Y<|Zd Y rfl<|Zd Y rfl<|Ze (Al DS #[_,_,_,_,_])<|AE fun pz=>Xe (Xw AW X.A58)<|AG Y<|Zn [1,6,7,12,14,15,46,47,48] ?_;refine Zx<|A0<|Zm Y<|A5<|AX Y (fun h5=>?_) (fun h5=>?_);·
   obtain ⟨g3,pq,af,T3,l9,rfl,j3,p9,bn⟩:=hg i r hr;refine Az (n:=9) (0::0::0::6::14::0::62::127::255::[]) 192 A6 A6 V<|A2 0 V (AP Y)<|A2 1 V (AP Y)<|A2 2 V (AP Y)<|A2 3 V (Ac B5 AW Y Y A1)<|CQ (b:=g3) (x:= .cells af T3 l9) (D':=31) 4 V rfl V (by simp [j3]) (A9 (cs:=r.A58) CI AW Y A1 bn) ?_;refine E7 5 V Wh (A9 (cs:=#[_,_,_,_,_]) CI AW Y As AN)<|Yw 6 127 V (Ah (vs:=[_,_]) (cs:=[_,_,_,_,_,_,_,_,_,_]) B5 AW DS Y V rfl V rfl V)<|AE fun gb=>Yw 7 255 V (BR (by_:=40) (sz:=5) B5 (V:Tryz.prog.info? 71=some Tryz.t71) V rfl V rfl Y (g) Y (D8 5 gb 2 2 71 (0,0) [I4 r.t,I4 r.k,I4 r.v.a,I4 r.v.b,I4 r.v.c,I4 X.t,I4 X.k,I4 X.v.a,I4 X.v.b,I4 X.v.c] V) Wo Wo Fm A1 A1) ?_;rintro _ _ ⟨qz,K,rfl⟩;obtain ⟨qj,q9,rfl⟩:=K.form;refine A2 8 V (Av Y)<|Ag<|A8<|Zx<|Zg<|Ya (n:=1) Y Y<|Zm Y<|Z0<|Zn [6,48,1,7,46,47] ?_;refine Ab (e':=[(6,_),(48,_)]) (by exact ⟨i+1,_,_,rfl,⟨by omega,BS K (by rw [QI hr,VZ (VW O h5),B7];rfl) (by rw [QI hr,VZ (VW O h5),Bh];rfl)⟩,rfl,rfl⟩)
  refine AC<|A8<|Zx<|Zg<|Ya (n:=1) Y Y<|Zm Y<|Z0<|Zn [6,48,1,7,46,47] ?_;refine Ab (e':=[(6,_),(48,_)]) (by exact ⟨i+1,_,so,rfl,⟨by omega,by rw [QI hr,kw (qn.1 (by simpa using h5)),DB];exact g⟩,rfl,rfl⟩)
 have ei:i=rows.length:=by omega
 subst ei;rw [GB]at g⊢;refine Ay<|Zt<|Zt<|AU<|Zx<|A0<|Zm Y<|A3 Y<|AJ<|AO V results181 Y (by exact ⟨so,g,V⟩)
def Ia(q:QM)(rows others:List AV):CE:=if BJ q then FQ q rows others else CE.none
theorem yh(h:¬BJ q):Ia q rows others=⟨[],0,false⟩:=AK h
theorem PI(h:BJ q):Ia q rows others=FQ q rows others:=AM h
theorem ph(h:BJ q)(k:q.kd=3):Ia q rows others=⟨[],rows.length,false⟩:=by rw [PI h];unfold FQ;rw [AM k]
theorem pZ(h:BJ q)(k:q.kd=4):Ia q rows others=⟨[],LZ (Ct q rows),false⟩:=by rw [PI h];unfold FQ;rw [AK A1,AM k]
theorem pT(h:BJ q)(k:q.kd=5):Ia q rows others=EW (fun a b=>decide (a<b)) (Ct q rows):=by rw [PI h];unfold FQ;rw [AK A1,AK A1,AM k]
theorem pS(h:BJ q)(k:q.kd=6):Ia q rows others=EW (fun a b=>decide (b<a)) (Ct q rows):=by rw [PI h];unfold FQ;rw [AK A1,AK A1,AK A1,AM k]
theorem pP(h:BJ q)(k:q.kd=7):Ia q rows others=⟨Ip q rows others,0,false⟩:=by rw [PI h];unfold FQ;rw [AK A1,AK A1,AK A1,AK A1,AM k]
theorem pt(h:BJ q)(g:¬q.kd=3)(m:¬q.kd=4)(G:¬q.kd=5)(I:¬q.kd=6)(J:¬q.kd=7):Ia q rows others=⟨rows,0,false⟩:=by rw [PI h];unfold FQ;rw [AK g,AK m,AK G,AK I,AK J]
theorem jq{x:Int}(h:ms[i]?=some x):LZ (ms.take (i+1))=LZ (ms.take i)+x:=by unfold LZ;rw [Bi h,Z3];rfl
theorem Ro(B:Int):∀(ms:List Int),(∀m∈ms,-B<=m/\m<=B)->-(ms.length*B)<=Jp ms/\Jp ms<=ms.length*B
 |[],_=>by simp [Jp]
 |m::ms,h=>by
  have g:=h m B0;have h2:=Ro B ms (fun y hy=>h y (EV _ hy))
  have G:((m::ms).length:Int)*B=ms.length*B+B:=by rw [DG];push_cast;rw [Int.add_mul,Int.one_mul]
  simp only [Jp];omega
theorem iV(h:∀m∈ms,-1000000000<=m/\m<=1000000000)(I:ms.length<=1000000000)(i:Nat):-1000000000000000000<=LZ (ms.take i)/\LZ (ms.take i)<=1000000000000000000:=by
 have G:=Ro 1000000000 (ms.take i) (fun m g=>h m (P0 g));have h2:(ms.take i).length<=1000000000:=by rw [C3];omega
 unfold LZ;rw [Mr];omega
theorem nK{lt:Int->Int->Bool}{x:Int}(h:ms[i]?=some x):EW lt (ms.take (i+1))=⟨(EW lt (ms.take i)).rows,if !(EW lt (ms.take i)).fnd||lt x (EW lt (ms.take i)).val then x else(EW lt (ms.take i)).val,true⟩:=by unfold EW;rw [Bi h,Z3];rfl
theorem W9(lt:Int->Int->Bool)(ms:List Int):∀r:CE,(ms.foldl (fun r n=>⟨r.rows,if !r.fnd||lt n r.val then n else r.val,true⟩:CE->Int->CE) r).rows=r.rows:=by
 induction ms with
 |nil=>intro r;rfl
 |cons m ms ih=>intro r;rw [Tl,ih]
theorem gQ(hv:Db M v rows)(G:rows.length<=1000000000):BH prog 173 #[v,.agg #[.slice none 0 0,I4 0,.bool false],.func (.func 174) #[] #[]] [M] (.agg #[.slice none 0 0,I4 (rows.length:Int),.bool false]):=
 gD hv (fun i=>((i:Int),false)) rfl 174 [] call174 (fun i r m=>by
  have g:=(BE.1 m).1;have:=fu (i:Int) false r A1
  exact Qq this)
theorem oZ(hc:FN s p (ms.map ivQ))(J:ms.length<=1000000000)(g:ms.length<=cap)(G:∀m∈ms,-1000000000<=m/\m<=1000000000):BH prog 175 #[.slice p ms.length cap,.agg #[.slice none 0 0,I4 0,.bool false],.func (.func 177) #[] #[]] [s] (.agg #[.slice none 0 0,I4 (LZ ms),.bool false]):=by
 have K:=mL;have h:=Tn hc A1 g (fun i=>(LZ (ms.take i),false)) rfl 177 [] call177 (fun i x hx=>by
  have O:=iV G J i;have h2:=G x (DE hx)
  have I:=fq (LZ (ms.take i)) x false A1;show BH _ _ _ _ (.agg #[.slice none 0 0,I4 (LZ (ms.take (i+1))),.bool false])
  rw [jq hx];exact Qq I)
 rwa [GB]at h
theorem aQ(hc:FN s p (ms.map ivQ))(X:ms.length<=1000000000)(I:ms.length<=cap)(b m:Nat)(lt:Int->Int->Bool)(G:∀(args:Array Value) (w:World),(callFunc m args).run prog w= .ok (.enter m args) w)(J:∀x y:Int,BH prog m #[I4 x,I4 y] [] (.bool (lt x y))):BH prog 175 #[.slice p ms.length cap,.agg #[.slice none 0 0,I4 0,.bool false],.func (.func 233) #[] #[I5 b]] [s,[(b,.cells #[.func (.func m) #[] #[]] 222 (0,0))]] (.agg #[.slice none 0 0,I4 (EW lt ms).val,.bool (EW lt ms).fnd]):=by
 have U:=mL;refine nQ ?_;have h:=Tn (M:=s++[(b,.cells #[.func (.func m) #[] #[]] 222 (0,0))]) (ms:=ms) (p:=p) (fun j u W=>by
  obtain ⟨g,o,c,T,z,K,h2,O⟩:=hc j u W;exact ⟨g,o,c,T,z,K,Dg _ h2,O⟩) A1 I (fun i=>((EW lt (ms.take i)).val,(EW lt (ms.take i)).fnd)) V 233 [I5 b] call233 (fun i x hx=>by
  show BH _ _ _ _ (.agg #[.slice none 0 0,I4 (EW lt (ms.take (i+1))).val,.bool (EW lt (ms.take (i+1))).fnd]);rw [nK hx];exact aY (nL (EW lt (ms.take i)).val x (EW lt (ms.take i)).fnd b m lt G J))
 rwa [GB]at h
theorem jG(h:∀r∈rows,-1000000000<=Bn r q.bq/\Bn r q.bq<=1000000000):∀m∈Ct q rows,-1000000000<=m/\m<=1000000000:=by
 intro m g;obtain ⟨r,G,rfl⟩:=Bm.1 g;exact h r G
set_option maxHeartbeats 1000000 in
theorem mo(hv:Db M v rows)(ho:Db M vo others)(q:QM)(hb:rows.length<=1000000000)(hm:BJ q->∀r∈rows,-1000000000<=Bn r q.bq/\Bn r q.bq<=1000000000):Ba prog 115 #[.agg q.A59,v,vo] [M] (fun w H'=>∃rv s,w= .agg #[rv,I4 (Ia q rows others).val,.bool (Ia q rows others).fnd]/\Bc 5 71 rv (Ia q rows others).rows.length (Ae (Ia q rows others).rows) s/\H'=[s,M]):=by
 have ax:=mL;refine Se func115 ntmps115 [0,1,2] ?_;intro u R;refine A0<|Ze (Bx #[_,_,_,_,_,_,_])<|AE fun bq=>Ze (Al GC #[_,_,_])<|AE fun br=>A5<|Zq<|A0<|Zo Wh (A9 (cs:=#[_,_,_,_,_,_,_]) Dd C7 Y As AN)<|Xr [_] Y call22 Y V (Jd q)<|Zv (D7 Y)<|A5<|AX Y (fun hq=>?_) (fun hq=>?_);·
  have g:¬BJ q:=by simpa using hq
  refine Zq<|BU<|Zg<|Zv (BM (vs:=[]) (cs:=#[_,_,_]) Y (AZ (pl:=#[(0,1),(1,1),(2,1)]) GC CD (fun _=>by kernel_rfl) rfl))<|Xe (Xw Ax _)<|A5<|AJ<|Zt<|Cu rfl dq Y Wh (Am Bk Ax Wn (rfl)) (by exact ⟨.slice none 0 0,[],by rw [yh g];rfl,by rw [yh g];exact Bf 5 _,rfl⟩)
 have g:BJ q:=by simpa using hq
 have G:0<=q.bq/\q.bq<=3:=by have:=g.2.2.2;omega
 have af:=jG (hm g);refine AC<|Zx<|A0<|Ze (Al GC #[_,_,_])<|AE fun bn=>A5<|Zq<|A0<|Zh 0 CC V rfl A4 Y<|Zl AD Y<|A5<|AR<|A0<|Zv (CP Y Y)<|A3 Y<|Aq Y (fun W=>?_) (fun W=>?_);·
  refine Zq<|BU<|Zg<|Zm Y<|Zo Wh (Pa #[_,_,_] Bk Ax Y)<|Xr [_,_,_] Y call173 Y V (gQ hv hb)<|Xe (Xw Ax _)<|Z0<|Zn [6] ?_;refine Zx<|AJ<|Ad<|Zt<|Cu rfl dq Y Wh (Am Bk Ax Wn (rfl)) (by exact ⟨.slice none 0 0,[],by rw [ph g W];rfl,by rw [ph g W];exact Bf 5 _,rfl⟩)
 refine A0<|Zv (CP Y Y)<|A3 Y<|Aq Y (fun X=>?_) (fun X=>?_);·
  refine Zq<|BU<|Az (n:=6) (0::0::3::0::15::31::[]) 52 A6 A6 V<|E7 0 V Wh (A9 (cs:=#[_,_,_,_,_,_,_]) Dd C7 Y As AN)<|A2 1 V (AP Y)<|E7 3 V Wh (Pa #[_,_,_] Bk Ax Y)<|Zz (l:=[2])<|B1 [true,false] [(3,(_,_))] V rfl (Zw [_,_] Y call176 Y V (Ml hv q G A1)) ?_ Bv Ai;rintro _ _ ⟨_,⟨sm,m,rfl⟩,rfl⟩;refine ⟨Zk (Aa),?_⟩;obtain ⟨U,cm,rfl⟩:=m.form;have I:FN sm U ((Ct q rows).map ivQ):=L6 m
  have O:=KI q rows;have K:=Ex m
  refine Yw 4 31 V (Zu [_,_,_] Y call175 Y V (oZ I A1 A1 af))<|CT<|Yw 5 63 V (Xw Ax _)<|CT<|Ag<|Zn [6] ?_;refine Zx<|AJ<|Ad<|Zt<|Cu rfl dq Y Wh (Am Bk Ax Wn (rfl)) (by exact ⟨.slice none 0 0,[],by rw [pZ g X];rfl,by rw [pZ g X];exact Bf 5 _,rfl⟩)
 refine A0<|Zv (CP Y Y)<|AG Y<|Zn [1,2,3,6,7,13,26] ?_;refine Zx<|Aq Y (fun Z=>?_) (fun Z=>?_);·
  refine Zq<|BU<|Az (n:=7) (0::0::3::0::7::31::63::[]) 116 A6 A6 V<|E7 0 V Wh (A9 (cs:=#[_,_,_,_,_,_,_]) Dd C7 Y As AN)<|A2 1 V (AP Y)<|E7 3 V Wh (Pa #[_,_,_] Bk Ax Y)<|Zz (l:=[2])<|B1 [true,false] [(3,(_,_))] V rfl (Zw [_,_] Y call176 Y V (Ml hv q G A1)) ?_ Bv Ai;rintro _ _ ⟨_,⟨sm,m,rfl⟩,rfl⟩;refine ⟨Zk (Aa),?_⟩;obtain ⟨U,cm,rfl⟩:=m.form;have I:FN sm U ((Ct q rows).map ivQ):=L6 m
  have O:=KI q rows;have K:=Ex m
  refine Zz (l:=[4])<|B1 [true] [(3,(_,_))] V rfl (Zw [_] Y call178 Y V (NT (.func (.func 179) #[] #[]) V rfl)) ?_ Bv Ai;rintro _ _ ⟨_,⟨b9,rfl,rfl⟩,rfl⟩;refine B6<|Yw 5 63 V (Zu [_,_,_] Y call175 Y V (aQ I A1 A1 b9 179 _ call179 fo))<|CT<|Yw 6 127 V (Xw Ax _)<|CT<|Ag<|Zx<|AJ<|Ad<|Zt<|Cu V dq Y Wh (Am Bk Ax Wn (V)) (by
   have e8:=W9 (fun a b=>decide (a<b)) (Ct q rows) CE.none;exact ⟨.slice none 0 0,[],by rw [pT g Z];rfl,by rw [pT g Z];rw [show(EW (fun a b=>decide (a<b)) (Ct q rows)).rows=[] from e8];exact Bf 5 _,rfl⟩)
 refine A0<|Zv (CP Y Y)<|A3 Y<|Aq Y (fun k6=>?_) (fun k6=>?_);·
  refine Zq<|BU<|Az (n:=7) (0::0::3::0::7::31::63::[]) 116 A6 A6 V<|E7 0 V Wh (A9 (cs:=#[_,_,_,_,_,_,_]) Dd C7 Y As AN)<|A2 1 V (AP Y)<|E7 3 V Wh (Pa #[_,_,_] Bk Ax Y)<|Zz (l:=[2])<|B1 [true,false] [(3,(_,_))] V rfl (Zw [_,_] Y call176 Y V (Ml hv q G A1)) ?_ Bv Ai;rintro _ _ ⟨_,⟨sm,m,rfl⟩,rfl⟩;refine ⟨Zk (Aa),?_⟩;obtain ⟨U,cm,rfl⟩:=m.form;have I:FN sm U ((Ct q rows).map ivQ):=L6 m
  have O:=KI q rows;have K:=Ex m
  refine Zz (l:=[4])<|B1 [true] [(3,(_,_))] V rfl (Zw [_] Y call178 Y V (NT (.func (.func 180) #[] #[]) V rfl)) ?_ Bv Ai;rintro _ _ ⟨_,⟨b9,rfl,rfl⟩,rfl⟩;refine B6<|Yw 5 63 V (Zu [_,_,_] Y call175 Y V (aQ I A1 A1 b9 180 _ call180 fe))<|CT<|Yw 6 127 V (Xw Ax _)<|CT<|Ag<|Zx<|AJ<|Ad<|Zt<|Cu V dq Y Wh (Am Bk Ax Wn (V)) (by
   have e8:=W9 (fun a b=>decide (b<a)) (Ct q rows) CE.none;exact ⟨.slice none 0 0,[],by rw [pS g k6];rfl,by rw [pS g k6];rw [show(EW (fun a b=>decide (b<a)) (Ct q rows)).rows=[] from e8];exact Bf 5 _,rfl⟩)
 refine A0<|Zv (CP Y Y)<|A3 Y<|Aq Y (fun k7=>?_) (fun k7=>?_);·
  refine A0<|Zo Wh (A9 (cs:=#[_,_,_,_,_,_,_]) Dd C7 Y As AN)<|Zm Y<|Zm Y<|Zc [_,_,_] Y call181 Y V (ZJ hv ho q G A1) ?_;rintro _ _ ⟨_,⟨sj,J,rfl⟩,rfl⟩;obtain ⟨gj,cj,rfl⟩:=J.form;refine Zv (BM (vs:=[(0,_)]) (cs:=#[_,_,_]) Y (AZ (pl:=#[(0,1),(1,1),(2,1)]) GC CD (fun _=>by kernel_rfl) rfl))<|Xe (BL Ax Y Y (by(simp [Value.oneCell',Value.cells];done)) Wu AN E6 AH (by exact BB _))<|A5<|AJ<|Ad<|Zt<|Cu rfl dq Y Wh (Am Bk Ax Wn (rfl)) (by exact ⟨.slice gj _ cj,sj,by rw [pP g k7];rfl,by rw [pP g k7];exact J,rfl⟩)
 refine AC<|A8<|Zx<|A0<|Zm Y<|Zc [_] Y call90 Y V (Gj hv A1) ?_;rintro _ _ ⟨_,⟨sj,J,rfl⟩,rfl⟩;obtain ⟨gj,cj,rfl⟩:=J.form;refine Zv (BM (vs:=[(0,_)]) (cs:=#[_,_,_]) Y (AZ (pl:=#[(0,1),(1,1),(2,1)]) GC CD (fun _=>by kernel_rfl) rfl))<|Xe (BL Ax Y Y (by(simp [Value.oneCell',Value.cells];done)) Wu AN E6 AH (by exact BB _))<|A5<|AJ<|Cu rfl dq Y Wh (Am Bk Ax Wn (rfl)) (by exact ⟨.slice gj _ cj,sj,by rw [pt g W X Z k6 k7];rfl,by rw [pt g W X Z k6 k7];exact J,rfl⟩)
theorem Wd(h:r.ok)(c:Int):-1000000000<=Bn r c/\Bn r c<=1000000000:=by
 obtain ⟨⟨g,h2,m⟩,G,I⟩:=h;unfold inV at g h2 m;unfold Bn;split;· omega
 · split
   · omega
   · split
     · omega
     · split<;>omega
variable{B:List AA}
theorem uB{A:List AA}(hv:Db A v rows)(I:Db B vo others)(q:QM)(m:rows.length<=1000000000)(G:BJ q->∀r∈rows,-1000000000<=Bn r q.bq/\Bn r q.bq<=1000000000):Ba prog 115 #[.agg q.A59,v,vo] [A,B] (fun w H'=>∃g s,w= .agg #[g,I4 (Ia q rows others).val,.bool (Ia q rows others).fnd]/\Bc 5 71 g (Ia q rows others).rows.length (Ae (Ia q rows others).rows) s/\H'=[s,A,B]):=by
 refine Gy (mo (hv.mono (fun c hc=>Dg B hc)) (I.mono (fun c hc=>G2 A hc)) q m G) B0 ?_;rintro r H' ⟨g,s,rfl,h,rfl⟩;exact ⟨_,⟨g,s,V,h,V⟩,by simp⟩
theorem jy(v:Value)(p:Int)(rs:List AV)(s:List AA)(hv:RH v p rs s)(t c lo hi:Int)(hc:0<=c/\c<=3):Ba prog 85 #[v,I4 t,I4 c,I4 lo,I4 hi] [s] (fun r H'=>∃g,Bc 5 71 r (Dt rs t c.toNat lo hi).length (Ae (Dt rs t c.toNat lo hi)) g/\H'=[g,s]):=by
 have h:=YD v p rs s hv t c.toNat lo hi A1;rwa [show((c.toNat:Nat):Int)=c by omega]at h
theorem SX{rs:List AV}{t:Int}{c:Nat}{lo hi:Int}:(Dt rs t c lo hi).length<=rs.length/\∀r∈Dt rs t c lo hi,r∈rs:=by
 have h:=ER rs t c lo hi;exact ⟨by rw [h.length_eq];exact On _ _,fun r g=>(FA.1 (h.mem_iff.1 g)).1⟩
def Js(c:Chg)(x:AV):Bool:=decide (x.t=c.t)&&decide (x.k=c.k)
def KR(q:QM)(y x:AV):Bool:=decide (Bn y q.cl<Bn x q.cl)||(decide (Bn x q.cl=Bn y q.cl)&&decide (y.k<x.k))
def R8(pd:AV->Bool)(rows:List AV)(y:AV):List AV:=rows.take ((rows.findIdx? pd).getD rows.length)++[y]++rows.drop ((rows.findIdx? pd).getD rows.length)
def EA(q:QM)(c:Chg)(rows:List AV):List AV:=match afQ q c with
 |some y=>R8 (KR q y) (rows.filter fun x=>!Js c x) y
 |none=>rows.filter fun x=>!Js c x
def Gc(lt:Int->Int->Bool)(b a:Bool)(o n:Int)(r:CE):CE×Bool:=
 if b&&(!r.fnd||!lt r.val o)then(⟨r.rows,n,r.fnd⟩,(a&&r.fnd)&&!lt r.val n)
 else if a then(⟨r.rows,if !r.fnd||lt n r.val then n else r.val,true⟩,true)else(r,true)
theorem tN(g:AV->Bool)(rows:List AV)(y:AV):(R8 g rows y).length=rows.length+1:=by
 unfold R8;simp only [B7,C3,C2,E3];omega
theorem UT(q:QM)(c:Chg)(rows:List AV):(EA q c rows).length<=rows.length+1:=by
 have h:=On (fun x=>!Js c x) rows;unfold EA;split;· rw [tN];omega
 · omega
theorem Ms(lt:Int->Int->Bool)(b a:Bool)(o n:Int)(r:CE):(Gc lt b a o n r).1.rows=r.rows:=by
 unfold Gc;split;· rfl
 · split<;>rfl
theorem gK{P:Program}{f:FuncId}{args:Array Value}{H:Hp}{Q:Value->Hp->Prop}(h:Ba P f args H Q)(F:Hp):Ba P f args (H++F) (fun v H'=>∃H1,Q v H1/\H'=H1++F):=fun u R w G=>
 Calls.mono (h u (F++R) w (by rw [<-Cd];exact G)) fun e I m=>by
  rcases m with⟨v,H',rfl,g,h2⟩|⟨ch,H',rfl,g,h2⟩
  · exact .inl ⟨v,H'++F,rfl,⟨H',g,rfl⟩,by rw [Cd];exact h2⟩
  · exact g.elim
theorem xe(g:AV->Bool)(rows:List AV):(RA g rows<0/\(rows.findIdx? g).getD rows.length=rows.length)\/∃i:Nat,i<=rows.length/\RA g rows=(i:Int)/\(rows.findIdx? g).getD rows.length=i:=by
 unfold RA;cases h:rows.findIdx? g with
 |none=>exact .inl ⟨by simp,rfl⟩
 |some i=>
  obtain ⟨m,_,_⟩:=XS.1 h;exact .inr ⟨i,by omega,V,V⟩
theorem kg(q:QM)(c:Chg)(G I:Option Addr)(o n:Int)(x:AV)(m:Nat):BH prog 244 #[.agg x.A58,I5 m] [[(m,.cells (q.G4 c G I o n) 257 (0,0))]] (.bool (Js c x)):=by
 refine Se func244 ntmps244 [0,1] ?_;intro u R;refine A0<|Ze (Bx #[_,_,_,_,_])<|AE fun J=>A3 Y<|A0<|Zh 0 FF V rfl A4 Y<|Zl AD Y<|Zh 7 DA V rfl C1 Y<|Zv (Ar (off:=0) B8 V rfl A4 Y)<|Zl AD Y<|Zv (CP Y Y)<|Zm Y<|Aj (t:=10) Y V (fun g=>?_) (fun g=>?_);·
  refine Yf 1 FF V rfl A4 Y<|Yl AD Y<|Yf 7 DA V rfl C1 Y<|Yg (Ar (off:=1) B8 V rfl A4 Y)<|Yl AD Y<|Yg (CP Y Y)<|Zv (AQ Y Y)<|AG Y<|Zn [3] ?_;refine Zx<|AJ<|AO V results244 Y (by exact ⟨by simp [Js,g],V⟩)
 refine A7 Y V<|A7 Y V<|A7 Y V<|A7 Y V<|A7 Y V<|A7 Y V<|Zv (AL Y Y)<|AG Y<|Zn [3] ?_;refine Zx<|AJ<|AO V results244 Y (by exact ⟨by simp [Js,g],V⟩)
theorem WW{A:List AA}(hv:Db A v rows)(hn:rows.length<=1000000000)(g:Nat)(us:List Value)(m:AV->Bool)(G:∀(args:Array Value) (w:World),(callFunc g args).run prog w= .ok (.enter g args) w)(J:∀x:AV,BH prog g (.agg x.A58::us).toArray [B] (.bool (m x))):Ba prog 243 #[v,.func (.func g) #[] us.toArray] [A,B] (fun r H'=>∃s,Bc 5 71 r (rows.filter fun x=>!m x).length (Ae (rows.filter fun x=>!m x)) s/\H'=[s,A,B]):=by
 obtain ⟨p,cap,rfl,_⟩:=id hv;refine Se func243 ntmps243 [0,1] ?_;intro u R;refine A0<|A3 Y<|A0<|Zm Y<|Zc [_] Y call90 Y V (Gj hv A1) ?_;rintro _ _ ⟨_,⟨s1,I,rfl⟩,rfl⟩;obtain ⟨U,K,rfl⟩:=I.form;refine Zm Y<|Zc [_,_] Y call278 Y V (ae I hn g us m G J) ?_;rintro _ _ ⟨_,⟨s2,h2,rfl⟩,rfl⟩;obtain ⟨W,O,rfl⟩:=h2.form;refine A3 Y<|AJ<|AO V results243 Y (by exact ⟨_,h2,V⟩)
theorem Uc(G:Bc 5 71 v rows.length (Ae rows) s)(hn:rows.length<=1000000000)(y:AV)(g:Nat)(us:List Value)(I:AV->Bool)(U:∀(args:Array Value) (w:World),(callFunc g args).run prog w= .ok (.enter g args) w)(hf:∀x:AV,BH prog g (.agg x.A58::us).toArray [B] (.bool (I x))):Ba prog 245 #[v,.agg y.A58,.func (.func g) #[] us.toArray] [s,B] (fun r H'=>∃X s2,Bc 5 71 r (R8 I rows y).length (Ae (R8 I rows y)) X/\H'=[X,s2,B]):=by
 have af:=mL;obtain ⟨p,cap,rfl⟩:=G.form;have hU:=DU G A1
 refine Se func245 ntmps245 [0,1,2] ?_;intro u R;refine A0<|Ze (Bx #[_,_,_,_,_])<|AE fun bx=>A3 Y<|A0<|Zm Y<|Zm Y<|Xr [_,_] Y call130 Y V (Tc hU g us I U hf) ?_;obtain ⟨z9,O⟩:∃z,z=RA I rows:=⟨_,rfl⟩;rw [<-O];have m:=xe I rows
 rw [<-O]at m;refine A3 Y<|Zb [7,0,4] ?_;refine DJ (e0:=[(7,_)]) (H0:=[]) (fun e H=>∃(i:Nat),(i<=rows.length/\(rows.findIdx? I).getD rows.length=i)/\e=[(7,I4 (i:Int))]/\H=[]) Wp ?hx_1 ?hy_1
 case hx_1=>
  refine A0<|Zm Y<|Zv (Dv Y Y)<|A5<|Aq Y (fun K=>?_) (fun K=>?_);·
   refine Zg<|Zm Y<|Zv (AY B5 Y)<|AG Y<|Zn [7,0,4] ?_;refine BO (e':=[(7,_)]) (by exact ⟨rows.length,⟨CM _,by rcases m with⟨_,h⟩|⟨i,h1,h2,J⟩;exact h;omega⟩,rfl,rfl⟩)
  rcases m with⟨h9,_⟩|⟨i,h1,h2,J⟩
  · exact absurd h9 K
  subst h2;refine AC<|Zn [7,0,4] ?_;refine BO (e':=[(7,_)]) (by exact ⟨i,⟨h1,J⟩,V,V⟩)
 rintro _ _ ⟨i,⟨hi,W⟩,rfl,rfl⟩;refine A0<|Zm Y<|Zm Y<|Zo Wh (Pa #[_,_,_,_,_] CI AW Y)<|Ze (Ah (vs:=[_]) (cs:=[_,_,_,_,_]) B5 AW DS Y V rfl V rfl V)<|AE fun Z=>Zc [_,_,_] Y call279 Y V (ZR G hn i hi y Z) ?_;rintro _ _ ⟨_,⟨s3,s4,J,rfl⟩,rfl⟩;obtain ⟨g3,c3,rfl⟩:=J.form;refine A3 Y<|AJ<|AO rfl results245 Y (by exact ⟨_,s4,by unfold R8;rw [W];exact J,rfl⟩)
theorem Xn(q:QM)(I:0<=q.cl/\q.cl<=3)(c:Chg)(J:Option Addr)(o n:Int)(y:AV)(g:Nat):Ba prog 246 #[.agg #[I4 q.kd,I4 q.tb,I4 q.cl,I4 q.lo,I4 q.hi,I4 q.bq,I4 q.ot,I4 c.t,I4 c.k,.bool c.had,I4 c.o.a,I4 c.o.b,I4 c.o.c,.bool c.has,I4 c.n.a,I4 c.n.b,I4 c.n.c,.pointer J,I5 g,I4 o,I4 n]] [[(g,.cells y.A58 71 (0,0))]] (fun r H'=>∃G m,r= .func (.func 280) #[] #[I5 G,I5 m]/\H'=[[(G,.cells #[I4 q.kd,I4 q.tb,I4 q.cl,I4 q.lo,I4 q.hi,I4 q.bq,I4 q.ot,I4 c.t,I4 c.k,.bool c.had,I4 c.o.a,I4 c.o.b,I4 c.o.c,.bool c.has,I4 c.n.a,I4 c.n.b,I4 c.n.c,.pointer J,I5 g,I4 o,I4 n] 257 (0,0))],[(m,.cells #[I4 (Bn y q.cl)] 3 (0,0))],[(g,.cells y.A58 71 (0,0))]]):=by
 refine Se func246 ntmps246 [0] ?_;intro u R;refine A0<|Ze (Eu Y (cs:=#[I4 q.kd,I4 q.tb,I4 q.cl,I4 q.lo,I4 q.hi,I4 q.bq,I4 q.ot,I4 c.t,I4 c.k,.bool c.had,I4 c.o.a,I4 c.o.b,I4 c.o.c,.bool c.has,I4 c.n.a,I4 c.n.b,I4 c.n.c,.pointer J,I5 g,I4 o,I4 n]) (GA q c J (some ⟨g,0,none⟩) o n))<|AE fun G=>A3 Y<|Zq<|Az (n:=10) (0::1::3::7::0::16::48::127::0::511::[]) 896 A6 A6 V<|A2 0 V (AB (off:=18) DA V rfl JT Y)<|B2 1 V Mp Y ?_;refine A2 2 V (Ap Y V)<|E7 3 V Wh (A9 (cs:=#[_,_,_,_,_]) CI AW Y As AN) ?_;refine A2 4 V (AB (off:=0) DA V rfl C7 Y)<|A2 5 V (Ar (off:=2) CC V rfl A4 Y)<|B2 6 V AD Y ?_;refine Zz (l:=[7,8])<|B1 [false,false,false] [] V rfl (Zu [_,_] Y SD Y V (Fy y q.cl I)) ?_ (fun _ _ h=>h.elim) ?_;·
  rintro _ _ ⟨rfl,rfl⟩;refine B6<|Yw 8 511 V (Al H4 #[_])<|AE fun m=>Yw 9 1023 V (Zs A4 Y Y V (hi:=by decide))<|CT<|Ag<|Zx<|A0<|Zv (Bg (vs:=[]) (us:=[_,_]) Y Y)<|AG Y<|Zn [2] ?_;refine Zx<|AJ<|AO V results246 Y (by exact ⟨G,m,V,V⟩)
 refine B1 [true,true,true] [(6,(_,_)),(3,(_,_)),(1,(_,_))] V rfl (Al H4 #[_]) ?_ (fun _ _ h=>h.elim) Ai;rintro _ _ ⟨m,rfl,rfl⟩;refine B6<|Yw 7 511 V (Zu [_,_] Y SD Y V (Fy y q.cl I))<|CT<|Yw 9 1023 V (Zs A4 Y Y V (hi:=by decide))<|CT<|Ag<|Zx<|A0<|Zv (Bg (vs:=[]) (us:=[_,_]) Y Y)<|AG Y<|Zn [2] ?_;refine Zx<|AJ<|AO V results246 Y (by exact ⟨G,m,V,V⟩)
theorem nu(q:QM)(m:0<=q.cl/\q.cl<=3)(c:Chg)(K:Option Addr)(o n:Int)(y:AV)(G I J:Nat)(x:AV):BH prog 280 #[.agg x.A58,I5 I,I5 J] [[(I,.cells #[I4 q.kd,I4 q.tb,I4 q.cl,I4 q.lo,I4 q.hi,I4 q.bq,I4 q.ot,I4 c.t,I4 c.k,.bool c.had,I4 c.o.a,I4 c.o.b,I4 c.o.c,.bool c.has,I4 c.n.a,I4 c.n.b,I4 c.n.c,.pointer K,I5 G,I4 o,I4 n] 257 (0,0))],[(J,.cells #[I4 (Bn y q.cl)] 3 (0,0))],[(G,.cells y.A58 71 (0,0))]] (.bool (KR q y x)):=by
 refine Se func280 ntmps280 [0,1,2] ?_;intro u R;refine A0<|Ze (Bx #[_,_,_,_,_])<|AE fun O=>A3 Y<|A0<|Zo Wh (A9 (cs:=#[_,_,_,_,_]) CI AW Y As AN)<|Zh 0 DA V rfl C7 Y<|Zv (Ar (off:=2) CC V rfl A4 Y)<|Zl AD Y<|Xr [_,_] Y SD Y V (Fy x q.cl m)<|A3 Y<|Zq<|Az (n:=19) (0::0::3::7::15::15::63::127::255::511::255::1279::3327::7423::15615::32767::65535::131071::262143::[]) 0 A6 A6 V<|A2 0 V (AP Y)<|B2 1 V AD Y<|A2 2 V (Ev Y Y)<|A2 3 V (AP Y)<|DX (t:=14) Y (fun g=>?_) (fun g=>?_);·
  rw [Cp g];refine AF 4 V<|AF 5 V<|AF 6 V<|AF 7 V<|AF 8 V<|AF 9 V<|AF 10 V<|AF 11 V<|AF 12 V<|AF 13 V<|AF 14 V<|AF 15 V<|AF 16 V<|A2 17 V (AQ Y Y)<|A2 18 V (Av Y)<|Ag<|Zn [4] ?_;refine Zx<|AJ<|AO V results280 Y (by exact ⟨by simp [KR, *],V⟩)
 rw [CN g];refine An 4 V (AP Y)<|DH 5 V Wh (BP AD Y AN)<|An 6 V (CP Y Y)<|An 7 V (AP Y)<|DX (t:=18) Y (fun h2=>?_) (fun h2=>?_);·
  rw [Cp h2];refine An 8 V (AB (off:=1) FF V rfl A4 Y)<|DH 9 V Wh (BP AD Y AN)<|An 10 V (AB (off:=18) DA V rfl JT Y)<|DH 11 V Wh (BP Mp Y AN)<|An 12 V (Ap Y V)<|An 13 V (AB (off:=1) FF V rfl A4 Y)<|DH 14 V Wh (BP AD Y AN)<|An 15 V (Ev Y Y)<|An 16 V (AQ Y Y)<|A2 17 V (AL Y Y)<|A2 18 V (Av Y)<|Ag<|Zn [4] ?_;refine Zx<|AJ<|AO V results280 Y (by exact ⟨by simp [KR, *],V⟩)
 rw [CN h2];refine AF 8 V<|AF 9 V<|AF 10 V<|AF 11 V<|AF 12 V<|AF 13 V<|AF 14 V<|AF 15 V<|An 16 V (AL Y Y)<|A2 17 V (AL Y Y)<|A2 18 V (Av Y)<|Ag<|Zn [4] ?_;refine Zx<|AJ<|AO V results280 Y (by exact ⟨by simp [KR, *],V⟩)
theorem Qw(q:QM)(I:0<=q.cl/\q.cl<=3)(c:Chg)(J:Option Addr)(o n:Int)(y:AV)(g:Nat):Ba prog 246 #[.agg #[I4 q.kd,I4 q.tb,I4 q.cl,I4 q.lo,I4 q.hi,I4 q.bq,I4 q.ot,I4 c.t,I4 c.k,.bool c.had,I4 c.o.a,I4 c.o.b,I4 c.o.c,.bool c.has,I4 c.n.a,I4 c.n.b,I4 c.n.c,.pointer J,I5 g,I4 o,I4 n]] [[(g,.cells y.A58 71 (0,0))]] (fun r H'=>∃m G,r= .func (.func 280) #[] ([I5 m,I5 G]:List Value).toArray/\H'=[[(m,.cells #[I4 q.kd,I4 q.tb,I4 q.cl,I4 q.lo,I4 q.hi,I4 q.bq,I4 q.ot,I4 c.t,I4 c.k,.bool c.had,I4 c.o.a,I4 c.o.b,I4 c.o.c,.bool c.has,I4 c.n.a,I4 c.n.b,I4 c.n.c,.pointer J,I5 g,I4 o,I4 n] 257 (0,0))]++[(G,.cells #[I4 (Bn y q.cl)] 3 (0,0))]++[(g,.cells y.A58 71 (0,0))]]):=by
 refine Gy (Xn q I c J o n y g) V ?_;rintro r H' ⟨m,G,rfl,rfl⟩;exact ⟨_,⟨m,G,V,V⟩,by simp⟩
theorem az(q:QM)(I:0<=q.cl/\q.cl<=3)(c:Chg)(J:Option Addr)(o n:Int)(y:AV)(g m G:Nat)(x:AV):BH prog 280 (.agg x.A58::([I5 m,I5 G]:List Value)).toArray [[(m,.cells #[I4 q.kd,I4 q.tb,I4 q.cl,I4 q.lo,I4 q.hi,I4 q.bq,I4 q.ot,I4 c.t,I4 c.k,.bool c.had,I4 c.o.a,I4 c.o.b,I4 c.o.c,.bool c.has,I4 c.n.a,I4 c.n.b,I4 c.n.c,.pointer J,I5 g,I4 o,I4 n] 257 (0,0))]++[(G,.cells #[I4 (Bn y q.cl)] 3 (0,0))]++[(g,.cells y.A58 71 (0,0))]] (.bool (KR q y x)):=by
 refine Gy (nu q I c J o n y g m G x) V ?_;rintro r H' ⟨rfl,rfl⟩;exact ⟨_,⟨V,V⟩,by simp⟩
set_option maxHeartbeats 1000000 in
theorem dQ(q:QM)(c:Chg)(g m:Option Addr)(o n:Int)(G:0<=q.cl/\q.cl<=3){r:CE}{rv:Value}{sr:List AA}(hr:Bc 5 71 rv r.rows.length (Ae r.rows) sr)(hn:r.rows.length<=100000000){s2:List AA}(h2:Il m (afQ q c) s2):Ba prog 197 #[.agg (q.G4 c g m o n),.agg #[rv,I4 r.val,.bool r.fnd]] [sr,s2] (fun w H'=>∃I s',w= .tuple #[.agg #[I,I4 r.val,.bool r.fnd],.bool true]/\Bc 5 71 I (EA q c r.rows).length (Ae (EA q c r.rows)) s'/\H'=[s']):=by
 have ax:=mL;obtain ⟨pv,cv,rfl⟩:=hr.form;have hU:=DU hr A1
 have af:(r.rows.filter fun x=>!Js c x).length<=r.rows.length:=On _ _;refine Se func197 ntmps197 [0,1] ?_;intro u R;refine A0<|Ze (Eu Y (cs:=(q.G4 c g m o n)) (GA q c g m o n))<|AE fun O=>Ze (Bx #[.slice pv r.rows.length cv,I4 r.val,.bool r.fnd])<|AE fun br=>Ze (Al GC #[_,_,_])<|AE fun b3=>A3 Y<|A0<|Zh 0 CD V rfl C6 Y<|Zl F1 Y ?_;refine Zv (Bg (vs:=[]) (us:=[_]) Y Y)<|Zc [_,_] Y call243 Y V (WW (B:=[(O,.cells (q.G4 c g m o n) 257 (0,0))]) hU A1 244 [I5 O] (Js c) call244 (fun x=>kg q c g m o n x O)) ?_;rintro _ _ ⟨_,⟨s3,U,rfl⟩,rfl⟩;obtain ⟨g3,c3,rfl⟩:=U.form;refine Zh 0 CD V rfl C6 Y<|Xe (Zs C6 Y Y V (hi:=by(simp;done))) ?_;refine A5<|Zb [2,3,4] ?_;refine DJ (e0:=[(2,_)]) (H0:=[[(br,.cells #[.slice g3 (r.rows.filter fun x=>!Js c x).length c3,I4 r.val,.bool r.fnd] 53 (0,0))],s3,s2]) (fun e H=>∃(w:Value) (J:List AA),(Bc 5 71 w (EA q c r.rows).length (Ae (EA q c r.rows)) J)/\e=[]/\H=[[(br,.cells #[w,I4 r.val,.bool r.fnd] 53 (0,0))],J]) Wp ?hx_1 ?hy_1
 case hx_1=>
  refine A0<|Zh 18 DA V rfl JT Y<|Zl Mp Y ?_;refine Zv (Er S4 Y Y)<|A5<|AX Y (fun W=>?_) (fun W=>?_);·
   obtain ⟨y,hy⟩:∃y,afQ q c=some y:=gi.1 (by rw [<-h2.some_];exact W);rw [hy]at h2;obtain ⟨K,rfl,rfl⟩:=h2;refine Az (n:=11) (0::1::0::4::12::28::0::64::255::511::1023::[]) 1408 A6 A6 V<|A2 0 V (AB (off:=0) CD V rfl C6 Y)<|B2 1 V F1 Y ?_;refine A2 2 V (AB (off:=18) DA V rfl JT Y)<|B2 3 V Mp Y ?_;refine A2 4 V (Ap Y V)<|CQ (b:=K) (x:= .cells y.A58 71 (0,0)) (D':=63) 5 V rfl V B0 (Pa y.A58 CI AW Y) ?_;refine E7 6 V Wh (A9 cP Wf Y As (by exact BK V)) ?_;refine Zz (l:=[7])<|B1 [false,true,true,true] [(5,(_,_)),(3,(_,_)),(1,(_,_))] V rfl (Zw [_] Y call246 Y V (Qw q G c g o n y K)) ?_ Bv Ai;rintro _ _ ⟨_,⟨X,Z,rfl,rfl⟩,rfl⟩;refine ⟨FK (by simp [*]) (Zk (Zk (Aa))),?_⟩;refine Zz (l:=[8])<|B1 [false,false,false] [] V rfl (Zw [_,_,_] Y call245 Y V (Uc U A1 y 280 [I5 X,I5 Z] (KR q y) call280 (fun x=>az q G c g o n y K X Z x))) ?_ Bv Ai;rintro _ _ ⟨_,⟨s5,s6,h5,rfl⟩,rfl⟩;refine ⟨Aa,?_⟩;obtain ⟨g5,c5,rfl⟩:=h5.form;refine A2 9 V (AB (off:=0) CD V rfl C6 Y)<|Zz (l:=[10])<|B1 [] [] V rfl (Zs C6 Y Y V (hi:=by(simp;done))) ?_ (fun _ _ h=>h.elim) Ai;rintro _ _ ⟨rfl,rfl⟩;refine B6<|Ag<|Zn [3,4] ?_;refine BO (e':=[]) (by exact ⟨_,s5,by unfold EA;rw [hy];exact h5,rfl,rfl⟩)
  have hy:afQ q c=none:=by have h9:=h2.some_;rw [W]at h9;exact qn.1 (by rw [<-h9];decide)
  refine AC<|Zn [3,4] ?_;refine BO (e':=[]) (by exact ⟨_,s3,by unfold EA;rw [hy];exact U,rfl,rfl⟩)
 rintro _ _ ⟨w,J,h4,rfl,rfl⟩;obtain ⟨p4,c4,rfl⟩:=h4.form;refine A0<|Zo Wh (A9 (cs:=#[_,_,_]) Bk Ax Y As (by exact BK V)) ?_;refine Xe (BL Ax Y Y HK Wu (by exact Dw rfl) E6 AH (by exact BB _)) ?_;refine A3 Y<|AJ<|Bj V results197 Y Wh (Am Bk Ax Wn (V)) Y (by exact ⟨_,J,V,h4,V⟩)
theorem Ym(q:QM)(c:Chg)(J g:Option Addr)(o n:Int){r:CE}(K:Option Addr)(I m:Nat)(hv:-4000000000000000000<=r.val/\r.val<=4000000000000000000):BH prog 199 #[.agg (q.G4 c J g o n),.agg #[.slice K I m,I4 r.val,.bool r.fnd]] [] (.tuple #[.agg #[.slice K I m,I4 (if g.isSome then r.val+1 else r.val -1),.bool r.fnd],.bool true]):=by
 refine Se func199 ntmps199 [0,1] ?_;intro u R;refine A0<|Ze (Eu Y (cs:=(q.G4 c J g o n)) (GA q c J g o n))<|AE fun U=>Ze (Bx #[.slice K I m,I4 r.val,.bool r.fnd])<|AE fun W=>Ze (Al GC #[_,_,_])<|AE fun O=>A3 Y<|Zq<|A0<|Zh 18 DA V rfl JT Y<|Zl Mp Y ?_;refine Zv (Er S4 Y Y)<|A5<|AX Y (fun G=>?_) (fun G=>?_);·
  refine Zg<|Zh 1 CD V rfl A4 Y<|Zl AD Y ?_;refine Yi Y Y<|Zh 1 CD V rfl A4 Y<|Xe (Zs A4 Y Y V (hi:=by(simp;done))) ?_;refine A5<|A0<|Zo Wh (A9 (cs:=#[_,_,_]) Bk Ax Y As AN) ?_;refine Xe (Xw Ax _) ?_;refine AG Y<|Zn [4,5] ?_;refine Zx<|AJ<|Bj rfl results199 Y Wh (Am Bk Ax Wn (rfl)) Y (by exact ⟨by rw [G];rfl,rfl⟩)
 refine Zg<|Zh 1 CD V rfl A4 Y<|Zl AD Y ?_
 (refine Bb (GL Y Y (IntWalk.i64_in _ ?_)) ?_;(focus (omega)))
 refine Zh 1 CD V rfl A4 Y<|Xe (Zs A4 Y Y V (hi:=by(simp;done))) ?_;refine A5<|A0<|Zo Wh (A9 (cs:=#[_,_,_]) Bk Ax Y As AN) ?_;refine Xe (Xw Ax _) ?_;refine AG Y<|Zn [4,5] ?_;refine Zx<|AJ<|Bj rfl results199 Y Wh (Am Bk Ax Wn (rfl)) Y (by exact ⟨by rw [G];rfl,rfl⟩)
theorem kW(q:QM)(c:Chg)(G I:Option Addr)(o n:Int){r:CE}(J:Option Addr)(m g:Nat)(hv:-4000000000000000000<=r.val/\r.val<=4000000000000000000)(W:(-1000000000<=o/\o<=1000000000)/\-1000000000<=n/\n<=1000000000):BH prog 201 #[.agg (q.G4 c G I o n),.agg #[.slice J m g,I4 r.val,.bool r.fnd]] [] (.tuple #[.agg #[.slice J m g,I4 (r.val+(n -o)),.bool r.fnd],.bool true]):=by
 refine Se func201 ntmps201 [0,1] ?_;intro u R;refine A0<|Ze (Eu Y (cs:=(q.G4 c G I o n)) (GA q c G I o n))<|AE fun O=>Ze (Bx #[.slice J m g,I4 r.val,.bool r.fnd])<|AE fun U=>Ze (Al GC #[_,_,_])<|AE fun K=>A3 Y<|A0<|Zh 1 CD V rfl A4 Y<|Zl AD Y ?_;refine Zh 20 DA V rfl A4 Y<|Zl AD Y ?_;refine Zh 19 DA V rfl A4 Y<|Zl AD Y ?_
 (refine Bb (GL Y Y (IntWalk.i64_in _ ?_)) ?_;(focus (omega)))
 refine Yi Y Y<|Zh 1 CD V rfl A4 Y<|Xe (Zs A4 Y Y V (hi:=by(simp;done))) ?_;refine Z0<|Zn [3,4] ?_;refine Zx<|A0<|Zo Wh (A9 (cs:=#[_,_,_]) Bk Ax Y As AN) ?_;refine Xe (Xw Ax _) ?_;refine A3 Y<|AJ<|Bj V results201 Y Wh (Am Bk Ax Wn (V)) Y (by exact ⟨V,V⟩)
end Go.Proofs.YtfhjaegddfehhaaGreatDoor
