/- Pairs of rows in memory; slices.Clone, IndexFunc, DeleteFunc, Insert at pairs. -/
import Derived.Test.YtlkdhannldcfbabGreatDoorPr3
set_option linter.unusedVariables false
set_option linter.unusedSimpArgs false
namespace Go.Proofs.YtlkdhannldcfbabGreatDoor
open Go.Proofs.Tryz
open Go Go.RowKit Gw
set_option maxRecDepth 100000
attribute [local irreducible] Gw.At Gw.Nx Gw.Ops
structure Ba where
 l:AV
 r:AV
deriving DecidableEq
def Am(ps:List Ba):List A2:=ps.flatMap fun p=>[I4 p.l.t,I4 p.l.k,I4 p.l.v.a,I4 p.l.v.b,I4 p.l.v.c,I4 p.r.t,I4 p.r.k,I4 p.r.v.a,I4 p.r.v.b,I4 p.r.v.c]
theorem DL(a b:List Ba):Am (a++b)=Am a++Am b:=by unfold Am;rw [On]
theorem BD:∀(rs:List Ba),(Am rs).length=rs.length*10
 |[]=>rfl
 |r::rs=>by
  have:=BD rs;unfold Am at*;rw [Hv,C0,this,F2];simp;omega
theorem Fw(rs:List Ba)(k:Nat):(Am rs).take (k*10)=Am (rs.take k):=by
 rcases Fi rs.length k with h|h
 · rw [Kx (by rw [BD];omega),Kx A0]
 · have e:Am rs=Am (rs.take k)++Am (rs.drop k):=by rw [<-DL,LO]
   rw [e,J1 (by rw [BD,Cd];omega)]
theorem MI(rs:List Ba)(k:Nat):(Am rs).drop (k*10)=Am (rs.drop k):=by
 rcases Fi rs.length k with h|h
 · rw [Vc (by rw [BD];omega),Vc A0];rfl
 · have e:Am rs=Am (rs.take k)++Am (rs.drop k):=by rw [<-DL,LO]
   rw [e,cF (by rw [BD,Cd];omega)]
theorem Ew(rs:List Ba):∀u∈Am rs,u.oneCell'=true:=by
 intro u g;unfold Am at g;obtain ⟨r,_,h⟩:=Tr.1 g;simp only [DS,PA,PF]at h;rcases h with rfl|rfl|rfl|rfl|rfl|rfl|rfl|rfl|rfl|rfl<;>rfl
def V7(M:List A8)(v:A2)(rs:List Ba):Prop:=∃p cap,v= .slice p rs.length cap/\(rs.length<=maxLen/\rs.length<=cap)/\∀(i:Nat) (x:Ba),rs[i]?=some x->∃g off cur T zz,p=some ⟨g,off,none⟩/\(g,Obj.cells cur T zz)∈M/\off+i*10+10<=cur.size/\cur.extract (off+i*10) (off+i*10+10)=#[I4 x.l.t,I4 x.l.k,I4 x.l.v.a,I4 x.l.v.b,I4 x.l.v.c,I4 x.r.t,I4 x.r.k,I4 x.r.v.a,I4 x.r.v.b,I4 x.r.v.c]
variable{v:A2}{rs:List Ba}{s:List A8}
theorem OH{e:AM}(h:BU 10 e v rs.length (Am rs) s)(hn:rs.length<=maxLen):V7 s v rs:=by
 obtain ⟨b,cap,rfl⟩:=h.form;refine ⟨b,cap,V,⟨hn,Eo h⟩,fun i x hx=>?_⟩;obtain ⟨g,G,cur,z,hv,rfl,I,m⟩:=H7 h i (C7.1 hx).1;injection hv with hv1 hv2 hv3
 refine ⟨g,0,cur,e,z,hv1,by simp,by omega,?_⟩;unfold Am at m;rw [Gi _ 10 (fun _=>rfl) rs i x hx]at m;rw [Dd];exact J0.1 m
variable{k:Nat}
theorem TD{r:Ba}(h:rs[k]?=some r):Am rs=Am (rs.take k)++(Am [r]++Am (rs.drop (k+1))):=by
 rw [<-DL,<-DL];congr 1;obtain ⟨g,rfl⟩:=C7.1 h;rw [PJ,<-TX g,LO]
theorem JC{r:Ba}(h:rs[k]?=some r)(j:Nat)(g:j<10):(Am rs)[k*10+j]?=(Am [r])[j]?:=by
 have m:=(C7.1 h).1;have e:(Am (rs.take k)).length=k*10:=by rw [BD,Cd];omega
 rw [TD h,TO A0,dj (by rw [e,BD];simp;omega),e,Nat.add_sub_cancel_left]
variable{n:Nat}
theorem Y1{M:List A8}{p:BE}{cap:Nat}(h:V7 M (.slice p n cap) rs):FX M p (Am rs):=by
 obtain ⟨Z,J,e,X,U⟩:=h;injection e with e1 e2 e3
 subst e1;intro j u K;have G:=(C7.1 K).1
 rw [BD]at G;obtain ⟨x,hx⟩:∃x,rs[j/10]?=some x:=⟨_,BT A0⟩;obtain ⟨g,off,cur,T,zz,rfl,W,I,m⟩:=U (j/10) x hx;refine ⟨g,off,cur,T,zz,V,W,?_⟩;have O:=Q5 m I (j%10) A0
 have h2:=JC hx (j%10) A0;rw [show j/10*10+j%10=j by omega,K]at h2;rw [show off+j=off+j/10*10+j%10 by omega,O,h2,<-Hx];rfl
theorem YA{M:List A8}(hv:V7 M v rs)(hb:rs.length<=1000000000000):BS prog 355 #[v] [M] (fun r H'=>∃O,BU 10 421 r rs.length (Am rs) O/\H'=[O,M]):=by
 have Z:=mL;obtain ⟨p,cap,rfl,⟨hl,X⟩,W⟩:=id hv;have G:FX M p (Am rs):=Y1 hv
 refine Se func355 ntmps355 [0] ?_;intro u R;refine A3<|AH Y<|B8 Y<|Zv (De HG Y Y)<|A4<|AY Y (fun K=>?_) (fun K=>?_);·
  have I:p=none:=by cases p with
   |none=>rfl
   |some x=>cases K
  have h0:rs=[]:=by
   cases rs with
   |nil=>rfl
   |cons x l=>obtain ⟨g,off,cur,T,zz,J,_⟩:=W 0 x rfl;rw [I]at J;cases J
  refine Zq<|Bc<|Zg<|An Y<|Zt<|AO rfl results355 Y (by exact ⟨[],by rw [h0];exact Bh 10 _,rfl⟩)
 refine AC<|C6<|Ze (EE HG HQ)<|AF fun U=>Zm Y<|Ze (IA (by_:=80) (sz:=10) HG (V:Tryz.prog.info? 421=some Tryz.t421) V rfl V rfl Y (H6 10 421 U 0 [] V B0) Y (G) (by exact BD _) B0 Wo Wo (by exact Ew _) A0 A0) ?_;rintro _ _ ⟨af,m,rfl⟩;replace m:=BZ m (Dd _) (N4 _);refine An Y<|AO V results355 Y (by exact ⟨_,m,V⟩)
def He(pd:Ba->Bool)(rows:List Ba):Int:=(rows.findIdx? pd).elim (-1) fun i=>(i:Int)
variable{rows:List Ba}{i:Nat}{x:Ba}
theorem qH{g:Ba->Bool}(h:∀(j:Nat) (y:Ba),j<i->rows[j]?=some y->g y=false)(hx:rows[i]?=some x)(G:g x=true):He g rows=(i:Int):=by
 obtain ⟨hi,rfl⟩:=C7.1 hx;unfold He;rw [cS.2 ⟨hi,G,fun j m=>by simp [h j _ m (BT A0)]⟩];rfl
theorem qI{m:Ba->Bool}(h:∀(j:Nat) (y:Ba),j<rows.length->rows[j]?=some y->m y=false):He m rows=-1:=by
 unfold He;rw [eR.2 fun y hy=>by
  obtain ⟨j,g⟩:=HU hy;exact h j y (C7.1 g).1 g]
 rfl
theorem UZ(g:Ba->Bool)(rows:List Ba):(He g rows=-1/\∀y∈rows,g y=false)\/∃(i:Nat) (x:Ba),He g rows=(i:Int)/\rows[i]?=some x/\g x=true/\∀(j:Nat) (y:Ba),j<i->rows[j]?=some y->g y=false:=by
 unfold He;cases h:rows.findIdx? g with
 |none=>exact .inl ⟨rfl,eR.1 h⟩
 |some i=>
  obtain ⟨m,h2,G⟩:=cS.1 h;refine .inr ⟨i,_,V,BT m,h2,fun j y I hy=>?_⟩;obtain ⟨J,rfl⟩:=C7.1 hy;simpa using G j I
theorem oK(g:k<rs.length)(x:Ba):(Am rs).take (k*10)++Am [x]++(Am rs).drop (k*10+(Am [x]).length)=Am (rs.set k x):=by
 rw [show k*10+(Am [x]).length=(k+1)*10 by rw [BD];simp;omega,Fw,MI,<-DL,<-DL,mx,Ax g];simp
variable{cur:AN}
theorem XL(g:Bq cur 0 (Am rs))(hx:rs[k]?=some x):k*10+10<=cur.size/\cur.extract (0+k*10) (0+k*10+10)=(Am [x]).toArray:=by
 have U:=(C7.1 hx).1;have O:k*10+10<=cur.size:=by
  have J:=JC hx 9 B0;have K:=g.get (k*10+9) _ (J.trans B1)
  have:=(Iv.1 K).1;omega
 refine ⟨O,?_⟩;apply J0.1;apply P2;intro j;rw [Hx,eS];split
 · rename_i hj
   have m:j<10:=by omega
   have G:=JC hx j m;obtain ⟨u,I⟩:∃u,(Am [x])[j]?=some u:=⟨_,BT (by rw [BD];simpa using m)⟩;rw [I]at G;have h2:=g.get _ _ G
   rw [Dd]at h2;rw [Dd,h2];exact I.symm
 · rw [Of]
   show(Am [x]).length<=j;rw [BD];simp only [GC];omega
theorem LV{j:Nat}(f:Ba->Bool)(hx:rows[j]?=some x):(rows.take (j+1)).filter f=(rows.take j).filter f++(if f x then [x]else []):=by
 rw [Bl hx,L7];congr 1;rw [dr,oA]
theorem Ms{f:Ba->Bool}(h:∀(j:Nat) (y:Ba),rows[j]?=some y->f y=true):rows.filter f=rows:=eW.2 fun y hy=>by
 obtain ⟨j,g⟩:=HU hy;exact h j y g
variable{B A:List A8}
theorem Mo(hv:V7 A v rows)(G:Nat)(us:List A2)(X:Ba->Bool)(U:∀(args:AN) (w:A5),(callFunc G args).run prog w= .ok (.enter G args) w)(hf:∀x:Ba,Au prog G (.agg #[I4 x.l.t,I4 x.l.k,I4 x.l.v.a,I4 x.l.v.b,I4 x.l.v.c,I4 x.r.t,I4 x.r.k,I4 x.r.v.a,I4 x.r.v.b,I4 x.r.v.c]::us).toArray [B] (.bool (X x))):Au prog 332 #[v,.func (.func G) #[] us.toArray] [A,B] (I4 (He X rows)):=by
 have ax:=mL;obtain ⟨p,cap,rfl,⟨hl,af⟩,hg⟩:=id hv;refine Se func332 ntmps332 [0,1] ?_;intro u R;refine A3<|AH Y<|B8 Y<|Zv (AR HG Y)<|Zm Y<|A4<|AQ<|Zb [8,0,1,7] ?_;refine Aw (e0:=[(8,_)]) (fun m e H=>∃(i:Nat),m=rows.length -i/\(i<=rows.length/\∀(j:Nat) (y:Ba),j<i->rows[j]?=some y->X y=false)/\e=[(8,I4 (i:Int))]/\H=[]) (by exact ⟨0,V,⟨CM _,fun j y h=>by omega⟩,V,V⟩) Wp ?_;rintro _ _ _ ⟨i,rfl,⟨hi,I⟩,rfl,rfl⟩;refine A3<|Zv (Ap Y Y)<|A4<|Zq<|Ak Y (fun O=>?_) (fun O=>?_);·
  obtain ⟨x,hx⟩:∃x,rows[i]?=some x:=⟨_,BT O⟩;obtain ⟨g,off,cur,T,zz,rfl,W,Z,K⟩:=hg i x hx;refine B3<|Zq<|AQ<|AK Y<|AH Y<|AK Y<|Zm Y<|Zm Y<|BX (AZ HG HQ Y Y A0)<|Bu (cs:=[(g,.cells cur T zz)]) (by simp [W]) (A9 (cs:=#[_,_,_,_,_,_,_,_,_,_]) isAgg421 HQ Y A0 K) V rfl<|Xr [_] Y (U) Y V (hf x)<|A4<|AY Y (fun J=>?_) (fun J=>?_);·
   refine AK Y<|An Y<|Ag<|Zt<|Zt<|Ag<|Zt<|AO V results332 Y (by exact ⟨congrArg (Value.int .i64) (qH I hx J).symm,V⟩)
  refine AC<|AA<|Zx<|Dg Y Y Y<|HJ (by exact ⟨i+1,rfl,⟨by omega,fun j y h1 h2=>by rcases Fi j i with h9|h9;exact I j y h9 h2;obtain rfl:j=i:=A0;rw [hx]at h2;injection h2 with h2;subst h2;exact J⟩,rfl,rfl⟩)
 have ei:i=rows.length:=by omega
 subst ei;refine BA<|Zt<|Zt<|AX<|C6<|An Y<|AO V results332 Y (by exact ⟨congrArg (Value.int .i64) (qI I).symm,V⟩)
set_option maxHeartbeats 1000000 in
theorem Yc(G:BU 10 421 v rows.length (Am rows) s)(hn:rows.length<=1000000000)(J:Nat)(us:List A2)(U:Ba->Bool)(bn:∀(args:AN) (w:A5),(callFunc J args).run prog w= .ok (.enter J args) w)(hf:∀x:Ba,Au prog J (.agg #[I4 x.l.t,I4 x.l.k,I4 x.l.v.a,I4 x.l.v.b,I4 x.l.v.c,I4 x.r.t,I4 x.r.k,I4 x.r.v.a,I4 x.r.v.b,I4 x.r.v.c]::us).toArray [B] (.bool (U x))):BS prog 354 #[v,.func (.func J) #[] us.toArray] [s,B] (fun r H'=>∃s',BU 10 421 r (rows.filter fun x=>!U x).length (Am (rows.filter fun x=>!U x)) s'/\H'=[s',B]):=by
 have o9:=mL;obtain ⟨p,cap,rfl⟩:=G.form;have hU:=OH G A0
 refine Se func354 ntmps354 [0,1] ?_;intro u R;refine A3<|AH Y<|AK Y<|Zm Y<|Xr [_,_] Y call332 Y V (Mo hU J us U bn hf) ?_;rcases UZ U rows with⟨e9,X⟩|⟨k,x0,e9,hx0,hp0,hno⟩
 ·
  rw [e9];refine AH Y<|B8 Y<|Zv (CO Y Y)<|A4<|Ak Y (fun h1=>?_) (fun h1=>?_);·
   refine AK Y<|An Y<|Zt<|AO rfl results354 Y (by exact ⟨_,BZ G (congrArg List.length (Ms fun j y hy=>by rw [X y (Ek hy)];rfl).symm) (congrArg Am (Ms fun j y hy=>by rw [X y (Ek hy)];rfl).symm),rfl⟩)
  exact absurd V h1
 rw [e9];have o8:=(C7.1 hx0).1
 obtain ⟨g,ic,cur,z,gQ,rfl,kv,j5⟩:=E9 G A0;injection gQ with hv1 hv2 hv3
 subst hv1 hv3;refine AH Y<|B8 Y<|Zv (CO Y Y)<|A4<|Ak Y (fun h2=>by omega)<|fun h2=>B3<|B8 Y<|Ya (n:=1) Y Y<|AH Y<|AQ<|Zb [5,6,0,1] ?_;refine Aw (e0:=[(5,_),(6,_)]) (fun m e H=>∃(i j:Nat) (W:List Ba) (cur:AN),m=rows.length -j/\((i<j/\j<=rows.length)/\W.length=rows.length/\BU 10 421 (I6 g rows.length cap) rows.length (Am W) [(g,.cells cur 421 z)]/\W.take i=(rows.take j).filter (fun x=>!U x)/\∀t,j<=t->W[t]?=rows[t]?)/\e=[(5,I4 (i:Int)),(6,I4 (j:Int))]/\H=[[(g,.cells cur 421 z)]]) (by exact ⟨k,k+1,rows,cur,rfl,⟨⟨by omega,by omega⟩,rfl,G,by rw [LV _ hx0,hp0];simp only [US,P0,I0,E7];exact (Ms (fun j y hy=>by rw [HR]at hy;split at hy;rw [hno j y ke hy];rfl;cases hy)).symm,fun t _=>rfl⟩,rfl,rfl⟩) Wp ?_;rintro _ _ _ ⟨i,j,W,cur,rfl,⟨l9,ax,O,K,af⟩,rfl,rfl⟩;obtain ⟨d9,cu,l5,j3,Z⟩:=Jr O;refine B8 Y<|Zm Y<|Zv (AR HG Y)<|Zv (Ap Y Y)<|A4<|Ak Y (fun ek=>?_) (fun ek=>?_);·
  obtain ⟨x,hx⟩:∃x,rows[j]?=some x:=⟨_,BT ek⟩;obtain ⟨l8,cO⟩:=XL d9 ((af j (D0 _)).trans hx);refine B3<|Zq<|AQ<|AK Y<|Zm Y<|BX (AZ HG HQ Y Y A0)<|Zo Wh (A9 (cs:=#[_,_,_,_,_,_,_,_,_,_]) isAgg421 HQ Y A0 cO)<|Ze (Al j7 #[_,_,_,_,_,_,_,_,_,_])<|AF fun bx=>Xe (Xw HQ #[I4 x.l.t,I4 x.l.k,I4 x.l.v.a,I4 x.l.v.b,I4 x.l.v.c,I4 x.r.t,I4 x.r.k,I4 x.r.v.a,I4 x.r.v.b,I4 x.r.v.c])<|A4<|AK Y<|Zo Wh (A9 (cs:=#[_,_,_,_,_,_,_,_,_,_]) isAgg421 HQ Y B5 B1)<|Xr [_] Y (bn) Y V (hf x)<|Zv (Bo Y)<|Z0<|Zn [0,1,5,6,7,29] ?_;refine Zx<|AY Y (fun I=>?_) (fun I=>?_);·
   have I:U x=false:=by simpa using I
   have gm:=BZ (xs':=Am (W.set i x)) (Ee (i:=0+i*10) (ys:=Am [x]) O (by rw [BD,BD,GC];omega)) rfl (by rw [Dd];exact oK A0 x);refine AK Y<|Zm Y<|Zo Wh (A9 (cs:=#[_,_,_,_,_,_,_,_,_,_]) isAgg421 HQ Y B5 B1)<|BX (AZ HG HQ Y Y A0)<|Xe (BJ HQ Y Y K0 Wu (by exact (rfl:_=ET cur (0+i*10) (Am [x]))) G4 A0 Z)<|A4<|Zg<|Zm Y<|Ya (n:=1) Y Y<|B2 Y<|AA<|Zx<|Zg<|Zm Y<|Ya (n:=1) Y Y<|B2 Y<|DG (e:=[(5,_),(6,_)]) (h:=by exact ⟨i+1,j+1,W.set i x,_,rfl,⟨by omega,by rw [ee];exact ax,gm,by rw [ZW A0,K,LV _ hx];simp [I],fun t ht=>by rw [List.getElem?_set_ne A0];exact af t A0⟩,rfl,rfl⟩)
  have I:U x=true:=by simpa using I
  refine AC<|AA<|Zx<|Zg<|Zm Y<|Ya (n:=1) Y Y<|B2 Y<|DG (e:=[(5,_),(6,_)]) (h:=by exact ⟨i,j+1,W,cur,rfl,⟨by omega,ax,O,by rw [K,LV _ hx];simp [I],fun t ht=>af t A0⟩,rfl,rfl⟩)
 have ej:j=rows.length:=by omega
 subst ej;rw [HE]at K;have gy:(rows.filter fun x=>!U x).length=i:=by rw [<-K,Cd];omega
 refine BA<|Zt<|Zt<|AX<|Zx<|AK Y<|Zm Y<|BX (Bz HG HQ Y Y A0)<|Ze (PE HG (V:Tryz.prog.info? 421=some Tryz.t421) V rfl (by simp [Value.cells,Value.oneCell']) Y A0 cu Z Wo) ?_;rintro _ _ rfl;have gq:=WO (Ee (i:=i*10) (ys:=(Builtin.zeroCells (Value.agg #[I4 0,I4 0,I4 0,I4 0,I4 0,I4 0,I4 0,I4 0,I4 0,I4 0]).cells (rows.length -i)).toList) O (by rw [W1,size_zeroCells,BD];show i*10+(rows.length -i)*10<=_;omega)) i A0
 refine A4<|AK Y<|Zm Y<|BX (Bn HG HQ Y Y A0)<|An Y<|AO V results354 Y (by
  refine ⟨_,BZ gq gy.symm ?_,V⟩;rw [DH,J1 (by rw [Cd,BD];omega),Fw,K])
theorem qF{A Y D:List A2}(g:A.length=(n+1)*10)(hi:i<=n)(G:Y.length=10)(m:D.length=(n -i)*10):(A.take (0+i*10)++Y++A.drop (0+i*10+Y.length)).take (0+(i+1)*10)++D++(A.take (0+i*10)++Y++A.drop (0+i*10+Y.length)).drop (0+(i+1)*10+D.length)=A.take (i*10)++Y++D:=by
 rw [Dd,Dd,J1 (by rw [C0,Cd];omega),Vc (by simp only [C0,Cd,Cp];omega),E7]
theorem jV{A Y D:List A2}(g:A.length=(n+1)*10)(hi:i<=n)(G:Y.length=10)(m:D.length=(n -i)*10):(A.take (0+(i+1)*10)++D++A.drop (0+(i+1)*10+D.length)).take (0+i*10)++Y++(A.take (0+(i+1)*10)++D++A.drop (0+(i+1)*10+D.length)).drop (0+i*10+Y.length)=A.take (i*10)++Y++D:=by
 rw [Dd,Dd,Vc (l:=A) A0,E7,de (by rw [Cd];omega),Xs,SR A0,cF (by rw [Cd];omega)]
theorem WM(rows:List Ba)(i:Nat)(y:Ba):(Am rows).take (i*10)++Am [y]++Am (rows.drop i)=Am (rows.take i++[y]++rows.drop i):=by
 rw [Fw,DL,DL]
theorem Rm{c:AN}(h:Bq c 0 (Am rows))(i:Nat)(hi:i<=rows.length):Bq c (0+i*10) (Am (rows.drop i)):=by
 have g:=JH h (i*10) ((rows.length -i)*10) (by rw [BD];omega);rw [MI,Kx (by rw [BD,Cp];omega)]at g;exact g
theorem eH{c:AN}(h:Bq c 0 (Am rows))(i:Nat)(hi:i<=rows.length):Bq c 0 (Am (rows.take i)):=by
 have g:=JH h 0 (i*10) (by rw [BD];omega);rw [SU,Fw]at g;exact g
theorem UX(rows:List Ba)(i:Nat)(hi:i<=rows.length)(y:Ba):(rows.take i++[y]++rows.drop i).length=rows.length+1:=by
 simp only [C0,Cd,Cp,GC];omega
set_option maxHeartbeats 1000000 in
theorem YT(m:BU 10 421 v rows.length (Am rows) s)(hn:rows.length<=1000000000)(i:Nat)(hi:i<=rows.length)(y:Ba)(U:Nat):BS prog 356 #[v,I4 (i:Int),I6 U 1 1] [s,[(U,.cells #[I4 y.l.t,I4 y.l.k,I4 y.l.v.a,I4 y.l.v.b,I4 y.l.v.c,I4 y.r.t,I4 y.r.k,I4 y.r.v.a,I4 y.r.v.b,I4 y.r.v.c] 421 (0,0))]] (fun r H'=>∃s' s2,BU 10 421 r (rows.take i++[y]++rows.drop i).length (Am (rows.take i++[y]++rows.drop i)) s'/\H'=[s',s2,[(U,.cells #[I4 y.l.t,I4 y.l.k,I4 y.l.v.a,I4 y.l.v.b,I4 y.l.v.c,I4 y.r.t,I4 y.r.k,I4 y.r.v.a,I4 y.r.v.b,I4 y.r.v.c] 421 (0,0))]]):=by
 have l9:=mL;obtain ⟨p,cap,rfl⟩:=m.form;have l8:=Eo m
 refine Se func356 ntmps356 [0,1,2] ?_;intro u R;refine A3<|CT Y<|Bc<|Zg<|Zm Y<|Zm Y<|BX (Bz HG HQ Y Y A0)<|A4<|AK Y<|Zv (AR HG Y)<|AH Y<|B8 Y<|Zv (CJ (n:=0) Y Y)<|A4<|Ak Y (fun h0=>by cases h0)<|fun h0=>B3<|AK Y<|Zv (AR HG Y)<|AH Y<|B8 Y<|Zm Y<|Zv (CJ Y Y)<|Z0<|Zn [0,1,2,7,8,22] ?_;refine Zx<|Ak Y (fun W=>?_) (fun W=>?_);·
  refine AK Y<|Zm Y<|Ze (BP (by_:=80) (sz:=10) HG (V:Tryz.prog.info? 421=some Tryz.t421) V rfl V rfl Y (m) Y (Cu 10 U 1 1 421 (0,0) (Am [y]) V) Wo Wo (by exact Ew _) A0 A0) ?_;rintro _ _ ⟨o8,O,rfl⟩;obtain ⟨j5,j3,rfl⟩:=O.form;refine An Y<|Zt<|AO V results356 Y (by
   have W:i=rows.length:=by omega
   subst W;exact ⟨_,[],BZ O (UX rows _ (D0 _) y).symm (by rw [HE,lO,E7,DL]),rfl⟩)
 obtain ⟨g,d9,cur,z,cu,rfl,ic,I⟩:=E9 m A0;injection cu with hv1 hv2 hv3
 subst hv1 hv3;obtain ⟨_,l5,_,kv,Z⟩:=Jr m;refine B3<|B8 Y<|Zm Y<|Ya Y Y<|Zm Y<|Zv (Rb HG Y)<|Zv (DX Y Y)<|A4<|Ak Y (fun hg=>?_) (fun hg=>?_);·
  refine AK Y<|Zm Y<|BX (Bn HG HQ Y Y A0)<|Zm Y<|Zm Y<|Ya Y Y<|Zm Y<|Yb Y Y ?_;refine Ze (Lh (by_:=80) (sz:=10) (xs:=Am (rows.take i)) HG D3 (rfl:Tryz.prog.info? 421=some Tryz.t421) rfl rfl rfl rfl Y Y Wh (eH I i hi) (by rw [BD,Cd];omega) A0 B0 A0 A0 A0) ?_;rintro _ _ ⟨s9,J,rfl⟩;rw [show i+(rows.length+1 -i)=rows.length+1 by omega]at J;have G:=J.1
  obtain ⟨g3,cO,ek,z3,rfl,rfl,gQ,gy⟩:=E9 J A0;obtain ⟨_,gq,_,gm,K⟩:=Jr J;refine B2 Y<|Zn [0,1,2,7,9] ?_;refine Zx<|AK Y<|Zm Y ?_
  (refine BX (Bp HG HQ Y Y ?_ ?_) ?_;(focus (omega));(focus (omega)))
  refine Zm Y<|Xe (Jn (cs:=Am [y]) HG HQ Y Y Wh Wo ((rfl:Bq (#[I4 y.l.t,I4 y.l.k,I4 y.l.v.a,I4 y.l.v.b,I4 y.l.v.c,I4 y.r.t,I4 y.r.k,I4 y.r.v.a,I4 y.r.v.b,I4 y.r.v.c]:AN) 0 (Am [y]))) (by rw [BD,GC];omega) (by rw [BD,GC];omega) (K) (Ew _)) ?_;refine A4<|Zq<|Ay (n:=9) (0::0::0::6::15::0::0::96::255::[]) 256 AD AD V<|A1 0 V (AP Y)<|A1 1 V (AP Y)<|A1 2 V (AP Y)<|A1 3 V (EP Y Y A0) ?_
  (refine F5 (D':=31) 4 (Bp HG HQ Y Y ?_ ?_) ?_;(focus (omega));(focus (omega)))
  refine A1 5 V (AP Y)<|A1 6 V (AP Y) ?_
  (refine F5 (D':=255) 7 (Bp HG HQ Y Y ?_ ?_) ?_;(focus (omega));(focus (omega)))
  refine Yw 8 511 rfl (Jn (cs:=Am (rows.drop i)) HG HQ Y Y Wh Wo (Rm I i hi) (by rw [BD,Cp];omega) (by rw [BD,Cp,Gb (by rw [BD,GC];omega)];omega) (by rw [Gb (by rw [BD,GC];omega)];exact K) (Ew _))<|F0<|Aq<|Zn [9] ?_;refine Zx<|AK Y<|An Y<|Zt<|AO V results356 Y (by
   refine ⟨_,[(g,.cells cur 421 z)],BZ (Ee (i:=0+(i+1)*10) (ys:=Am (rows.drop i)) (Ee (i:=0+i*10) (ys:=Am [y]) J (by rw [G,BD,GC];omega)) ?_) (UX rows i hi y).symm ?_,rfl⟩;· simp only [C0,Cd,Cp,G,BD,GC];omega
   · rw [qF G hi (by rw [BD];rfl) (by rw [BD,Cp]),J1 (by rw [BD,Cd];omega),<-Fw,WM])
 refine B3<|Zq ?_;obtain ⟨o9,bn,ax⟩:=WN m (rows.length+1) A0 A0;have G:=ax.1
 refine Zg<|Zm Y<|Zm Y<|Zm Y<|Ya Y Y ?_;refine BX (Bn HG HQ Y Y A0)<|CT Y<|Zq<|uH (s1:=[(U,_)]) (s2:=[(g,_)]) (a:=U) (b:=g) Wo Wo (CH.2 V) (CH.2 V) (fun af=>?_);refine Zg<|Zm Y<|Zm Y<|Zm Y<|Zm Y<|Ya Y Y ?_
 (refine BX (Bp HG HQ Y Y ?_ ?_) ?_;(focus (omega));(focus (omega)))
 refine Bu (cs:=[(U,.cells #[I4 y.l.t,I4 y.l.k,I4 y.l.v.a,I4 y.l.v.b,I4 y.l.v.c,I4 y.r.t,I4 y.r.k,I4 y.r.v.a,I4 y.r.v.b,I4 y.r.v.c] 421 (0,0)),(g,.cells cur 421 z)]) B7 (UB (tR:=4) func363 AD AD AD AD HG HQ Y af A0) V rfl ?_;refine Zv (Bo Y)<|Z0<|Zn [0,1,2,7,8,68] ?_;refine Zx<|AY Y (fun X=>?_) (fun X=>?_);·
  refine Zq<|Ay (n:=9) (0::0::0::6::15::0::0::96::255::[]) 256 AD AD V<|A1 0 V (AP Y)<|A1 1 V (AP Y)<|A1 2 V (AP Y)<|A1 3 V (EP Y Y A0) ?_
  (refine F5 (D':=31) 4 (Bp HG HQ Y Y ?_ ?_) ?_;(focus (omega));(focus (omega)))
  refine A1 5 V (AP Y)<|A1 6 V (AP Y) ?_
  (refine F5 (D':=255) 7 (Bp HG HQ Y Y ?_ ?_) ?_;(focus (omega));(focus (omega)))
  refine Yw 8 511 rfl (Jn (cs:=Am (rows.drop i)) HG HQ Y Y Wh Wo (Rm I i hi) (by rw [BD,Cp];omega) (by rw [BD,Cp];omega) (Z) (Ew _))<|F0<|Aq<|Zx<|AK Y<|Zm Y ?_
  (refine BX (Bp HG HQ Y Y ?_ ?_) ?_;(focus (omega));(focus (omega)))
  refine Zm Y<|Xe (Jn (cs:=Am [y]) HG HQ Y Y Wh Wo ((rfl:Bq (#[I4 y.l.t,I4 y.l.k,I4 y.l.v.a,I4 y.l.v.b,I4 y.l.v.c,I4 y.r.t,I4 y.r.k,I4 y.r.v.a,I4 y.r.v.b,I4 y.r.v.c]:AN) 0 (Am [y]))) (by rw [BD,GC];omega) (by rw [BD,GC,Gb (by rw [BD,Cp];omega)];omega) (by rw [Gb (by rw [BD,Cp];omega)];exact Z) (Ew _)) ?_;refine Z0<|Zn [0] ?_;refine Zx<|AK Y<|An Y<|Zt<|AO V results356 Y (by
   refine ⟨_,[],BZ (Ee (i:=0+i*10) (ys:=Am [y]) (Ee (i:=0+(i+1)*10) (ys:=Am (rows.drop i)) ax (by rw [G,BD,Cp];omega)) ?_) (UX rows i hi y).symm ?_,rfl⟩;· simp only [C0,Cd,Cp,BD,bn,GC];omega
   · rw [jV G hi (by rw [BD];rfl) (by rw [BD,Cp]),de (by rw [BD];omega),WM])
 cases X
def Px(pd:Ba->Bool)(rows:List Ba)(y:Ba):List Ba:=rows.take ((rows.findIdx? pd).getD rows.length)++[y]++rows.drop ((rows.findIdx? pd).getD rows.length)
theorem qG(g:Ba->Bool)(rows:List Ba)(y:Ba):(Px g rows y).length=rows.length+1:=by
 unfold Px;simp only [C0,Cd,Cp,GC];omega
theorem A85(g:Ba->Bool)(rows:List Ba):(He g rows<0/\(rows.findIdx? g).getD rows.length=rows.length)\/∃i:Nat,i<=rows.length/\He g rows=(i:Int)/\(rows.findIdx? g).getD rows.length=i:=by
 unfold He;cases h:rows.findIdx? g with
 |none=>exact .inl ⟨by simp,rfl⟩
 |some i=>
  obtain ⟨m,_,_⟩:=cS.1 h;exact .inr ⟨i,by omega,V,V⟩
theorem Ns(hv:V7 A v rows)(hn:rows.length<=1000000000)(g:Nat)(us:List A2)(m:Ba->Bool)(G:∀(args:AN) (w:A5),(callFunc g args).run prog w= .ok (.enter g args) w)(J:∀x:Ba,Au prog g (.agg #[I4 x.l.t,I4 x.l.k,I4 x.l.v.a,I4 x.l.v.b,I4 x.l.v.c,I4 x.r.t,I4 x.r.k,I4 x.r.v.a,I4 x.r.v.b,I4 x.r.v.c]::us).toArray [B] (.bool (m x))):BS prog 329 #[v,.func (.func g) #[] us.toArray] [A,B] (fun r H'=>∃s,BU 10 421 r (rows.filter fun x=>!m x).length (Am (rows.filter fun x=>!m x)) s/\H'=[s,A,B]):=by
 obtain ⟨p,cap,rfl,_⟩:=id hv;refine Se func329 ntmps329 [0,1] ?_;intro u R;refine A3<|AH Y<|AK Y<|Zc [_] Y call355 Y V (YA hv A0) ?_;rintro _ _ ⟨_,⟨s1,I,rfl⟩,rfl⟩;obtain ⟨U,K,rfl⟩:=I.form;refine Zm Y<|Zc [_,_] Y call354 Y V (Yc I hn g us m G J) ?_;rintro _ _ ⟨_,⟨s2,h2,rfl⟩,rfl⟩;obtain ⟨W,O,rfl⟩:=h2.form;refine An Y<|AO V results329 Y (by exact ⟨_,h2,V⟩)
theorem UW(G:BU 10 421 v rows.length (Am rows) s)(hn:rows.length<=1000000000)(y:Ba)(g:Nat)(us:List A2)(I:Ba->Bool)(U:∀(args:AN) (w:A5),(callFunc g args).run prog w= .ok (.enter g args) w)(hf:∀x:Ba,Au prog g (.agg #[I4 x.l.t,I4 x.l.k,I4 x.l.v.a,I4 x.l.v.b,I4 x.l.v.c,I4 x.r.t,I4 x.r.k,I4 x.r.v.a,I4 x.r.v.b,I4 x.r.v.c]::us).toArray [B] (.bool (I x))):BS prog 334 #[v,.agg #[I4 y.l.t,I4 y.l.k,I4 y.l.v.a,I4 y.l.v.b,I4 y.l.v.c,I4 y.r.t,I4 y.r.k,I4 y.r.v.a,I4 y.r.v.b,I4 y.r.v.c],.func (.func g) #[] us.toArray] [s,B] (fun r H'=>∃X s2,BU 10 421 r (Px I rows y).length (Am (Px I rows y)) X/\H'=[X,s2,B]):=by
 have af:=mL;obtain ⟨p,cap,rfl⟩:=G.form;have hU:=OH G A0
 refine Se func334 ntmps334 [0,1,2] ?_;intro u R;refine A3<|Ze (Bx #[_,_,_,_,_,_,_,_,_,_])<|AF fun bx=>AH Y<|AK Y<|Zm Y<|Xr [_,_] Y call332 Y V (Mo hU g us I U hf) ?_;obtain ⟨z9,O⟩:∃z,z=He I rows:=⟨_,rfl⟩;rw [<-O];have m:=A85 I rows
 rw [<-O]at m;refine AH Y<|Zb [7,0,4] ?_;refine CP (e0:=[(7,_)]) (H0:=[]) (fun e H=>∃(i:Nat),(i<=rows.length/\(rows.findIdx? I).getD rows.length=i)/\e=[(7,I4 (i:Int))]/\H=[]) Wp ?hx_1 ?hy_1
 case hx_1=>
  refine AK Y<|Zv (Dy Y Y)<|A4<|Ak Y (fun K=>?_) (fun K=>?_);·
   refine Zg<|Zm Y<|Zv (AR HG Y)<|B2 Y<|HB (e:=[(7,_)]) (h:=by exact ⟨rows.length,⟨D0 _,by rcases m with⟨_,h⟩|⟨i,h1,h2,J⟩;exact h;omega⟩,rfl,rfl⟩)
  rcases m with⟨h9,_⟩|⟨i,h1,h2,J⟩
  · exact absurd h9 K
  subst h2;refine AC<|Hh (by exact ⟨i,⟨h1,J⟩,V,V⟩)
 rintro _ _ ⟨i,⟨hi,W⟩,rfl,rfl⟩;refine AK Y<|Zm Y<|Zo Wh (Pa #[_,_,_,_,_,_,_,_,_,_] isAgg421 HQ Y)<|Ze (Ah (vs:=[_]) (cs:=[_,_,_,_,_,_,_,_,_,_]) HG HQ j7 Y V rfl V rfl V)<|AF fun Z=>Zc [_,_,_] Y call356 Y V (YT G hn i hi y Z) ?_;rintro _ _ ⟨_,⟨s3,s4,J,rfl⟩,rfl⟩;obtain ⟨g3,c3,rfl⟩:=J.form;refine An Y<|AO rfl results334 Y (by exact ⟨_,s4,by unfold Px;rw [W];exact J,rfl⟩)
def I7(k:Int)(p:Ba):Bool:=decide (p.r.k=k)
def Qy(k:Int)(p:Ba):Bool:=decide (p.l.k=k)
def F6(rows:List AV):List Ba:=(List.range (rows.length/2)).map fun k=>⟨rows.getD (2*k) AV.zero,rows.getD (2*k+1) AV.zero⟩
def DW(ps:List Ba):List AV:=ps.flatMap fun p=>[p.l,p.r]
def jnT(q:QM)(c:Chg)(ps:List Ba):List Ba×Bool:=
 if c.t=q.ot then
  (if c.has then(ps.map fun p=>if I7 c.k p then⟨p.l,⟨c.t,c.k,c.n⟩⟩else p,c.had)else(ps.filter fun p=>!I7 c.k p,c.had))
 else match afQ q c with
  |none=>(ps.filter fun p=>!Qy c.k p,true)
  |some y=>if He (I7 (mQ q (afQ q c))) ps<0 then(ps.filter fun p=>!Qy c.k p,(bfQ q c).isSome&&decide (mQ q (bfQ q c)=mQ q (afQ q c)))
   else(Px (fun p=>Lv q y p.l) (ps.filter fun p=>!Qy c.k p) ⟨y,(ps.getD (He (I7 (mQ q (afQ q c))) ps).toNat ⟨AV.zero,AV.zero⟩).r⟩,true)
def DJ(q:QM)(c:Chg)(r:C8):C8×Bool:=if q.tb=q.ot then(r,false)else(⟨DW (jnT q c (F6 r.rows)).1,r.val,r.fnd⟩,(jnT q c (F6 r.rows)).2)
theorem KZ(rows:List AV):(F6 rows).length=rows.length/2:=by unfold F6;rw [Bk,cX]
theorem A47{rows:List AV}{x y:AV}(hx:rows[2*k]?=some x)(hy:rows[2*k+1]?=some y):(F6 rows)[k]?=some ⟨x,y⟩:=by
 have h:=(C7.1 hy).1;unfold F6;rw [E6,Wr A0,PB,OR,OR,hx,hy];rfl
theorem IU:∀ps:List Ba,(DW ps).length=2*ps.length
 |[]=>rfl
 |p::ps=>by
  have:=IU ps;unfold DW at*;rw [Hv,C0,this,F2];simp;omega
variable{ps:List Ba}{p:Ba}
theorem TV(h:ps[k]?=some p):DW (ps.take (k+1))=DW (ps.take k)++[p.l,p.r]:=by
 unfold DW;rw [Bl h,On,rm]
theorem lu(q:QM)(c:Chg)(ps:List Ba):(jnT q c ps).1.length<=ps.length+1:=by
 have g:=Tl (fun p=>!I7 c.k p) ps;have h2:=Tl (fun p=>!Qy c.k p) ps
 unfold jnT;split
 · split
   · simp only [Bk];omega
   · simp only;omega
 · split
   · simp only;omega
   · split
     · simp only;omega
     · simp only [qG];omega
theorem wB(q:QM)(c:Chg)(m G:BE)(o n:Int)(g:Nat)(x:Ba):Au prog 330 #[.agg #[I4 x.l.t,I4 x.l.k,I4 x.l.v.a,I4 x.l.v.b,I4 x.l.v.c,I4 x.r.t,I4 x.r.k,I4 x.r.v.a,I4 x.r.v.b,I4 x.r.v.c],I5 g] [[(g,.cells (q.HL c m G o n) 311 (0,0))]] (.bool (I7 c.k x)):=by
 refine Se func330 ntmps330 [0,1] ?_;intro u R;refine A3<|Ze (Bx #[I4 x.l.t,I4 x.l.k,I4 x.l.v.a,I4 x.l.v.b,I4 x.l.v.c,I4 x.r.t,I4 x.r.k,I4 x.r.v.a,I4 x.r.v.b,I4 x.r.v.c])<|AF fun I=>AH Y<|A3<|Zh 5 Wa V rfl B6 Y<|Zv (Ar (off:=1) HC V rfl A6 Y)<|Zl AE Y<|Zh 7 Fl V rfl Cl Y<|Zv (Ar (off:=1) CC V rfl A6 Y)<|Zl AE Y<|Zv (CO Y Y)<|An Y<|AO V results330 Y (by exact ⟨V,V⟩)
theorem wA(q:QM)(c:Chg)(m G:BE)(o n:Int)(g:Nat)(x:Ba):Au prog 331 #[.agg #[I4 x.l.t,I4 x.l.k,I4 x.l.v.a,I4 x.l.v.b,I4 x.l.v.c,I4 x.r.t,I4 x.r.k,I4 x.r.v.a,I4 x.r.v.b,I4 x.r.v.c],I5 g] [[(g,.cells (q.HL c m G o n) 311 (0,0))]] (.bool (Qy c.k x)):=by
 refine Se func331 ntmps331 [0,1] ?_;intro u R;refine A3<|Ze (Bx #[I4 x.l.t,I4 x.l.k,I4 x.l.v.a,I4 x.l.v.b,I4 x.l.v.c,I4 x.r.t,I4 x.r.k,I4 x.r.v.a,I4 x.r.v.b,I4 x.r.v.c])<|AF fun I=>AH Y<|A3<|Zh 0 Wa V rfl B6 Y<|Zv (Ar (off:=1) HC V rfl A6 Y)<|Zl AE Y<|Zh 7 Fl V rfl Cl Y<|Zv (Ar (off:=1) CC V rfl A6 Y)<|Zl AE Y<|Zv (CO Y Y)<|An Y<|AO V results331 Y (by exact ⟨V,V⟩)
theorem w8(q:QM)(c:Chg)(m G:BE)(o n:Int)(g:Nat)(x:Ba):Au prog 333 #[.agg #[I4 x.l.t,I4 x.l.k,I4 x.l.v.a,I4 x.l.v.b,I4 x.l.v.c,I4 x.r.t,I4 x.r.k,I4 x.r.v.a,I4 x.r.v.b,I4 x.r.v.c],I5 g] [[(g,.cells (q.HL c m G o n) 311 (0,0))]] (.bool (I7 n x)):=by
 refine Se func333 ntmps333 [0,1] ?_;intro u R;refine A3<|Ze (Bx #[I4 x.l.t,I4 x.l.k,I4 x.l.v.a,I4 x.l.v.b,I4 x.l.v.c,I4 x.r.t,I4 x.r.k,I4 x.r.v.a,I4 x.r.v.b,I4 x.r.v.c])<|AF fun I=>AH Y<|A3<|Zh 5 Wa V rfl B6 Y<|Zv (Ar (off:=1) HC V rfl A6 Y)<|Zl AE Y<|Zh 20 Fl V rfl A6 Y<|Zl AE Y<|Zv (CO Y Y)<|An Y<|AO V results333 Y (by exact ⟨V,V⟩)
theorem w7(g:Nat)(us:List A2)(I:AV->Bool)(m:∀(args:AN) (w:A5),(callFunc g args).run prog w= .ok (.enter g args) w)(J:∀x:AV,Au prog g (.agg x.BM4::us).toArray [B] (.bool (I x)))(G:Nat)(x:Ba):Au prog 335 #[.agg #[I4 x.l.t,I4 x.l.k,I4 x.l.v.a,I4 x.l.v.b,I4 x.l.v.c,I4 x.r.t,I4 x.r.k,I4 x.r.v.a,I4 x.r.v.b,I4 x.r.v.c],I5 G] [[(G,.cells #[.func (.func g) #[] us.toArray] 294 (0,0))],B] (.bool (I x.l)):=by
 refine Se func335 ntmps335 [0,1] ?_;intro u R;refine A3<|Ze (Bx #[I4 x.l.t,I4 x.l.k,I4 x.l.v.a,I4 x.l.v.b,I4 x.l.v.c,I4 x.r.t,I4 x.r.k,I4 x.r.v.a,I4 x.r.v.b,I4 x.r.v.c])<|AF fun K=>AH Y<|A3<|Zl isAgg294 Y ?_;refine Zh 0 Wa V rfl B6 Y<|Zo Wh (A9 (cs:=x.l.BM4) DM B6 Y B5 B1) ?_;refine Xr [_] Y (m) Y V (J x.l) ?_;refine An Y<|AO V results335 Y (by exact ⟨V,V⟩)
theorem oJ(m:ps[k]?=some p)(x:AV):(Am ps).take (0+k*10+5)++Ae [x]++(Am ps).drop (0+k*10+5+(Ae [x]).length)=Am (ps.set k ⟨p.l,x⟩):=by
 have J:=(C7.1 m).1;have e:(Am (ps.take k)).length=k*10:=by rw [BD,Cd];omega
 have I:Am [p]=Ae [p.l]++Ae [p.r]:=rfl;have g:∀r:AV,(Ae [r]).length=5:=fun r=>rfl
 have e1:Am ps=(Am (ps.take k)++Ae [p.l])++(Ae [p.r]++Am (ps.drop (k+1))):=by
  rw [TD m,I];simp
 have e2:(Am (ps.take k)++Ae [p.l]).length=0+k*10+5:=by rw [C0,e,g];omega
 rw [e1,J1 e2,g,<-cG,cF e2,cF (g p.r),mx,Ax J];have G:Am (ps.take k++⟨p.l,x⟩::ps.drop (k+1))=Am (ps.take k)++(Am [⟨p.l,x⟩]++Am (ps.drop (k+1))):=by
  rw [<-DL,<-DL];rfl
 rw [G,show Am [⟨p.l,x⟩]=Ae [p.l]++Ae [x] from rfl];simp
theorem RQ(G:Bq cur 0 (Am ps))(U:ps[k]?=some p):cur[0+k*10+5+1]?=some (I4 p.r.k)/\0+k*10+5+5<=cur.size/\cur.extract (0+k*10+5) (0+k*10+5+5)=p.r.BM4:=by
 have g:∀j u,j<10->(Am [p])[j]?=some u->cur[k*10+j]?=some u:=fun j u J m=>by
  have:=G.get (k*10+j) u ((JC U j J).trans m);rwa [Dd]at this
 have K:=g 6 _ B0 rfl;have O:=g 9 _ B0 rfl
 have W:k*10+9<cur.size:=(Iv.1 O).1;refine ⟨by rw [show 0+k*10+5+1=k*10+6 by omega];exact K,by omega,?_⟩;apply J0.1;apply P2;intro j;rw [Hx,eS];split
 · rename_i J
   have I:j<5:=by omega
   obtain ⟨u,m⟩:∃u,(Ae [p.r])[j]?=some u:=⟨_,BT (by rw [BG];simpa using I)⟩;have h2:=g (5+j) u A0 (by
    rw [show Am [p]=Ae [p.l]++Ae [p.r] from rfl,TO (by rw [BG];simp),BG];rw [show 5+j - [p.l].length*5=j by simp];exact m)
   rw [show 0+k*10+5+j=k*10+(5+j) by omega,h2];exact m.symm
 · rw [Of]
   show(Ae [p.r]).length<=j;rw [BG];simp only [GC];omega
def OU(c:Chg)(ps:List Ba)(i:Nat):List Ba:=(ps.take i).map (fun p=>if I7 c.k p then⟨p.l,⟨c.t,c.k,c.n⟩⟩else p)++ps.drop i
theorem A64(c:Chg)(ps:List Ba)(i:Nat)(hi:i<=ps.length):(OU c ps i).length=ps.length:=by
 unfold OU;simp only [C0,Bk,Cd,Cp];omega
variable{c:Chg}
theorem YK(g:ps[i]?=some p):(OU c ps i)[i]?=some p:=by
 have hi:=(C7.1 g).1;unfold OU;rw [TO (by rw [Bk,Cd];omega),Bk,Cd,SR A0,W5,Pc,Pu,g]
theorem X4(g:ps[i]?=some p):OU c ps (i+1)=(OU c ps i).set i (if I7 c.k p then⟨p.l,⟨c.t,c.k,c.n⟩⟩else p):=by
 have hi:=(C7.1 g).1;have m:((ps.take i).map (fun p=>if I7 c.k p then(⟨p.l,⟨c.t,c.k,c.n⟩⟩:Ba)else p)).length=i:=by rw [Bk,Cd];omega
 unfold OU;rw [Bl g,CN,nB (h:=by omega),m,W5];obtain ⟨_,rfl⟩:=C7.1 g;rw [TX hi,List.set_cons_zero];simp
theorem A16(g:ps[i]?=some p):ps.set i p=ps:=by
 obtain ⟨hi,rfl⟩:=C7.1 g;exact List.set_getElem_self hi
theorem xo(g:Nat)(us:List A2)(I:AV->Bool)(G:∀(args:AN) (w:A5),(callFunc g args).run prog w= .ok (.enter g args) w)(J:∀x:AV,Au prog g (.agg x.BM4::us).toArray [B] (.bool (I x)))(m:Nat)(x:Ba):Au prog 335 (.agg #[I4 x.l.t,I4 x.l.k,I4 x.l.v.a,I4 x.l.v.b,I4 x.l.v.c,I4 x.r.t,I4 x.r.k,I4 x.r.v.a,I4 x.r.v.b,I4 x.r.v.c]::([I5 m]:List A2)).toArray [[(m,.cells #[.func (.func g) #[] us.toArray] 294 (0,0))]++B] (.bool (I x.l)):=by
 refine Gj (w7 g us I G J m x) B7 ?_;rintro r H' ⟨rfl,rfl⟩;exact ⟨_,⟨V,V⟩,by simp⟩
variable{q:QM}
theorem YQ{G I:BE}{g:Nat}{f:Ba->Bool}{m:Nat}(h:∀x,Au prog m #[.agg #[I4 x.l.t,I4 x.l.k,I4 x.l.v.a,I4 x.l.v.b,I4 x.l.v.c,I4 x.r.t,I4 x.r.k,I4 x.r.v.a,I4 x.r.v.b,I4 x.r.v.c],I5 g] [[(g,.cells (q.HL c G I (mQ q (bfQ q c)) (mQ q (afQ q c))) 311 (0,0))]] (.bool (f x)))(x:Ba):Au prog m (.agg #[I4 x.l.t,I4 x.l.k,I4 x.l.v.a,I4 x.l.v.b,I4 x.l.v.c,I4 x.r.t,I4 x.r.k,I4 x.r.v.a,I4 x.r.v.b,I4 x.r.v.c]::([I5 g]:List A2)).toArray [[(g,.cells (q.HL c G I (mQ q (bfQ q c)) (mQ q (afQ q c))) 311 (0,0))]] (.bool (f x)):=h x
theorem wO(h:c.has=true):EW c c.has c.n=⟨c.t,c.k,c.n⟩:=by unfold EW;rw [Ax h]
theorem A65(c:Chg)(ps:List Ba):OU c ps ps.length=ps.map fun p=>if I7 c.k p then⟨p.l,⟨c.t,c.k,c.n⟩⟩else p:=by unfold OU;rw [HE,lO,E7]
variable{s2:List A8}
set_option maxHeartbeats 1000000 in
theorem jT(q:QM)(gm:0<=q.cl/\q.cl<=3)(c:Chg)(O p2:BE)(e1:O.isSome=(bfQ q c).isSome)(h2:J2 p2 (afQ q c) s2){sl:List A8}(hl:BU 10 421 v ps.length (Am ps) sl)(hn:ps.length<=100000000):BS prog 300 #[.agg (q.HL c O p2 (mQ q (bfQ q c)) (mQ q (afQ q c))),v] [sl,s2] (fun w H'=>∃v' s',w= .tuple #[v',.bool (jnT q c ps).2]/\BU 10 421 v' (jnT q c ps).1.length (Am (jnT q c ps).1) s'/\H'=[s']):=by
 have l5:=mL;obtain ⟨pl,ax,rfl⟩:=hl.form;have hU:=OH hl A0
 have kv:(ps.filter fun p=>!Qy c.k p).length<=ps.length:=Tl _ _;refine Se func300 ntmps300 [0,1] ?_;intro u R;refine A3<|Ze (Fu Y (cs:=(q.HL c O p2 (mQ q (bfQ q c)) (mQ q (afQ q c)))) (GQ q c O p2 (mQ q (bfQ q c)) (mQ q (afQ q c))))<|AF fun be=>Za Y<|CT Y<|A3<|Zh 7 Fl V rfl Cl Y<|Zv (Ar (off:=0) CC V rfl A6 Y)<|Zl AE Y<|Zh 0 Fl V rfl D4 Y<|Zv (Ar (off:=6) DB V rfl A6 Y)<|Zl AE Y<|Zv (CO Y Y)<|A4<|Ak Y (fun J=>?_) (fun J=>?_);·
  refine A3<|Zh 7 Fl V rfl Cl Y<|Zo Wh (A9 (cs:=c.BM3) HD Cl Y B5 B1)<|Xr [_] Y call103 Y V (PY c) ?_;obtain ⟨y9,cO⟩:∃y,y=EW c c.has c.n:=⟨_,rfl⟩;rw [<-cO];refine Zm Y<|Zd Y V<|Zd Y V<|Ze (Al Ft #[_,_,_,_,_])<|AF fun j5=>Xe (Xw B6 y9.BM4)<|B2 Y<|Zn [1,2,6,7] ?_;refine Zx<|B8 Y<|Zv (Bo Y)<|A4<|AY Y (fun hh=>?_) (fun hh=>?_);·
   have af:c.has=false:=by simpa using hh
   refine Zq<|Ay (n:=8) (0::0::3::0::8::24::7::127::[]) 4 AD AD V<|A1 0 V (AP Y)<|A1 1 V (Be (vs:=[]) (us:=[_]) Y Y)<|A1 3 V (AB (off:=7) Fl V rfl Cl Y)<|A1 4 V (Ar (off:=2) CC V rfl F1 Y)<|Bm 5 V G0 Y<|Zz (l:=[2])<|BW [true] [(5,(_,_))] V rfl (Zw [_,_] Y call329 Y V (Ns (B:=[(be,.cells (q.HL c O p2 (mQ q (bfQ q c)) (mQ q (afQ q c))) 311 (0,0))]) hU A0 330 [I5 be] (I7 c.k) call330 (YQ fun x=>wB q c O p2 (mQ q (bfQ q c)) (mQ q (afQ q c)) be x))) ?_ Bv Aj;rintro _ _ ⟨_,⟨s9,h9,rfl⟩,rfl⟩;refine ⟨Zk (Ab),?_⟩;obtain ⟨g9,c9,rfl⟩:=h9.form;refine A1 6 V (BC Y)<|A1 7 V (BC Y)<|Aq<|Zx<|AL<|Zt<|Zt<|DR V mc Y Y (by
    have I:jnT q c ps=(ps.filter fun p=>!I7 c.k p,c.had):=by unfold jnT;rw [Ax J,As (by rw [af];decide)]
    exact ⟨.slice g9 _ c9,s9,by rw [I],by rw [I];exact h9,rfl⟩)
  have af:c.has=true:=by simpa using hh
  rw [wO af]at cO;refine B3<|B8 Y<|Zv (AR HG Y)<|Zm Y<|A4<|AQ<|Zb [35,1,2,6,34] ?_;refine Aw (e0:=[(35,_)]) (fun m e H=>∃(i:Nat) (sk:List A8),m=ps.length -i/\(i<=ps.length/\BU 10 421 (.slice pl ps.length ax) ps.length (Am (OU c ps i)) sk)/\e=[(35,I4 (i:Int))]/\H=[sk]) (by exact ⟨0,sl,V,⟨CM _,hl⟩,V,V⟩) Wp ?_;rintro _ _ _ ⟨i,sk,rfl,⟨hi,K⟩,rfl,rfl⟩;refine A3<|Zv (Ap Y Y)<|A4<|Zq<|Ak Y (fun X=>?_) (fun X=>?_);·
   obtain ⟨p,hp⟩:∃p,ps[i]?=some p:=⟨_,BT X⟩;obtain ⟨g,ek,cur,z,cu,rfl,gQ,W⟩:=E9 K A0;injection cu with hv1 hv2 hv3
   subst hv1 hv3;obtain ⟨_,U,_,j3,gy⟩:=Jr K;obtain ⟨h6,ic,_⟩:=RQ W (YK hp);refine B3<|Zq<|AQ<|AK Y<|CT Y<|Ay (n:=10) (0::0::3::7::15::31::0::64::192::511::[]) 0 AD AD V<|A1 0 V (AP Y)<|A1 1 V (AP Y)<|A1 2 V (AZ HG HQ Y Y A0)<|A1 3 V (Ar (off:=5) Wa V rfl B6 Y)<|A1 4 V (Ar (off:=1) HC V rfl A6 Y)<|Bm 5 V AE Y (hv:=by exact h6)<|A1 6 V (AB (off:=7) Fl V rfl Cl Y)<|A1 7 V (Ar (off:=1) CC V rfl A6 Y)<|Bm 8 V AE Y<|A1 9 V (CO Y Y)<|Aq<|Zn [1,2,6,8,34,35,47] ?_;refine Zx<|Ak Y (fun hk=>?_) (fun hk=>?_);focus
    have e9:OU c ps (i+1)=(OU c ps i).set i ⟨p.l,y9⟩:=by rw [X4 hp,Ax (by unfold I7;simp [hk]),cO]
    have Z:=BZ (xs':=Am (OU c ps (i+1))) (Ee (i:=0+i*10+5) (ys:=Ae [y9]) K (by rw [BD,BG,GC,A64 c ps i hi];omega)) rfl (by rw [e9];exact oJ (YK hp) y9);refine Zg<|Zm Y<|Zm Y<|Zo Wh (A9 (cs:=y9.BM4) DM B6 Y B5 B1)<|BX (AZ HG HQ Y Y A0)<|Zv (Ar (off:=5) Wa rfl rfl B6 Y)<|Xe (BJ B6 Y Y K0 Wu (by exact (rfl:_=ET cur (0+i*10+5) (Ae [y9]))) G4 A0 gy)<|Z0 ?_
   rotate_left
   focus
    have e9:OU c ps (i+1)=OU c ps i:=by rw [X4 hp,As (by unfold I7;simp [hk]),A16 (YK hp)]
    have Z:=K;rw [<-e9]at Z;refine AC ?_
   all_goals
    refine AA<|Zx<|Dg Y Y Y<|DG (e:=[(35,_)]) (h:=by exact ⟨i+1,_,V,⟨by omega,Z⟩,V,V⟩)
  have ei:i=ps.length:=by omega
  subst ei;rw [A65]at K;refine BA<|Zt<|Zt<|AX<|Zx<|Zq<|Ay (n:=6) (0::0::2::6::1::31::[]) 0 AD AD V<|A1 0 V (AP Y)<|A1 1 V (AB (off:=7) Fl V rfl Cl Y)<|A1 2 V (Ar (off:=2) CC V rfl F1 Y)<|Bm 3 V G0 Y<|A1 4 V (BC Y)<|A1 5 V (BC Y)<|Aq<|Zx<|AL<|Zt<|DR V mc Y Y (by
   have I:jnT q c ps=(ps.map fun p=>if I7 c.k p then⟨p.l,⟨c.t,c.k,c.n⟩⟩else p,c.had):=by unfold jnT;rw [Ax J,Ax af]
   exact ⟨.slice pl ps.length ax,sk,by rw [I],by rw [I];exact BZ K (Bk _).symm rfl,rfl⟩)
 refine B3<|AK Y<|Zv (Be (vs:=[]) (us:=[_]) Y Y)<|Zc [_,_] Y call329 Y V (Ns (B:=[(be,.cells (q.HL c O p2 (mQ q (bfQ q c)) (mQ q (afQ q c))) 311 (0,0))]) hU A0 331 [I5 be] (Qy c.k) call331 (YQ fun x=>wA q c O p2 (mQ q (bfQ q c)) (mQ q (afQ q c)) be x)) ?_;rintro _ _ ⟨_,⟨s9,h9,rfl⟩,rfl⟩;obtain ⟨g9,c9,rfl⟩:=h9.form;refine B2 Y<|Zn [1,2,9] ?_;refine Zx<|Zq<|A3<|Zh 18 Fl V rfl N3 Y<|Zl RR Y<|Zv (OP WD Y Y)<|A4<|AY Y (fun bn=>?_) (fun bn=>?_);·
  have hy:afQ q c=none:=by have h8:=h2.some_;cases G:afQ q c with|none=>rfl|some y=>(rw [G]at h8;cases p2<;>simp at bn h8)
  refine AK Y<|Za Y<|An Y<|Zt<|DR V mc Y Y (by
   have I:jnT q c ps=(ps.filter fun p=>!Qy c.k p,true):=by unfold jnT;rw [As J,hy]
   exact ⟨.slice g9 _ c9,s9,by rw [I],by rw [I];exact h9,rfl⟩)
 obtain ⟨y,hy⟩:∃y,afQ q c=some y:=kk.1 (by rw [<-h2.some_];cases p2<;>simp at bn⊢);rw [hy]at h2;obtain ⟨b2,rfl,rfl⟩:=h2;refine B3<|AK Y<|Zv (Be (vs:=[]) (us:=[_]) Y Y)<|Xr [_,_] Y call332 Y V (Mo (B:=[(be,.cells #[I4 q.kd,I4 q.tb,I4 q.cl,I4 q.lo,I4 q.hi,I4 q.bq,I4 q.ot,I4 c.t,I4 c.k,.bool c.had,I4 c.o.a,I4 c.o.b,I4 c.o.c,.bool c.has,I4 c.n.a,I4 c.n.b,I4 c.n.c,.pointer O,I5 b2,I4 (mQ q (bfQ q c)),I4 (mQ q (afQ q c))] 311 (0,0))]) hU 333 [I5 be] (I7 (mQ q (afQ q c))) call333 (YQ fun x=>w8 q c O (some ⟨b2,0,none⟩) (mQ q (bfQ q c)) (mQ q (afQ q c)) be x)) ?_;have U:=UZ (I7 (mQ q (afQ q c))) ps
 obtain ⟨z9,d9⟩:∃z,z=He (I7 (mQ q (afQ q c))) ps:=⟨_,rfl⟩;rw [<-d9]at U⊢;refine AH Y<|B8 Y<|Zv (Dy Y Y)<|A4<|Ak Y (fun X=>?_) (fun X=>?_);·
  have I:jnT q c ps=(ps.filter fun p=>!Qy c.k p,(bfQ q c).isSome&&decide (mQ q (bfQ q c)=mQ q (afQ q c))):=by unfold jnT;rw [As J];split;rename_i G;rw [hy]at G;cases G;rw [Ax (by rw [<-d9];exact X)]
  refine Zq<|Ay (n:=13) (0::0::2::6::14::30::62::30::158::510::1022::31::4095::[]) 0 AD AD V<|A1 0 V (AP Y)<|A1 1 V (AB (off:=17) Fl V rfl N3 Y)<|Bm 2 V RR Y<|A1 3 V (G6 WD Y Y)<|A1 4 V (AP Y)<|DK (t:=74) Y (fun h1=>?_) (fun h1=>?_);focus
   rw [h1];refine B4 5 V (AB (off:=19) Fl V rfl A6 Y)<|FF 6 V Wh (BK AE Y B1)<|B4 7 V (AB (off:=20) Fl V rfl A6 Y)<|FF 8 V Wh (BK AE Y B1)<|B4 9 V (CO Y Y)<|A1 10 V (AU Y Y) ?_
  rotate_left
  focus
   rw [h1];refine AW 5 V<|AW 6 V<|AW 7 V<|AW 8 V<|AW 9 V<|A1 10 V (AJ Y Y) ?_
  all_goals
   refine A1 11 V (BC Y)<|A1 12 V (BC Y)<|Aq<|Zn [4,5] ?_;refine Zx<|AL<|Zt<|DR rfl mc Y Y (by exact ⟨.slice g9 _ c9,s9,by rw [I,<-e1,h1];rfl,by rw [I];exact h9,rfl⟩)
 rcases U with⟨G,_⟩|⟨k,p,G,hp,_,_⟩
 · exact absurd G A0
 subst G;have I:jnT q c ps=((Px (fun p=>Lv q y p.l) (ps.filter fun p=>!Qy c.k p) ⟨y,p.r⟩),true):=by
  unfold jnT;rw [As J];split;· rename_i G;rw [hy]at G;cases G
  · rename_i y0 G;rw [hy]at G;injection G with G;subst G;rw [<-d9,As A0,SJ,OR,hp];rfl
 have hk:=(C7.1 hp).1;obtain ⟨g,ek,cur,z,cu,rfl,gQ,W⟩:=E9 hl A0;injection cu with hv1 hv2 hv3
 subst hv1 hv3;obtain ⟨_,ic,gq⟩:=RQ W hp;refine AC<|C6<|Zo Wh (A9 eE cH Y B5 (Az V))<|Zc [_] Y call298 Y V (Rp q gm c O (mQ q (bfQ q c)) (mQ q (afQ q c)) y b2) ?_;rintro _ _ ⟨_,⟨b8,b9,rfl,rfl⟩,rfl⟩;refine Ze (Al zeroValue294 #[_])<|AF fun bb=>Xe (Zs sizeOf294 Y Y V (hc:=by exact (V:_=(#[.func (.func 328) #[] ([I5 b8,I5 b9]:List A2).toArray]:AN))) (hi:=by decide))<|Z0<|Zn [1,2,9,10,11] ?_;refine Zx<|Zq<|Cc (s1:=[(bb,_)]) (s2:=_++_++[(b2,_)]) Wo Wo ?_;refine Ay (n:=15) (0::0::2::6::14::0::0::96::224::480::1022::0::4095::8191::16383::[]) 4096 AD AD V<|A1 0 V (AP Y)<|A1 1 V (AB (off:=18) Fl V rfl N3 Y)<|Bm 2 V RR Y<|A1 3 V (Ao Y V)<|Cn (b:=b2) (x:= .cells y.BM4 83 (0,0)) (D':=31) 4 V rfl V B7 (Pa y.BM4 DM B6 Y) ?_;refine A1 5 V (AP Y)<|A1 6 V (AP Y)<|A1 7 V (AZ HG HQ Y Y A0)<|A1 8 V (Ar (off:=5) Wa V rfl B6 Y)<|G3 9 V Wh (A9 (cs:=p.r.BM4) DM B6 Y A0 gq)<|A1 10 V (BN (vs:=[(0,.agg y.BM4),(1,.agg p.r.BM4)]) (cs:=#[I4 y.t,I4 y.k,I4 y.v.a,I4 y.v.b,I4 y.v.c,I4 p.r.t,I4 p.r.k,I4 p.r.v.a,I4 p.r.v.b,I4 p.r.v.c]) Y (Aa (pl:=#[(0,5),(5,5)]) j7 Wa (fun _=>by kernel_rfl) AD))<|A1 11 V (Be (vs:=[]) (us:=[_]) Y Y)<|Zz (l:=[12])<|BW [false,false,false] [] V rfl (Zw [_,_,_] Y call334 Y V (UW h9 A0 ⟨y,p.r⟩ 335 [I5 bb] (fun p=>Lv q y p.l) call335 (fun x=>xo 328 ([I5 b8,I5 b9]:List A2) (Lv q y) call328 (fun x=>eX q gm c O (mQ q (bfQ q c)) (mQ q (afQ q c)) y b2 b8 b9 x) bb x))) ?_ Bv Aj;rintro _ _ ⟨_,⟨s5,s6,h5,rfl⟩,rfl⟩;refine ⟨Ab,?_⟩;obtain ⟨g5,c5,rfl⟩:=h5.form;refine A1 13 V (BC Y)<|A1 14 V (BC Y)<|Aq<|Zn [4,5] ?_;refine Zx<|AL<|DR rfl mc Y Y (by exact ⟨.slice g5 _ c5,s5,by rw [I],by rw [I];exact h5,rfl⟩)
theorem iQ(q:QM)(c:Chg)(r:C8):(DJ q c r).1.val=r.val:=by unfold DJ;split<;>rfl
theorem iR(q:QM)(c:Chg)(r:C8):(DJ q c r).1.rows.length<=r.rows.length+2:=by
 unfold DJ;split;· exact i6 _ _
 · show(DW _).length<=_
   have h:=lu q c (F6 r.rows);rw [KZ]at h;rw [IU];omega
theorem mJ{rs:List AV}{x:AV}(g:Bq cur 0 (Ae rs))(hx:rs[k]?=some x):k*5+5<=cur.size/\cur.extract (0+k*5) (0+k*5+5)=x.BM4:=dS g hx
theorem AA0(g:Bq cur 0 (Am rs))(hx:rs[k]?=some x):k*10+10<=cur.size/\cur.extract (0+k*10) (0+k*10+10)=#[I4 x.l.t,I4 x.l.k,I4 x.l.v.a,I4 x.l.v.b,I4 x.l.v.c,I4 x.r.t,I4 x.r.k,I4 x.r.v.a,I4 x.r.v.b,I4 x.r.v.c]:=XL g hx
variable{r:C8}{rv:A2}
set_option maxHeartbeats 1000000 in
theorem iI(q:QM)(kv:0<=q.cl/\q.cl<=3)(c:Chg)(p1 p2:BE)(e1:p1.isSome=(bfQ q c).isSome)(h2:J2 p2 (afQ q c) s2){sr:List A8}(hr:BU 5 83 rv r.rows.length (Ae r.rows) sr)(hn:r.rows.length<=100000000):BS prog 262 #[.agg (q.HL c p1 p2 (mQ q (bfQ q c)) (mQ q (afQ q c))),.agg #[rv,I4 r.val,.bool r.fnd]] [sr,s2] (fun w H'=>∃ic s',w= .tuple #[.agg #[ic,I4 (DJ q c r).1.val,.bool (DJ q c r).1.fnd],.bool (DJ q c r).2]/\BU 5 83 ic (DJ q c r).1.rows.length (Ae (DJ q c r).1.rows) s'/\H'=[s']):=by
 have p8:=mL;obtain ⟨pv,cv,rfl⟩:=hr.form;refine Se func262 ntmps262 [0,1] ?_;intro u R;refine A3<|Ze (Fu Y (cs:=(q.HL c p1 p2 (mQ q (bfQ q c)) (mQ q (afQ q c)))) (GQ q c p1 p2 (mQ q (bfQ q c)) (mQ q (afQ q c))))<|AF fun be=>Ze (Bx #[.slice pv r.rows.length cv,I4 r.val,.bool r.fnd])<|AF fun br=>Ze (Al HS #[_,_,_])<|AF fun bo=>CT Y<|A3<|Zh 0 Fl V rfl D4 Y<|Zv (Ar (off:=1) DB V rfl A6 Y)<|Zl AE Y ?_;refine Zh 0 Fl V rfl D4 Y<|Zv (Ar (off:=6) DB V rfl A6 Y)<|Zl AE Y ?_;refine Zv (CO Y Y)<|A4<|Ak Y (fun X=>?_) (fun X=>?_);·
  refine A3<|Zo Wh (A9 (cs:=#[_,_,_]) EV C5 Y B5 B1) ?_;refine Xe (Xw C5 _) ?_;refine B2 Y<|Zn [4,5] ?_;refine Zx<|AL<|Zt<|CS V results262 Y Wh (Av EV C5 Wn (V)) Y (by
   have e8:DJ q c r=(r,false):=by unfold DJ;rw [Ax X]
   exact ⟨.slice pv r.rows.length cv,sr,by rw [e8];rfl,by rw [e8];exact hr,rfl⟩)
 refine AC<|C6<|CT Y<|Zq<|Bc<|Zg<|B2 Y<|Zn [2,3,4,6,7] ?_;refine Zx<|AQ<|Zb [6,7,2,3,4] ?_;refine Aw (e0:=[(6,_),(7,_)]) (fun m e H=>∃(k:Nat) (K:BE) (ck:Nat) (W:List A8),m=r.rows.length -k/\(k<=r.rows.length/2/\BU 10 421 (.slice K k ck) k (Am ((F6 r.rows).take k)) W)/\e=[(6,.slice K k ck),(7,I4 ((2*k:Nat):Int))]/\H=[W]) (by exact ⟨0,none,0,[],V,⟨CM _,Bh 10 _⟩,V,V⟩) Wp ?_;rintro _ _ _ ⟨k,K,ck,W,rfl,⟨hk,I⟩,rfl,rfl⟩;refine Zq<|Zq<|Bc<|Zg<|Zm Y<|Ya (n:=1) Y Y<|Zh 0 FA V rfl E3 Y<|Zl GP Y ?_;refine Zv (AR C2 Y)<|Zv (Ap Y Y)<|A4<|Ak Y (fun J=>?_) (fun J=>?_);·
  obtain ⟨x,hx⟩:∃x,r.rows[2*k]?=some x:=⟨_,BT A0⟩;obtain ⟨y,hy⟩:∃y,r.rows[2*k+1]?=some y:=⟨_,BT A0⟩;obtain ⟨g,af,cur,z,Z,rfl,gy,G⟩:=E9 hr A0;injection Z with hv1 hv2 hv3
  subst hv1 hv3;obtain ⟨o8,d9⟩:=mJ G hx;obtain ⟨o9,gm⟩:=mJ G hy;refine B3<|Zq<|AQ<|Ay (n:=16) (0::0::2::0::14::30::0::64::0::256::960::1984::4094::8190::16383::32767::[]) 24576 AD AD V<|A1 0 V (AP Y)<|A1 1 V (AB (off:=0) FA V rfl E3 Y)<|Bm 2 V GP Y ?_;refine A1 3 V (AP Y)<|A1 4 V (AZ C2 B6 Y Y A0)<|G3 5 V Wh (A9 (cs:=#[_,_,_,_,_]) DM B6 Y A0 d9) ?_;refine A1 6 V (AB (off:=0) FA V rfl E3 Y)<|Bm 7 V GP Y ?_;refine A1 8 V (AP Y)<|A1 9 V (EP (n:=1) Y Y A0)<|A1 10 V (AZ C2 B6 Y Y A0)<|G3 11 V Wh (A9 (cs:=#[_,_,_,_,_]) DM B6 Y A0 gm) ?_;refine A1 12 V (BN (vs:=[(0,.agg x.BM4),(1,.agg y.BM4)]) (cs:=#[I4 x.t,I4 x.k,I4 x.v.a,I4 x.v.b,I4 x.v.c,I4 y.t,I4 y.k,I4 y.v.a,I4 y.v.b,I4 y.v.c]) Y (Aa (pl:=#[(0,5),(5,5)]) j7 Wa (fun _=>by kernel_rfl) AD))<|Yw 13 16383 V (Ah (vs:=[_]) (cs:=[_,_,_,_,_,_,_,_,_,_]) HG HQ j7 Y V rfl V rfl V)<|AF fun gp=>Yw 14 32767 V (BP (by_:=80) (sz:=10) HG (V:Tryz.prog.info? 421=some Tryz.t421) V rfl V rfl Y (I) Y (Cu 10 gp 1 1 421 (0,0) (Am [⟨x,y⟩]) V) Wo Wo (by exact Ew _) A0 A0) ?_;rintro _ _ ⟨l5,O,rfl⟩;obtain ⟨j5,j3,rfl⟩:=O.form;refine A1 15 V (BC Y)<|Aq<|Zn [2,3,4,6,7] ?_;refine AA<|Zx<|Bc<|Zg<|Zm Y<|Ya (n:=2) Y Y<|B2 Y<|DG (e:=[(6,_),(7,_)]) (h:=by exact ⟨k+1,j5,j3,l5,rfl,⟨by omega,BZ O rfl (by rw [Bl (A47 hx hy),DL])⟩,rfl,rfl⟩)
 have ek:k=(F6 r.rows).length:=by rw [KZ];omega
 have gQ:=BZ I ek (by rw [ek,HE]);refine BA<|Zt<|Zt<|AX<|C6<|Zo Wh (A9 eE cH Y B5 (Az V)) ?_;refine Zm Y<|Zc [_,_] Y call300 Y rfl (jT q kv c p1 p2 e1 h2 gQ (by rw [KZ];omega)) ?_;rintro _ _ ⟨_,⟨lv,s5,rfl,h5,rfl⟩,rfl⟩;have e8:DJ q c r=(⟨DW (jnT q c (F6 r.rows)).1,r.val,r.fnd⟩,(jnT q c (F6 r.rows)).2):=by unfold DJ;rw [As X]
 have cu:=lu q c (F6 r.rows);rw [KZ]at cu;obtain ⟨L,hL⟩:∃L,L=(jnT q c (F6 r.rows)).1:=⟨_,rfl⟩;rw [<-hL]at h5 e8 cu;obtain ⟨g5,c5,rfl⟩:=h5.form;refine Zm Y<|Zd Y V<|Zd Y V<|Za Y<|B2 Y<|Zn [3,4,6,8] ?_;refine C6<|Zh 0 FA V rfl E3 Y<|Xe (Zs E3 Y Y V (hc:=by exact (V:_=(#[.slice none 0 0,I4 r.val,.bool r.fnd]:AN))) (hi:=by(simp;done))) ?_;refine A4<|Zq<|Zq<|Bc<|Zg<|Zm Y<|Zv (AR HG Y)<|Zm Y<|A4<|AQ<|Zb [51,3,4,8,49,50] ?_;refine Aw (e0:=[(51,_)]) (fun m e H=>∃(k:Nat) (K:BE) (ck:Nat) (W:List A8),m=L.length -k/\(k<=L.length/\BU 5 83 (.slice K (2*k) ck) (2*k) (Ae (DW (L.take k))) W)/\e=[(51,I4 (k:Int))]/\H=[[(br,.cells #[.slice K (2*k) ck,I4 r.val,.bool r.fnd] 60 (0,0))],W]) (by exact ⟨0,none,0,[],V,⟨CM _,Bh 5 _⟩,V,V⟩) Wp ?_;rintro _ _ _ ⟨k,K,ck,W,rfl,⟨hk,I⟩,rfl,rfl⟩;refine Zq<|Bc<|Zg<|Zv (Ap Y Y)<|A4<|Zq<|Ak Y (fun J=>?_) (fun J=>?_);·
  obtain ⟨p,hp⟩:∃p,L[k]?=some p:=⟨_,BT J⟩;obtain ⟨g,af,cur,z,Z,rfl,gy,G⟩:=E9 h5 A0;injection Z with hv1 hv2 hv3
  subst hv1 hv3;obtain ⟨l9,cO⟩:=AA0 G hp;refine B3<|Zq<|AQ<|Zq<|Bc<|Zg<|BX (AZ HG HQ Y Y A0)<|Zo Wh (A9 (cs:=#[_,_,_,_,_,_,_,_,_,_]) isAgg421 HQ Y A0 cO) ?_;refine Ze (Al j7 #[_,_,_,_,_,_,_,_,_,_])<|AF fun bp=>Xe (Xw HQ #[I4 p.l.t,I4 p.l.k,I4 p.l.v.a,I4 p.l.v.b,I4 p.l.v.c,I4 p.r.t,I4 p.r.k,I4 p.r.v.a,I4 p.r.v.b,I4 p.r.v.c]) ?_;refine A4<|Zg<|Zh 0 FA V rfl E3 Y<|Zl GP Y ?_;refine Zh 0 Wa V rfl B6 Y<|Zo Wh (A9 (cs:=#[_,_,_,_,_]) DM B6 Y B5 B1) ?_;refine Zh 5 Wa V rfl B6 Y<|Zo Wh (A9 (cs:=#[_,_,_,_,_]) DM B6 Y B5 B1) ?_;refine Ze (Ah (vs:=[_,_]) (cs:=[_,_,_,_,_,_,_,_,_,_]) C2 B6 Ft Y V rfl V rfl V)<|AF fun gq=>Ze (BP (by_:=40) (sz:=5) C2 (V:Tryz.prog.info? 83=some Tryz.t83) V rfl V rfl Y (I) Y (Cu 5 gq 2 2 83 (0,0) (Ae [p.l,p.r]) V) Wo Wo (by exact CX _) A0 A0) ?_;rintro _ _ ⟨l8,U,rfl⟩;obtain ⟨bn,ax,rfl⟩:=U.form;refine Zh 0 FA V rfl E3 Y<|Xe (Zs E3 Y Y V (hc:=by exact (V:_=(#[.slice bn (2*k+2) ax,I4 r.val,.bool r.fnd]:AN))) (hi:=by(simp;done))) ?_;refine Z0<|Zn [3,4,8,49,50,51] ?_;refine AA<|Zx<|Bc<|Dg Y Y Y<|DG (e:=[(51,_)]) (h:=by exact ⟨k+1,bn,ax,l8,rfl,⟨by omega,BZ U rfl (by rw [TV hp,Bt])⟩,rfl,rfl⟩)
 have ek:k=L.length:=by omega
 subst ek;rw [HE]at I;refine BA<|Zt<|Zt<|AX<|C6<|Zo Wh (A9 (cs:=#[_,_,_]) EV C5 Y B5 B1) ?_;refine Zm Y<|Xe (Xw C5 _) ?_;refine An Y<|CS rfl results262 Y Wh (Av EV C5 Wn (rfl)) Y (by exact ⟨.slice K (2*L.length) ck,W,by rw [e8];rfl,by rw [e8];exact BZ I (IU L).symm rfl,rfl⟩)
def CE(q:QM)(c:Chg)(r:C8):C8×Bool:=
 if q.kd=1\/q.kd=2 then(⟨EB q c r.rows,r.val,r.fnd⟩,true)
 else if q.kd=3 then(⟨r.rows,if(afQ q c).isSome then r.val+1 else r.val -1,r.fnd⟩,true)
 else if q.kd=4 then(⟨r.rows,r.val+(mQ q (afQ q c) -mQ q (bfQ q c)),r.fnd⟩,true)
 else if q.kd=5 then LW (fun a b=>decide (a<b)) (bfQ q c).isSome (afQ q c).isSome (mQ q (bfQ q c)) (mQ q (afQ q c)) r
 else if q.kd=6 then LW (fun a b=>decide (b<a)) (bfQ q c).isSome (afQ q c).isSome (mQ q (bfQ q c)) (mQ q (afQ q c)) r
 else DJ q c r
theorem iP(q:QM)(c:Chg)(r:C8):(CE q c r).1.rows.length<=r.rows.length+2:=by
 have h:=VM q c r.rows;unfold CE;split;· exact SZ h (Nat.le_succ _)
 · split
   · exact i6 _ _
   · split
     · exact i6 _ _
     · split
       · rw [Ng];exact i6 _ _
       · split
         · rw [Ng];exact i6 _ _
         · exact iR q c r
set_option maxHeartbeats 1000000 in
theorem We(q:QM)(c:Chg)(K O:BE)(o n:Int)(r:C8)(pv:BE)(Z U b G:Nat)(lt:Int->Int->Bool)(I:∀(args:AN) (w:A5),(callFunc G args).run prog w= .ok (.enter G args) w)(J:∀x y:Int,Au prog G #[I4 x,I4 y] [] (.bool (lt x y))):Au prog 299 #[.agg (q.HL c K O o n),.agg #[.slice pv Z U,I4 r.val,.bool r.fnd],I5 b] [[(b,.cells #[.func (.func G) #[] #[]] 286 (0,0))]] (.tuple #[.agg #[.slice pv Z U,I4 (LW lt K.isSome O.isSome o n r).1.val,.bool (LW lt K.isSome O.isSome o n r).1.fnd],.bool (LW lt K.isSome O.isSome o n r).2]):=by
 refine Se func299 ntmps299 [0,1,2] ?_;intro u R;refine A3<|Ze (Fu Y (cs:=(q.HL c K O o n)) (GQ q c K O o n))<|AF fun be=>Ze (Bx #[.slice pv Z U,I4 r.val,.bool r.fnd])<|AF fun br=>Ze (Al HS #[_,_,_])<|AF fun b3=>CT Y<|Zb [2,3,4,5] ?_;refine CP (e0:=[]) (H0:=[]) (fun e H=>∃(w1:Bool),(w1=(K.isSome&&(!r.fnd||!lt r.val o)))/\e=[(24,.bool w1)]/\H=[]) Wp ?hx_1 ?hy_1
 case hx_1=>
  refine Zg<|Zh 17 Fl V rfl N3 Y<|Zl RR Y ?_;refine Zv (G6 WD Y Y)<|Zm Y<|Ad (t:=11) Y V (fun h1=>?_) (fun h1=>?_);focus
   refine Yf 2 FA V rfl F1 Y<|Yl G0 Y ?_;refine Yg (Bo Y)<|Zf Y Y ?_;refine Ad (t:=15) Y V (fun h2=>?_) (fun h2=>?_);focus
    refine AG<|AG<|AG<|C4<|Yg (AU Y Y)<|Zv (AU Y Y) ?_
   rotate_left
   focus
    refine Yl isAgg286 Y ?_;refine Yf 1 FA V rfl A6 Y<|Yl AE Y ?_;refine Yf 19 Fl V rfl A6 Y<|Yl AE Y ?_;refine Xr [_,_] Y (I) Y V (J (r.val) (o)) ?_;refine Yg (Bo Y)<|Yg (AJ Y Y)<|Zv (AU Y Y) ?_
  rotate_left 2
  focus
   refine AG<|AG<|AG<|AG<|AG<|AG<|Zv (AJ Y Y) ?_
  all_goals
   refine Z0<|HB (e:=[(24,_)]) (h:=by exact ⟨_,by simp_all,V,V⟩)
 rintro _ _ ⟨w1,g,rfl,rfl⟩;refine AY Y (fun W=>?_) (fun W=>?_);·
  rw [W]at g;refine Zb [2,3,4,5] ?_;refine CP (e0:=[(2,_)]) (H0:=[]) (fun e H=>∃(w2:Bool),(w2=((O.isSome&&r.fnd)&&!lt r.val n))/\e=[(7,.bool w2)]/\H=[]) Wp ?hx_5 ?hy_5
  case hx_5=>
   refine Zg<|Zh 18 Fl V rfl N3 Y<|Zl RR Y ?_;refine Zv (G6 WD Y Y)<|Zm Y<|Ad (t:=28) Y V (fun h4=>?_) (fun h4=>?_);focus
    refine Yf 2 FA V rfl F1 Y<|Yl G0 Y ?_;refine C1 Y Y<|Zm Y<|Ad (t:=32) Y V (fun h5=>?_) (fun h5=>?_);refine Yl isAgg286 Y ?_;refine Yf 1 FA V rfl A6 Y<|Yl AE Y ?_;refine Yf 20 Fl V rfl A6 Y<|Yl AE Y ?_;refine Xr [_,_] Y (I) Y V (J (r.val) (n)) ?_;refine Yg (Bo Y)<|C1 Y Y<|B2 Y<|HB (e:=[(7,_)]) (h:=by exact ⟨_,by simp_all,V,V⟩)
   rotate_left
   focus
    refine AG<|B9 Y Y<|Zm Y ?_
   all_goals
    refine AG<|AG<|AG<|C4<|B9 Y Y<|B2 Y<|HB (e:=[(7,_)]) (h:=by exact ⟨_,by simp_all,V,V⟩)
  rintro _ _ ⟨w2,af,rfl,rfl⟩;refine A3<|Zh 20 Fl V rfl A6 Y<|Zl AE Y ?_;refine Zh 1 FA V rfl A6 Y<|Xe (Zs A6 Y Y V (hi:=by(simp;done))) ?_;refine A4<|A3<|Zo Wh (A9 (cs:=#[_,_,_]) EV C5 Y B5 B1) ?_;refine Zm Y<|Xe (Xw C5 _) ?_;refine An Y<|Zt<|CS V results299 Y Wh (Av EV C5 Wn (V)) Y (by
   refine ⟨?_,V⟩;unfold LW;rw [<-g];clear g;try(rw [<-m];clear m)
   simp_all<;>rfl)
 rw [W]at g;refine B3<|Zq<|A3<|Zh 18 Fl V rfl N3 Y<|Zl RR Y ?_;refine Zv (G6 WD Y Y)<|A4<|AY Y (fun h6=>?_) (fun h6=>?_);focus
  refine Zq<|Zb [2,3,4,5] ?_;refine CP (e0:=[(2,_)]) (H0:=[]) (fun e H=>∃(w3:Bool),(w3=(!r.fnd||lt n r.val))/\e=[(59,.bool w3)]/\H=[]) Wp ?hx_10 ?hy_10
  case' hx_10=>
   refine Zg<|Zh 2 FA V rfl F1 Y<|Zl G0 Y ?_;refine Zv (Bo Y)<|Zm Y<|Ad (t:=52) Y V (fun h7=>?_) (fun h7=>?_);focus
    refine AG<|AG<|AG<|Zv (AU Y Y) ?_
   rotate_left
   focus
    refine Yl isAgg286 Y ?_;refine Yf 20 Fl V rfl A6 Y<|Yl AE Y ?_;refine Yf 1 FA V rfl A6 Y<|Yl AE Y ?_;refine Xr [_,_] Y (I) Y V (J (n) (r.val)) ?_;refine Zv (AJ Y Y) ?_
   all_goals
    refine Z0<|HB (e:=[(59,_)]) (h:=by exact ⟨_,by simp_all,V,V⟩)
  case' hy_10=>
   rintro _ _ ⟨w3,m,rfl,rfl⟩;refine AY Y (fun X=>?_) (fun X=>?_);focus
    rw [X]at m;refine Zg<|Zh 20 Fl V rfl A6 Y<|Zl AE Y ?_;refine Zh 1 FA V rfl A6 Y<|Xe (Zs A6 Y Y V (hi:=by(simp;done))) ?_;refine A4<|Zg<|Zh 2 FA V rfl F1 Y<|Xe (Zs F1 Y Y V (hi:=by(simp;done))) ?_;refine Z0 ?_
   rotate_left
   focus
    rw [X]at m;refine B3<|Zg<|Zh 2 FA V rfl F1 Y<|Xe (Zs F1 Y Y V (hi:=by(simp;done))) ?_;refine Z0 ?_
 rotate_left 2
 focus
  refine AC ?_
 all_goals
  refine C6<|Zo Wh (A9 (cs:=#[_,_,_]) EV C5 Y B5 B1) ?_;refine Xe (Xw C5 _) ?_;refine An Y<|CS V results299 Y Wh (Av EV C5 Wn (V)) Y (by
   refine ⟨?_,V⟩;unfold LW;rw [<-g];clear g;try(rw [<-m];clear m)
   simp_all<;>rfl)
theorem A73(x y:Int):Au prog 258 #[I4 x,I4 y] [] (.bool (decide (x<y))):=by
 refine Se func258 ntmps258 [0,1] ?_;intro u R;refine A3<|AH Y<|AK Y<|Zm Y<|Zv (Dy Y Y)<|An Y<|AO V results258 Y (by exact ⟨V,V⟩)
theorem A75(x y:Int):Au prog 260 #[I4 x,I4 y] [] (.bool (decide (y<x))):=by
 refine Se func260 ntmps260 [0,1] ?_;intro u R;refine A3<|AH Y<|AK Y<|Zm Y<|Zv (F4 Y Y)<|An Y<|AO V results260 Y (by exact ⟨V,V⟩)
def Gm(k:Int):Nat:=if k=1 then 251 else if k=2 then 251 else if k=3 then 253 else if k=4 then 255 else if k=5 then 299 else if k=6 then 299 else 262
def Iw(b5 b6:Nat)(k:Int):List A2:=if k=5 then [I5 b5]else if k=6 then [I5 b6]else []
theorem XA{lm:List (Int×A2)}{g m:Nat}(h:∀p,p∈lm↔p∈Mm g m)(hn:(lm.map (·.1)).Nodup){k:Int}(G:1<=k/\k<=7):EM k lm=some (.agg #[.func (.func (I9 k)) #[] #[],.func (.func (Gm k)) #[] (Iw g m k).toArray]):=by
 obtain h9|h9|h9|h9|h9|h9|h9:k=1\/k=2\/k=3\/k=4\/k=5\/k=6\/k=7:=by omega
 all_goals subst h9
 all_goals exact bM h hn (by simp [Mm,I9,Gm,Iw])
theorem U3{k:Int}(g:1<=k/\k<=7):∀(args:AN) (w:A5),(callFunc (Gm k) args).run prog w= .ok (.enter (Gm k) args) w:=by
 obtain h|h|h|h|h|h|h:k=1\/k=2\/k=3\/k=4\/k=5\/k=6\/k=7:=by omega
 all_goals (subst h;simp only [Gm];first|exact call251|exact call253|exact call255|exact call299|exact call262)
theorem IP{P:Program}{f:FuncId}{args:AN}{H H1:Hp}{Q G:A2->Hp->Prop}(h:BS P f args H Q)(F:Hp)(O:H1.flatten.Perm (H++F).flatten)(U:∀v H',Q v H'->∃g E,G v g/\(H'.flatten++F.flatten).Perm (g.flatten++E)):BS P f args H1 G:=fun u R w W=>
 Calls.mono (h u (F++R) w (W.perm (by rw [HW,<-DH,HW (L₁:=H++F)];exact O.append_right _))) fun e X K=>by
  rcases K with⟨v,H',rfl,m,h2⟩|⟨ch,H',rfl,m,h2⟩
  · obtain ⟨g,E,I,J⟩:=U v H' m
    refine .inl ⟨v,g,V,I,h2.sub ⟨E,?_⟩⟩;rw [HW,HW,HW,<-DH];refine (J.append_right _).trans ?_;rw [DH,DH];exact OS.append_left _
  · exact m.elim
def MIn(q:QM)(c:Chg):Prop:=(-1000000000<=mQ q (bfQ q c)/\mQ q (bfQ q c)<=1000000000)/\-1000000000<=mQ q (afQ q c)/\mQ q (afQ q c)<=1000000000
theorem u3{b:Bool}{x:AV}(h:b=true->x.ok):-1000000000<=mQ q (Iz q b x)/\mQ q (Iz q b x)<=1000000000:=by
 unfold Iz;split
 · rename_i h9
   rw [Ge]at h9;exact Xo (h h9.1) q.bq
 · exact ⟨by show(-1000000000:Int)<=0;decide,by show(0:Int)<=1000000000;decide⟩
theorem qq(q:QM)(h:c.ok):MIn q c:=by
 obtain ⟨_,h2,_⟩:=h;refine ⟨u3 fun g=>?_,u3 fun g=>?_⟩
 · rw [N9 g]at h2
   exact HP.1 fun m=>h2 (.inl ⟨g,m⟩)
 · rw [KC g]at h2
   exact HP.1 fun m=>h2 (.inr ⟨g,m⟩)
theorem UO(q:QM)(c:Chg)(hq:BH q)(hm:MIn q c){O U:BE}{s1:List A8}(ax:J2 O (bfQ q c) s1)(W:J2 U (afQ q c) s2)(g m:Nat)(r:C8)(pv:BE)(X:Nat)(I:List A8)(Z:BU 5 83 (.slice pv r.rows.length X) r.rows.length (Ae r.rows) I)(hn:r.rows.length<=100000000)(hv:-4000000000000000000<=r.val/\r.val<=4000000000000000000):
 BS prog (Gm q.kd) (.agg (q.HL c O U (mQ q (bfQ q c)) (mQ q (afQ q c))):: .agg #[.slice pv r.rows.length X,I4 r.val,.bool r.fnd]::Iw g m q.kd).toArray [I,s2,[(g,.cells #[.func (.func 258) #[] #[]] 286 (0,0))],[(m,.cells #[.func (.func 260) #[] #[]] 286 (0,0))]] (fun w H'=>∃G K,w= .tuple #[.agg #[G,I4 (CE q c r).1.val,.bool (CE q c r).1.fnd],.bool (CE q c r).2]/\BU 5 83 G (CE q c r).1.rows.length (Ae (CE q c r).1.rows) K/\H'=[K]):=by
 have e1:=ax.some_;have e2:=W.some_
 have af:=hq.2.1;have hk:q.kd=1\/q.kd=2\/q.kd=3\/q.kd=4\/q.kd=5\/q.kd=6\/q.kd=7:=by have:=hq.2.2.2;omega
 have J:(q.kd=1\/q.kd=2)->CE q c r=(⟨EB q c r.rows,r.val,r.fnd⟩,true):=fun h=>by unfold CE;rw [Ax h]
 have P1:=iB q c O U (mQ q (bfQ q c)) (mQ q (afQ q c)) af Z hn W;have P7:=iI q af c O U e1 W Z hn
 have P3:=aa q c O U (mQ q (bfQ q c)) (mQ q (afQ q c)) pv r.rows.length X hv;have P4:=oH q c O U (mQ q (bfQ q c)) (mQ q (afQ q c)) pv r.rows.length X hv hm
 have P5:=We q c O U (mQ q (bfQ q c)) (mQ q (afQ q c)) r pv r.rows.length X g 258 (fun a b=>decide (a<b)) call258 A73;have P6:=We q c O U (mQ q (bfQ q c)) (mQ q (afQ q c)) r pv r.rows.length X m 260 (fun a b=>decide (b<a)) call260 A75
 rw [e2]at P3;rw [e1,e2]at P5 P6;rcases hk with h|h|h|h|h|h|h
 · rw [show Gm q.kd=251 by rw [h];rfl,show Iw g m q.kd=[] by rw [h];rfl,J (.inl h)]
   refine IP P1 [[(g,.cells #[.func (.func 258) #[] #[]] 286 (0,0))],[(m,.cells #[.func (.func 260) #[] #[]] 286 (0,0))]] B7 ?_;rintro w H' ⟨G,K,rfl,h3,rfl⟩;exact ⟨[K],_,⟨G,K,V,h3,V⟩,by simp;exact .refl _⟩
 · rw [show Gm q.kd=251 by rw [h];rfl,show Iw g m q.kd=[] by rw [h];rfl,J (.inr h)]
   refine IP P1 [[(g,.cells #[.func (.func 258) #[] #[]] 286 (0,0))],[(m,.cells #[.func (.func 260) #[] #[]] 286 (0,0))]] B7 ?_;rintro w H' ⟨G,K,rfl,h3,rfl⟩;exact ⟨[K],_,⟨G,K,V,h3,V⟩,by simp;exact .refl _⟩
 · rw [show Gm q.kd=253 by rw [h];rfl,show Iw g m q.kd=[] by rw [h];rfl,show CE q c r=(⟨r.rows,if(afQ q c).isSome then r.val+1 else r.val -1,r.fnd⟩,true) by unfold CE;rw [As A0,Ax h]]
   refine IP P3 [I,s2,[(g,.cells #[.func (.func 258) #[] #[]] 286 (0,0))],[(m,.cells #[.func (.func 260) #[] #[]] 286 (0,0))]] B7 ?_;rintro w H' ⟨rfl,rfl⟩;exact ⟨[I],_,⟨_,I,V,Z,V⟩,by simp;exact .refl _⟩
 · rw [show Gm q.kd=255 by rw [h];rfl,show Iw g m q.kd=[] by rw [h];rfl,show CE q c r=(⟨r.rows,r.val+(mQ q (afQ q c) -mQ q (bfQ q c)),r.fnd⟩,true) by unfold CE;rw [As A0,As A0,Ax h]]
   refine IP P4 [I,s2,[(g,.cells #[.func (.func 258) #[] #[]] 286 (0,0))],[(m,.cells #[.func (.func 260) #[] #[]] 286 (0,0))]] B7 ?_;rintro w H' ⟨rfl,rfl⟩;exact ⟨[I],_,⟨_,I,V,Z,V⟩,by simp;exact .refl _⟩
 · have e9:CE q c r=LW (fun a b=>decide (a<b)) (bfQ q c).isSome (afQ q c).isSome (mQ q (bfQ q c)) (mQ q (afQ q c)) r:=by unfold CE;rw [As A0,As A0,As A0,Ax h]
   have e8:(CE q c r).1.rows=r.rows:=by rw [e9,Ng]
   rw [show Gm q.kd=299 by rw [h];rfl,show Iw g m q.kd=[I5 g] by rw [h];rfl];rw [<-e9]at P5;refine IP P5 [I,s2,[(m,.cells #[.func (.func 260) #[] #[]] 286 (0,0))]] (by simp;rw [<-DH,<-DH];exact To) ?_;rintro w H' ⟨rfl,rfl⟩;exact ⟨[I],[(g,_)]++s2++_,⟨_,I,rfl,by rw [e8];exact Z,rfl⟩,by simp;exact To.symm⟩
 · have e9:CE q c r=LW (fun a b=>decide (b<a)) (bfQ q c).isSome (afQ q c).isSome (mQ q (bfQ q c)) (mQ q (afQ q c)) r:=by unfold CE;rw [As A0,As A0,As A0,As A0,Ax h]
   have e8:(CE q c r).1.rows=r.rows:=by rw [e9,Ng]
   rw [show Gm q.kd=299 by rw [h];rfl,show Iw g m q.kd=[I5 m] by rw [h];rfl];rw [<-e9]at P6;refine IP P6 [I,s2,[(g,.cells #[.func (.func 258) #[] #[]] 286 (0,0))]] (by simp;rw [<-DH,<-DH];exact ((List.Perm.swap _ _ []).append_left _).trans To) ?_;rintro w H' ⟨rfl,rfl⟩;exact ⟨[I],[(m,_)]++s2++_,⟨_,I,rfl,by rw [e8];exact Z,rfl⟩,by simp;exact To.symm⟩
 · rw [show Gm q.kd=262 by rw [h];rfl,show Iw g m q.kd=[] by rw [h];rfl,show CE q c r=DJ q c r by unfold CE;rw [As A0,As A0,As A0,As A0,As A0]]
   refine IP P7 [[(g,.cells #[.func (.func 258) #[] #[]] 286 (0,0))],[(m,.cells #[.func (.func 260) #[] #[]] 286 (0,0))]] B7 ?_;rintro w H' ⟨G,K,rfl,h3,rfl⟩;exact ⟨[K],_,⟨G,K,V,h3,V⟩,by simp;exact .refl _⟩
def Dt(q:QM)(c:Chg):Bool:=decide c.ok&&Ct q c
def Dh(q:QM)(c:Chg)(r:C8):C8×Bool:=if Dt q c then(if(CE q c r).2 then((CE q c r).1,true)else(C8.none,false))else(r,true)
def IG(q:QM)(r:C8):List Chg->Option C8
 |[]=>some r
 |c::cs=>if(Dh q c r).2 then IG q (Dh q c r).1 cs else none
theorem TT(q:QM):∀(a:List Chg) (r:C8) (b:List Chg),IG q r (a++b)=(IG q r a).bind fun g=>IG q g b
 |[],_,_=>rfl
 |c::a,r,b=>by
  show(if(Dh q c r).2 then IG q (Dh q c r).1 (a++b)else none)=(if(Dh q c r).2 then IG q (Dh q c r).1 a else none).bind fun g=>IG q g b;split;· exact TT q a _ b
  · rfl
def Bf(q:QM)(r:C8)(cs:List Chg):C8×Bool×Bool:=match IG q r cs with
 |some r'=>(r',cs.any (Dt q),true)
 |none=>(C8.none,true,false)
theorem nU(q:QM)(c:Chg)(r:C8):(Dh q c r).1.rows.length<=r.rows.length+2:=by
 have h:=iP q c r;unfold Dh;split
 · split
   · exact h
   · exact CM _
 · exact i6 _ _
theorem iO(g:MIn q c){B:Int}(h:-B<=r.val/\r.val<=B)(h0:0<=B):-(B+2000000000)<=(CE q c r).1.val/\(CE q c r).1.val<=B+2000000000:=by
 obtain ⟨⟨m,h2⟩,G,I⟩:=g;have hx:∀lt b a,-(B+2000000000)<=(LW lt b a (mQ q (bfQ q c)) (mQ q (afQ q c)) r).1.val/\(LW lt b a (mQ q (bfQ q c)) (mQ q (afQ q c)) r).1.val<=B+2000000000:=fun lt b a=>by
  unfold LW;split;· constructor<;>(simp only;omega)
  · split
    · simp only
      split<;>(constructor<;>omega)
    · constructor<;>(simp only;omega)
 unfold CE;split;· constructor<;>(simp only;omega)
 · split
   · simp only
     split<;>(constructor<;>omega)
   · split
     · constructor<;>(simp only;omega)
     · split
       · exact hx _ _ _
       · split
         · exact hx _ _ _
         · rw [iQ];constructor<;>omega
theorem nT{B:Int}(h:-B<=r.val/\r.val<=B)(h0:0<=B):-(B+2000000000)<=(Dh q c r).1.val/\(Dh q c r).1.val<=B+2000000000:=by
 unfold Dh;split
 · rename_i h9
   unfold Dt at h9;rw [Ge]at h9;split;· exact iO (qq q (IH h9.1)) h h0
   · constructor<;>(simp only [C8.none];omega)
 · constructor<;>(simp only;omega)
variable{cs:List Chg}
theorem QZ{g:C8}{x:Chg}(h:IG q r (cs.take k)=some g)(hx:cs[k]?=some x):IG q r (cs.take (k+1))=if(Dh q x g).2 then some (Dh q x g).1 else none:=by
 rw [Bl hx,TT,h];show IG q g [x]=_
 unfold IG IG;rfl
theorem WJ(h:IG q r (cs.take k)=none):IG q r cs=none:=by
 rw [<-LO k cs,TT,h];rfl
theorem XR{x:Chg}(f:Chg->Bool)(hx:cs[k]?=some x):(cs.take (k+1)).any f=((cs.take k).any f||f x):=by
 rw [Bl hx,tM,oT,oY,ie]
theorem Y0{q:QM}:∀(cs:List Chg) (r r':C8) (B:Int) (n:Nat),IG q r cs=some r'->(-B<=r.val/\r.val<=B)->0<=B->r.rows.length<=n->(-(B+2000000000*(cs.length:Int))<=r'.val/\r'.val<=B+2000000000*(cs.length:Int))/\r'.rows.length<=n+2*cs.length
 |[],r,r',B,n,h,h1,h2,h3=>by
  unfold IG at h;injection h with h
  subst h;simp only [MY];exact ⟨⟨by omega,by omega⟩,h3⟩
 |c::cs,r,r',B,n,h,h1,h2,h3=>by
  unfold IG at h;split at h
  · have g:=nT (q:=q) (c:=c) h1 h2
    have G:=nU q c r;have m:=Y0 cs _ r' (B+2000000000) (n+2) h g A0 A0
    rw [F2];obtain ⟨⟨I,J⟩,K⟩:=m;refine ⟨⟨?_,?_⟩,by omega⟩<;>(push_cast;omega)
  · cases h
set_option maxHeartbeats 1000000 in
theorem iM(q:QM)(m:BH q)(c:Chg)(hr:Dp A rv r.rows)(hn:r.rows.length<=100000000)(hv:-4000000000000000000<=r.val/\r.val<=4000000000000000000):BS prog 109 #[.agg q.BM5,.agg #[rv,I4 r.val,.bool r.fnd],.agg c.BM3] [A] (fun w H'=>∃bn s',w= .tuple #[.agg #[bn,I4 (Dh q c r).1.val,.bool (Dh q c r).1.fnd],.bool (Dh q c r).2]/\BU 5 83 bn (Dh q c r).1.rows.length (Ae (Dh q c r).1.rows) s'/\H'=[s',A]):=by
 have ek:=mL;obtain ⟨pv,cv,rfl,_⟩:=id hr;refine Se func109 ntmps109 [0,1,2] ?_;intro u R;refine A3<|Ze (Bx q.BM5)<|AF fun bq=>Ze (Bx #[.slice pv r.rows.length cv,I4 r.val,.bool r.fnd])<|AF fun br=>Ze (Bx c.BM3)<|AF fun bc=>Ze (Al HS #[_,_,_])<|AF fun bo=>AH Y<|A3<|Zh 0 FA V rfl E3 Y<|Zl GP Y<|Zc [_] Y call107 Y V (Gu hr A0) ?_;rintro _ _ ⟨_,⟨s1,h1,rfl⟩,rfl⟩;obtain ⟨g1,c1,rfl⟩:=h1.form;refine Zh 0 FA V rfl E3 Y<|Xe (Zs E3 Y Y V (hi:=by(simp;done)))<|A4<|Zq<|A3<|Zo Wh (A9 (cs:=#[_,_,_,_,_,_,_]) Fm D4 Y B5 B1)<|Zo Wh (A9 (cs:=#[_,_,_,_,_,_,_,_,_,_]) HD Cl Y B5 B1)<|Xr [_,_] Y call108 Y V (L9 q c) ?_;rw [show(decide (BH q)&&(decide c.ok&&Ct q c))=Dt q c by rw [DE m];rfl];refine Zv (Bo Y)<|Z0<|Zn [3,4,5,6,17] ?_;refine Zx<|AY Y (fun ht=>?_) (fun ht=>?_);·
  have g:Dt q c=false:=by simpa using ht
  refine A3<|Zo Wh (A9 (cs:=#[_,_,_]) EV C5 Y B5 B1)<|Xe (Xw C5 _)<|An Y<|Zt<|CS V results109 Y Wh (Av EV C5 Wn (V)) Y (by
   have W:Dh q c r=(r,true):=by unfold Dh;rw [g];rfl
   exact ⟨.slice g1 r.rows.length c1,s1,by rw [W];rfl,by rw [W];exact h1,rfl⟩)
 have g:Dt q c=true:=by simpa using ht
 have ax:c.ok:=by unfold Dt at g;rw [Ge]at g;exact IH g.1
 refine B3<|Zb [3,4,5,6] ?_;refine CP (e0:=[(3,_),(4,_),(5,_)]) (H0:=[s1]) (fun e H=>∃(K:Nat) (J:BE) (I:Nat) (X:List A8),(BU 5 83 (.slice J (CE q c r).1.rows.length I) (CE q c r).1.rows.length (Ae (CE q c r).1.rows) X)/\e=[(8,I5 K),(9,.bool (CE q c r).2)]/\H=[[(K,.cells #[.slice J (CE q c r).1.rows.length I,I4 (CE q c r).1.val,.bool (CE q c r).1.fnd] 60 (0,0))],X]) Wp ?hx_2 ?hy_2
 case hx_2=>
  refine Ay (n:=16) (0::0::2::7::15::0::0::97::0::511::1023::2047::2047::0::12287::32767::[]) 25217 AD AD V<|A1 1 V (AB (off:=0) DB V rfl A6 Y)<|Bm 2 V AE Y<|G3 5 V Wh (A9 (cs:=#[_,_,_,_,_,_,_]) Fm D4 Y B5 B1)<|G3 6 V Wh (A9 (cs:=#[_,_,_,_,_,_,_,_,_,_]) HD Cl Y B5 B1)<|G3 8 V Wh (A9 (cs:=#[_,_,_]) EV C5 Y B5 B1)<|Zz (l:=[0,13])<|BW [true,true,true,true] [(8,(_,_)),(6,(_,_)),(5,(_,_)),(2,(_,_))] V rfl (Zw [] Y call183 Y V (OX)) ?hk_3 Bv ?hl_3
  case' hk_3=>
   rintro _ _ ⟨_,⟨mb,es,ck,lm,b5,b6,rfl,hm,hp,rfl⟩,rfl⟩;refine ⟨Zk (Zk (Zk (Zk (Ab)))),?_⟩;have G:=XA hp hm.keys m.kind
   refine G3 3 rfl Wh (Du IJ ab bj hm (fun _ _=>trivial) (trivial) ((by rw [G];exact rfl:_=Value.agg #[.func (.func (I9 q.kd)) #[] #[],.func (.func (Gm q.kd)) #[] (Iw b5 b6 q.kd).toArray])) Y Y)<|A1 4 rfl (YF aE rfl isAgg304 Y rfl)<|Zz (l:=[7,13])<|BW [true,true,false,false,true] [(3,(_,_)),(8,(_,_)),(2,(_,_))] rfl rfl (Zw [_,_] Y call184 Y rfl (K6 q m.2.1 (by have:=m.2.2.2;omega) c)) ?hk_4 Bv ?hl_4
   case' hk_4=>
    rintro _ _ ⟨_,⟨p1,p2,cu,cO,rfl,O,U,rfl⟩,rfl⟩;refine C3<|Zz (l:=[9,13])<|BW [false,false,false] [] V rfl (Zw [_,_] Y (U3 m.kind) Y V (UO q c m (qq q ax) O U b5 b6 r g1 c1 s1 h1 hn hv)) ?hk_5 Bv ?hl_5
    case' hk_5=>
     rintro _ _ ⟨_,⟨d9,X,rfl,Z,rfl⟩,rfl⟩;refine ⟨Ab,?_⟩;obtain ⟨J,I,rfl⟩:=Z.form;refine A1 10 V (AP Y)<|A1 11 V (C9 Y V)<|A1 12 V (C9 Y V)<|Zz (l:=[13])<|BW [] [] V rfl (Al HS #[_,_,_]) ?_ (fun _ _ h=>h.elim) Aj;rintro _ _ ⟨K,rfl,rfl⟩;refine C3<|Yw 14 32767 V (Xw C5 #[.slice J (CE q c r).1.rows.length I,I4 (CE q c r).1.val,.bool (CE q c r).1.fnd])<|F0<|A1 15 V (BC Y)<|Aq<|Hh (by exact ⟨K,J,I,X,Z,V,V⟩)
    case' hl_5=>
     refine BW [true,true,true] [(3,(_,_)),(8,(_,_)),(2,(_,_))] V rfl (Al HS #[_,_,_]) ?hk_9 (fun _ _ h=>h.elim) ?hl_9
     case' hk_9=>
      rintro _ _ ⟨K,rfl,rfl⟩
     case' hl_9=>
      exact Aj
   case' hl_4=>
    refine BW [true,true,true,true,true] [(3,(_,_)),(8,(_,_)),(6,(_,_)),(5,(_,_)),(2,(_,_))] V rfl (Al HS #[_,_,_]) ?hk_13 (fun _ _ h=>h.elim) ?hl_13
    case' hk_13=>
     rintro _ _ ⟨K,rfl,rfl⟩;refine C3<|Zz (l:=[7])<|BW [true,true,false,false,true] [(3,(_,_)),(8,(_,_)),(2,(_,_))] V rfl (Zw [_,_] Y call184 Y V (K6 q m.2.1 (by have:=m.2.2.2;omega) c)) ?hk_14 Bv ?hl_14
     case' hk_14=>
      rintro _ _ ⟨_,⟨p1,p2,cu,cO,rfl,O,U,rfl⟩,rfl⟩
     case' hl_14=>
      exact Aj
    case' hl_13=>
     exact Aj
  case' hl_3=>
   refine BW [true,true,true,true] [(8,(_,_)),(6,(_,_)),(5,(_,_)),(2,(_,_))] V rfl (Al HS #[_,_,_]) ?hk_18 (fun _ _ h=>h.elim) ?hl_18
   case' hk_18=>
    rintro _ _ ⟨K,rfl,rfl⟩;refine C3<|Zz (l:=[0])<|BW [true,true,true,true] [(8,(_,_)),(6,(_,_)),(5,(_,_)),(2,(_,_))] V rfl (Zw [] Y call183 Y V (OX)) ?hk_19 Bv ?hl_19
    case' hk_19=>
     rintro _ _ ⟨_,⟨mb,es,ck,lm,b5,b6,rfl,hm,hp,rfl⟩,rfl⟩;refine ⟨Zk (Zk (Zk (Zk (Ab)))),?_⟩;have G:=XA hp hm.keys m.kind
     refine G3 3 rfl Wh (Du IJ ab bj hm (fun _ _=>trivial) (trivial) ((by rw [G];exact rfl:_=Value.agg #[.func (.func (I9 q.kd)) #[] #[],.func (.func (Gm q.kd)) #[] (Iw b5 b6 q.kd).toArray])) Y Y)<|A1 4 rfl (YF aE rfl isAgg304 Y rfl)<|Zz (l:=[7])<|BW [true,true,false,false,true] [(3,(_,_)),(8,(_,_)),(2,(_,_))] rfl rfl (Zw [_,_] Y call184 Y rfl (K6 q m.2.1 (by have:=m.2.2.2;omega) c)) ?hk_20 Bv ?hl_20
     case' hk_20=>
      rintro _ _ ⟨_,⟨p1,p2,cu,cO,rfl,O,U,rfl⟩,rfl⟩
     case' hl_20=>
      exact Aj
    case' hl_19=>
     exact Aj
   case' hl_18=>
    exact Aj
  all_goals
   refine C3<|Zz (l:=[9])<|BW [false,false,false] [] V rfl (Zw [_,_] Y (U3 m.kind) Y V (UO q c m (qq q ax) O U b5 b6 r g1 c1 s1 h1 hn hv)) ?_ Bv Aj;rintro _ _ ⟨_,⟨d9,X,rfl,Z,rfl⟩,rfl⟩;refine ⟨Ab,?_⟩;obtain ⟨J,I,rfl⟩:=Z.form;refine A1 10 V (AP Y)<|A1 11 V (C9 Y V)<|A1 12 V (C9 Y V)<|Zz (l:=[14])<|BW [] [] V rfl (Xw C5 #[.slice J (CE q c r).1.rows.length I,I4 (CE q c r).1.val,.bool (CE q c r).1.fnd]) ?_ (fun _ _ h=>h.elim) Aj;rintro _ _ ⟨rfl,rfl⟩;refine C3<|A1 15 V (BC Y)<|Aq<|Hh (by exact ⟨K,J,I,X,Z,V,V⟩)
 rintro _ _ ⟨K,J,I,X,Z,rfl,rfl⟩;refine B8 Y<|Zv (Bo Y)<|A4<|AY Y (fun hk=>?_) (fun hk=>?_);·
  have af:(CE q c r).2=false:=by simpa using hk
  refine Zq<|Bc<|Zg<|Zv (BN (vs:=[]) (cs:=#[_,_,_]) Y (Aa (pl:=#[(0,1),(1,1),(2,1)]) HS FA (fun _=>by kernel_rfl) V))<|Xe (Xw C5 _)<|An Y<|Zt<|CS V results109 Y Wh (Av EV C5 Wn (V)) Y (by
   have W:Dh q c r=(C8.none,false):=by unfold Dh;rw [g,Ax rfl,af];rfl
   exact ⟨.slice none 0 0,[],by rw [W];rfl,by rw [W];exact Bh 5 _,rfl⟩)
 have af:(CE q c r).2=true:=by simpa using hk
 refine AC<|C6<|Zo Wh (A9 (cs:=#[_,_,_]) EV C5 Y B5 B1)<|Xe (Xw C5 _)<|An Y<|CS V results109 Y Wh (Av EV C5 Wn (V)) Y (by
  have W:Dh q c r=((CE q c r).1,true):=by unfold Dh;rw [g,Ax rfl,af];rfl
  exact ⟨.slice J _ I,X,by rw [W];rfl,by rw [W];exact Z,rfl⟩)
set_option maxHeartbeats 1000000 in
theorem Je(q:QM)(hq:BH q)(p:Int)(qa:BE)(cap:Nat)(cs:List Chg){MC:List A8}(hC:CL MC (.slice qa cs.length cap) cs)(j5:cs.length<=1000)(hr:Dp A rv r.rows)(hn:r.rows.length<=10000000)(hv:-2000000000000000000<=r.val/\r.val<=2000000000000000000):BS prog 46 #[.agg q.BM5,.agg #[rv,I4 r.val,.bool r.fnd],.agg #[I4 p,.slice qa cs.length cap]] [A,MC] (fun w H'=>∃af s',w= .tuple #[.agg #[af,I4 (Bf q r cs).1.val,.bool (Bf q r cs).1.fnd],.bool (Bf q r cs).2.1,.bool (Bf q r cs).2.2]/\BU 5 83 af (Bf q r cs).1.rows.length (Ae (Bf q r cs).1.rows) s'/\H'=[s',A,MC]):=by
 have l5:=mL;obtain ⟨pv,cv,rfl,_⟩:=id hr;obtain ⟨pc,gQ,gq,kv,bn⟩:=id hC;injection gq with hv1 hv2 hv3
 subst hv1 hv3;refine Se func46 ntmps46 [0,1,2] ?_;intro u R;refine A3<|Ze (Bx q.BM5)<|AF fun bq=>Ze (Bx #[.slice pv r.rows.length cv,I4 r.val,.bool r.fnd])<|AF fun br=>Ze (Bx #[I4 p,.slice qa cs.length cap])<|AF fun bc=>Ze (Al HS #[_,_,_])<|AF fun bo=>Za Y<|AH Y<|A3<|AH Y<|A3<|Zh 0 FA V rfl E3 Y<|Zl GP Y<|Zc [_] Y call107 Y V (Gu hr A0) ?_;rintro _ _ ⟨_,⟨s1,h1,rfl⟩,rfl⟩;obtain ⟨g1,c1,rfl⟩:=h1.form;refine Zh 0 FA V rfl E3 Y<|Xe (Zs E3 Y Y V (hi:=by(simp;done)))<|A4<|Zq<|A3<|Zh 1 GS V rfl Kf Y<|Zl MA Y<|Zv (AR GO Y)<|Zm Y<|Z0<|Zn [3,4,6,9,18,19,20] ?_;refine Zx<|AQ<|Zb [9,20,3,4,6,18,19] ?_;refine Aw (e0:=[(9,_),(20,_)]) (fun m e H=>∃(k:Nat) (g:C8) (gk:BE) (ck:Nat) (sk:List A8),m=cs.length -k/\(k<=cs.length/\IG q r (cs.take k)=some g/\BU 5 83 (.slice gk g.rows.length ck) g.rows.length (Ae g.rows) sk)/\e=[(9,.bool ((cs.take k).any (Dt q))),(20,I4 (k:Int))]/\H=[[(br,.cells #[.slice gk g.rows.length ck,I4 g.val,.bool g.fnd] 60 (0,0))],sk]) (by exact ⟨0,r,g1,c1,s1,rfl,⟨CM _,by rw [JT];rfl,h1⟩,rfl,rfl⟩) Wp ?_;rintro _ _ _ ⟨k,g,gk,ck,sk,rfl,⟨hk,G,Z⟩,rfl,rfl⟩;obtain ⟨d9,cO⟩:=Y0 (cs.take k) r g 2000000000000000000 10000000 G hv A0 hn;have cu:(cs.take k).length=k:=by rw [Cd];omega
 rw [cu]at d9 cO;have ax:=Dl Z A0
 refine A3<|Zv (Ap Y Y)<|A4<|Zq<|Ak Y (fun X=>?_) (fun X=>?_);·
  obtain ⟨y,hy⟩:∃y,cs[k]?=some y:=⟨_,BT X⟩;obtain ⟨g2,j3,O,T2,gy,rfl,gm,ic,W⟩:=bn k y hy;refine B3<|Zq<|AQ<|A3<|BX (AZ GO Cl Y Y A0)<|Bu (cs:=[(g2,.cells O T2 gy)]) (by simp [gm]) (A9 (cs:=y.BM3) HD Cl Y A0 W) V rfl<|Ze (Al N1 #[_,_,_,_,_,_,_,_,_,_])<|AF fun bx=>Xe (Xw Cl y.BM3)<|A4<|AK Y<|Zm Y<|Ad (t:=25) Y V (fun I=>?_) (fun I=>?_);focus
   have e9:(cs.take (k+1)).any (Dt q)=true:=by rw [XR _ hy,I];rfl
   refine AG<|C4<|Zv (AU Y Y) ?_
  rotate_left
  focus
   have e9:(cs.take (k+1)).any (Dt q)=Dt q y:=by rw [XR _ hy,I];rfl
   refine D6 Y Wh (A9 (cs:=#[_,_,_,_,_,_,_]) Fm D4 Y B5 B1) V rfl<|D6 Y Wh (A9 (cs:=#[_,_,_,_,_,_,_,_,_,_]) HD Cl Y B5 B1) V rfl<|Xr [_,_] Y call108 Y V (L9 q y) ?_;rw [show(decide (BH q)&&(decide y.ok&&Ct q y))=Dt q y by rw [DE hq];rfl];refine Zv (AJ Y Y) ?_
  all_goals
   refine AH Y<|A3<|B2 Y<|Zn [3,4,6,9,11,18,19,20] ?_;refine C6<|Zo Wh (A9 (cs:=#[_,_,_,_,_,_,_]) Fm D4 Y B5 B1)<|Zo Wh (A9 (cs:=#[_,_,_]) EV C5 Y B5 B1)<|Zo Wh (A9 (cs:=#[_,_,_,_,_,_,_,_,_,_]) HD Cl Y B5 B1)<|Zc [_,_,_] Y call109 Y V (iM q hq y ax A0 A0) ?_;rintro _ _ ⟨_,⟨l8,s3,rfl,h3,rfl⟩,rfl⟩;obtain ⟨g3,c3,rfl⟩:=h3.form;refine Zm Y<|Zd Y rfl<|Zd Y rfl<|Xe (BJ C5 Y Y K0 Wu (by exact (rfl:_=(#[.slice g3 (Dh q y g).1.rows.length c3,I4 (Dh q y g).1.val,.bool (Dh q y g).1.fnd]:AN))) G4 B5 (by exact BB _))<|AH Y<|AK Y<|Zv (Bo Y)<|A4<|AY Y (fun K=>?_) (fun K=>?_);·
    have J:(Dh q y g).2=false:=by simpa using K
    have U:Bf q r cs=(C8.none,true,false):=by unfold Bf;rw [WJ (k:=k+1) (by rw [QZ G hy,J];rfl)]
    refine Zq<|Bc<|Zg<|Zv (BN (vs:=[]) (cs:=#[_,_,_]) Y (Aa (pl:=#[(0,1),(1,1),(2,1)]) HS FA (fun _=>by kernel_rfl) V))<|Xe (Xw C5 _)<|Za Y<|B2 Y<|Zn [6,7,8] ?_;refine Zx<|AL<|Ag<|Zt<|Zt<|Ag<|Zt<|NV rfl results46 Y Wh (Av EV C5 Wn (rfl)) Y Y (by exact ⟨.slice none 0 0,[],by rw [U];rfl,by rw [U];exact Bh 5 _,rfl⟩)
   have J:(Dh q y g).2=true:=by simpa using K
   refine AC<|AA<|Zx<|Dg Y Y Y<|DG (e:=[(9,_),(20,_)]) (h:=by exact ⟨k+1,(Dh q y g).1,g3,c3,s3,rfl,⟨by omega,by rw [QZ G hy,Ax J],h3⟩,by rw [e9],rfl⟩)
 have ek:k=cs.length:=by omega
 subst ek;rw [HE]at G⊢;have U:Bf q r cs=(g,cs.any (Dt q),true):=by unfold Bf;rw [G]
 refine BA<|Zt<|Zt<|AX<|C6<|Zo Wh (A9 (cs:=#[_,_,_]) EV C5 Y B5 B1)<|Zm Y<|Xe (Xw C5 _)<|Za Y<|An Y<|NV rfl results46 Y Wh (Av EV C5 Wn (rfl)) Y Y (by exact ⟨.slice gk _ ck,sk,by rw [U];rfl,by rw [U];exact Z,rfl⟩)
end Go.Proofs.YtlkdhannldcfbabGreatDoor
