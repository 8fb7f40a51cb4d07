/- Pairs of rows in memory; slices.Clone, IndexFunc, DeleteFunc, Insert at pairs. -/
import Derived.Test.YtelliknjeemfoaaGreatDoorPr3
set_option linter.unusedVariables false
set_option linter.unusedSimpArgs false
namespace Go.Proofs.YtelliknjeemfoaaGreatDoor
open Go.Proofs.Tryz
open Go Go.RowKit Gw
set_option maxRecDepth 100000
attribute [local irreducible] Gw.At Gw.Nx Gw.Ops
structure BV where
 l:AU
 r:AU
deriving DecidableEq
def Ak(ps:List BV):List A2:=ps.flatMap fun p=>[I0 p.l.t,I0 p.l.k,I0 p.l.v.a,I0 p.l.v.b,I0 p.l.v.c,I0 p.r.t,I0 p.r.k,I0 p.r.v.a,I0 p.r.v.b,I0 p.r.v.c]
theorem DC(a b:List BV):Ak (a++b)=Ak a++Ak b:=by unfold Ak;rw [S0]
theorem BC:∀(rs:List BV),(Ak rs).length=rs.length*10
 |[]=>rfl
 |r::rs=>by
  have:=BC rs;unfold Ak at*;rw [IH,C2,this,EV];simp;omega
theorem Fg(rs:List BV)(k:Nat):(Ak rs).take (k*10)=Ak (rs.take k):=by
 rcases Ft rs.length k with h|h
 · rw [LS (by rw [BC];omega),LS A0]
 · have e:Ak rs=Ak (rs.take k)++Ak (rs.drop k):=by rw [<-DC,MA]
   rw [e,It (by rw [BC,Cl];omega)]
theorem LW(rs:List BV)(k:Nat):(Ak rs).drop (k*10)=Ak (rs.drop k):=by
 rcases Ft rs.length k with h|h
 · rw [Up (by rw [BC];omega),Up A0];rfl
 · have e:Ak rs=Ak (rs.take k)++Ak (rs.drop k):=by rw [<-DC,MA]
   rw [e,ZD (by rw [BC,Cl];omega)]
theorem Ep(rs:List BV):∀u∈Ak rs,u.oneCell'=true:=by
 intro u g;unfold Ak at g;obtain ⟨r,_,h⟩:=T6.1 g;simp only [Dg,T0,Sf]at h;rcases h with rfl|rfl|rfl|rfl|rfl|rfl|rfl|rfl|rfl|rfl<;>rfl
def U1(M:List A8)(v:A2)(rs:List BV):Prop:=∃p cap,v= .slice p rs.length cap/\(rs.length<=maxLen/\rs.length<=cap)/\∀(i:Nat) (x:BV),rs[i]?=some x->∃g off cur T zz,p=some ⟨g,off,none⟩/\(g,Obj.cells cur T zz)∈M/\off+i*10+10<=cur.size/\cur.extract (off+i*10) (off+i*10+10)=#[I0 x.l.t,I0 x.l.k,I0 x.l.v.a,I0 x.l.v.b,I0 x.l.v.c,I0 x.r.t,I0 x.r.k,I0 x.r.v.a,I0 x.r.v.b,I0 x.r.v.c]
variable{v:A2}{rs:List BV}{s:List A8}
theorem NN{e:AK}(h:BX 10 e v rs.length (Ak rs) s)(hn:rs.length<=maxLen):U1 s v rs:=by
 obtain ⟨b,cap,rfl⟩:=h.form;refine ⟨b,cap,V,⟨hn,Ez h⟩,fun i x hx=>?_⟩;obtain ⟨g,G,cur,z,hv,rfl,I,m⟩:=Ju h i (C6.1 hx).1;injection hv with hv1 hv2 hv3
 refine ⟨g,0,cur,e,z,hv1,by simp,by omega,?_⟩;unfold Ak at m;rw [Io _ 10 (fun _=>rfl) rs i x hx]at m;rw [DP];exact HW.1 m
variable{k:Nat}
theorem Rb{r:BV}(h:rs[k]?=some r):Ak rs=Ak (rs.take k)++(Ak [r]++Ak (rs.drop (k+1))):=by
 rw [<-DC,<-DC];congr 1;obtain ⟨g,rfl⟩:=C6.1 h;rw [PJ,<-RT g,MA]
theorem Il{r:BV}(h:rs[k]?=some r)(j:Nat)(g:j<10):(Ak rs)[k*10+j]?=(Ak [r])[j]?:=by
 have m:=(C6.1 h).1;have e:(Ak (rs.take k)).length=k*10:=by rw [BC,Cl];omega
 rw [Rb h,PF A0,Ys (by rw [e,BC];simp;omega),e,pH]
variable{n:Nat}
theorem We{M:List A8}{p:B8}{cap:Nat}(h:U1 M (.slice p n cap) rs):FL M p (Ak rs):=by
 obtain ⟨Z,J,e,X,U⟩:=h;injection e with e1 e2 e3
 subst e1;intro j u K;have G:=(C6.1 K).1
 rw [BC]at G;obtain ⟨x,hx⟩:∃x,rs[j/10]?=some x:=⟨_,BE A0⟩;obtain ⟨g,off,cur,T,zz,rfl,W,I,m⟩:=U (j/10) x hx;refine ⟨g,off,cur,T,zz,V,W,?_⟩;have O:=Ov m I (j%10) A0
 have h2:=Il hx (j%10) A0;rw [show j/10*10+j%10=j by omega,K]at h2;rw [show off+j=off+j/10*10+j%10 by omega,O,h2,<-Hs];rfl
theorem Wx{M:List A8}(hv:U1 M v rs)(hb:rs.length<=1000000000000):BQ prog 314 #[v] [M] (fun r H'=>∃O,BX 10 361 r rs.length (Ak rs) O/\H'=[O,M]):=by
 have Z:=mL;obtain ⟨p,cap,rfl,⟨hl,X⟩,W⟩:=id hv;have G:FL M p (Ak rs):=We hv
 refine Se func314 ntmps314 [0] ?_;intro u R;refine A3<|AH Y<|B7 Y<|Zv (Du HE Y Y)<|A5<|AY Y (fun K=>?_) (fun K=>?_);·
  have I:p=none:=by cases p with
   |none=>rfl
   |some x=>cases K
  have h0:rs=[]:=by
   cases rs with
   |nil=>rfl
   |cons x l=>obtain ⟨g,off,cur,T,zz,J,_⟩:=W 0 x rfl;rw [I]at J;cases J
  refine Zq<|Bc<|Zg<|Ax Y<|Zt<|AX rfl results314 Y (by exact ⟨[],by rw [h0];exact Bi 10 _,rfl⟩)
 refine AC<|CD<|Ze (EF HE HL)<|AF fun U=>Zm Y<|Ze (Gf (by_:=80) (sz:=10) HE (V:Tryz.prog.info? 361=some Tryz.t361) V rfl V rfl Y (Gs 10 361 U 0 [] V An) Y (G) (by exact BC _) An Wo Wo (by exact Ep _) A0 A0) ?_;rintro _ _ ⟨af,m,rfl⟩;replace m:=Bb m (DP _) (Mu _);refine Ax Y<|AX V results314 Y (by exact ⟨_,m,V⟩)
def Gx(pd:BV->Bool)(rows:List BV):Int:=(rows.findIdx? pd).elim (-1) fun i=>(i:Int)
variable{rows:List BV}{i:Nat}{x:BV}
theorem mJ{g:BV->Bool}(h:∀(j:Nat) (y:BV),j<i->rows[j]?=some y->g y=false)(hx:rows[i]?=some x)(G:g x=true):Gx g rows=(i:Int):=by
 obtain ⟨hi,rfl⟩:=C6.1 hx;unfold Gx;rw [cH.2 ⟨hi,G,fun j m=>by simp [h j _ m (BE A0)]⟩];rfl
theorem mK{m:BV->Bool}(h:∀(j:Nat) (y:BV),j<rows.length->rows[j]?=some y->m y=false):Gx m rows=-1:=by
 unfold Gx;rw [eN.2 fun y hy=>by
  obtain ⟨j,g⟩:=HK hy;exact h j y (C6.1 g).1 g]
 rfl
theorem TJ(g:BV->Bool)(rows:List BV):(Gx g rows=-1/\∀y∈rows,g y=false)\/∃(i:Nat) (x:BV),Gx g rows=(i:Int)/\rows[i]?=some x/\g x=true/\∀(j:Nat) (y:BV),j<i->rows[j]?=some y->g y=false:=by
 unfold Gx;cases h:rows.findIdx? g with
 |none=>exact .inl ⟨rfl,eN.1 h⟩
 |some i=>
  obtain ⟨m,h2,G⟩:=cH.1 h;refine .inr ⟨i,_,V,BE m,h2,fun j y I hy=>?_⟩;obtain ⟨J,rfl⟩:=C6.1 hy;simpa using G j I
theorem kR(g:k<rs.length)(x:BV):(Ak rs).take (k*10)++Ak [x]++(Ak rs).drop (k*10+(Ak [x]).length)=Ak (rs.set k x):=by
 rw [show k*10+(Ak [x]).length=(k+1)*10 by rw [BC];simp;omega,Fg,LW,<-DC,<-DC,mn,B0 g];simp
variable{cur:AM}
theorem Vr(g:Bv cur 0 (Ak rs))(hx:rs[k]?=some x):k*10+10<=cur.size/\cur.extract (0+k*10) (0+k*10+10)=(Ak [x]).toArray:=by
 have U:=(C6.1 hx).1;have O:k*10+10<=cur.size:=by
  have J:=Il hx 9 An;have K:=g.get (k*10+9) _ (J.trans B2)
  have:=(Hj.1 K).1;omega
 refine ⟨O,?_⟩;apply HW.1;apply O2;intro j;rw [Hs,eR];split
 · rename_i hj
   have m:j<10:=by omega
   have G:=Il hx j m;obtain ⟨u,I⟩:∃u,(Ak [x])[j]?=some u:=⟨_,BE (by rw [BC];simpa using m)⟩;rw [I]at G;have h2:=g.get _ _ G
   rw [DP]at h2;rw [DP,h2];exact I.symm
 · rw [Nd]
   show(Ak [x]).length<=j;rw [BC];simp only [G0];omega
theorem Kc{j:Nat}(f:BV->Bool)(hx:rows[j]?=some x):(rows.take (j+1)).filter f=(rows.take j).filter f++(if f x then [x]else []):=by
 rw [Bq hx,Kd];congr 1;rw [dr,oA]
theorem Lu{f:BV->Bool}(h:∀(j:Nat) (y:BV),rows[j]?=some y->f y=true):rows.filter f=rows:=eV.2 fun y hy=>by
 obtain ⟨j,g⟩:=HK hy;exact h j y g
variable{B:List A8}
theorem Ls{A:List A8}(hv:U1 A v rows)(G:Nat)(us:List A2)(X:BV->Bool)(U:∀(args:AM) (w:A4),(callFunc G args).run prog w= .ok (.enter G args) w)(hf:∀x:BV,Az prog G (.agg #[I0 x.l.t,I0 x.l.k,I0 x.l.v.a,I0 x.l.v.b,I0 x.l.v.c,I0 x.r.t,I0 x.r.k,I0 x.r.v.a,I0 x.r.v.b,I0 x.r.v.c]::us).toArray [B] (.bool (X x))):Az prog 288 #[v,.func (.func G) #[] us.toArray] [A,B] (I0 (Gx X rows)):=by
 have ax:=mL;obtain ⟨p,cap,rfl,⟨hl,af⟩,hg⟩:=id hv;refine Se func288 ntmps288 [0,1] ?_;intro u R;refine A3<|AH Y<|B7 Y<|Zv (AR HE Y)<|Zm Y<|A5<|AP<|Zb [8,0,1,7] ?_;refine Ay (e0:=[(8,_)]) (fun m e H=>∃(i:Nat),m=rows.length -i/\(i<=rows.length/\∀(j:Nat) (y:BV),j<i->rows[j]?=some y->X y=false)/\e=[(8,I0 (i:Int))]/\H=[]) (by exact ⟨0,V,⟨C7 _,fun j y h=>by omega⟩,V,V⟩) Wp ?_;rintro _ _ _ ⟨i,rfl,⟨hi,I⟩,rfl,rfl⟩;refine A3<|Zv (Ar Y Y)<|A5<|Zq<|Ap Y (fun O=>?_) (fun O=>?_);·
  obtain ⟨x,hx⟩:∃x,rows[i]?=some x:=⟨_,BE O⟩;obtain ⟨g,off,cur,T,zz,rfl,W,Z,K⟩:=hg i x hx;refine B4<|Zq<|AP<|AN Y<|AH Y<|AN Y<|Zm Y<|Zm Y<|Ba (AZ HE HL Y Y A0)<|CO (cs:=[(g,.cells cur T zz)]) (by simp [W]) (AA (cs:=#[_,_,_,_,_,_,_,_,_,_]) isAgg361 HL Y A0 K) V rfl<|Xr [_] Y (U) Y V (hf x)<|A5<|AY Y (fun J=>?_) (fun J=>?_);·
   refine AN Y<|Ax Y<|Ag<|Zt<|Zt<|Ag<|Zt<|AX V results288 Y (by exact ⟨congrArg (Value.int .i64) (mJ I hx J).symm,V⟩)
  refine AC<|A9<|Zx<|E6 Y Y Y<|HB (by exact ⟨i+1,rfl,⟨by omega,fun j y h1 h2=>by rcases Ft j i with h9|h9;exact I j y h9 h2;obtain rfl:j=i:=A0;rw [hx]at h2;injection h2 with h2;subst h2;exact J⟩,rfl,rfl⟩)
 have ei:i=rows.length:=by omega
 subst ei;refine BB<|Zt<|Zt<|AV<|CD<|Ax Y<|AX V results288 Y (by exact ⟨congrArg (Value.int .i64) (mK I).symm,V⟩)
set_option maxHeartbeats 1000000 in
theorem XQ(G:BX 10 361 v rows.length (Ak rows) s)(hn:rows.length<=1000000000)(J:Nat)(us:List A2)(U:BV->Bool)(bn:∀(args:AM) (w:A4),(callFunc J args).run prog w= .ok (.enter J args) w)(hf:∀x:BV,Az prog J (.agg #[I0 x.l.t,I0 x.l.k,I0 x.l.v.a,I0 x.l.v.b,I0 x.l.v.c,I0 x.r.t,I0 x.r.k,I0 x.r.v.a,I0 x.r.v.b,I0 x.r.v.c]::us).toArray [B] (.bool (U x))):BQ prog 313 #[v,.func (.func J) #[] us.toArray] [s,B] (fun r H'=>∃s',BX 10 361 r (rows.filter fun x=>!U x).length (Ak (rows.filter fun x=>!U x)) s'/\H'=[s',B]):=by
 have ow:=mL;obtain ⟨p,cap,rfl⟩:=G.form;have hU:=NN G A0
 refine Se func313 ntmps313 [0,1] ?_;intro u R;refine A3<|AH Y<|AN Y<|Zm Y<|Xr [_,_] Y call288 Y V (Ls hU J us U bn hf) ?_;rcases TJ U rows with⟨e9,X⟩|⟨k,x0,e9,hx0,hp0,hno⟩
 ·
  rw [e9];refine AH Y<|B7 Y<|Zv (CJ Y Y)<|A5<|Ap Y (fun h1=>?_) (fun h1=>?_);·
   refine AN Y<|Ax Y<|Zt<|AX rfl results313 Y (by exact ⟨_,Bb G (congrArg List.length (Lu fun j y hy=>by rw [X y (E7 hy)];rfl).symm) (congrArg Ak (Lu fun j y hy=>by rw [X y (E7 hy)];rfl).symm),rfl⟩)
  exact absurd V h1
 rw [e9];have o9:=(C6.1 hx0).1
 obtain ⟨g,j3,cur,z,ic,rfl,l5,kv⟩:=E9 G A0;injection ic with hv1 hv2 hv3
 subst hv1 hv3;refine AH Y<|B7 Y<|Zv (CJ Y Y)<|A5<|Ap Y (fun h2=>by omega)<|fun h2=>B4<|B7 Y<|Ya (n:=1) Y Y<|AH Y<|AP<|Zb [5,6,0,1] ?_;refine Ay (e0:=[(5,_),(6,_)]) (fun m e H=>∃(i j:Nat) (W:List BV) (cur:AM),m=rows.length -j/\((i<j/\j<=rows.length)/\W.length=rows.length/\BX 10 361 (I2 g rows.length cap) rows.length (Ak W) [(g,.cells cur 361 z)]/\W.take i=(rows.take j).filter (fun x=>!U x)/\∀t,j<=t->W[t]?=rows[t]?)/\e=[(5,I0 (i:Int)),(6,I0 (j:Int))]/\H=[[(g,.cells cur 361 z)]]) (by exact ⟨k,k+1,rows,cur,rfl,⟨⟨by omega,by omega⟩,rfl,G,by rw [Kc _ hx0,hp0];simp only [TX,Of,Hi,DQ];exact (Lu (fun j y hy=>by rw [HU]at hy;split at hy;rw [hno j y fm hy];rfl;cases hy)).symm,fun t _=>rfl⟩,rfl,rfl⟩) Wp ?_;rintro _ _ _ ⟨i,j,W,cur,rfl,⟨o8,ax,O,K,af⟩,rfl,rfl⟩;obtain ⟨d9,cu,l8,j5,Z⟩:=JQ O;refine B7 Y<|Zm Y<|Zv (AR HE Y)<|Zv (Ar Y Y)<|A5<|Ap Y (fun ek=>?_) (fun ek=>?_);·
  obtain ⟨x,hx⟩:∃x,rows[j]?=some x:=⟨_,BE ek⟩;obtain ⟨l9,cO⟩:=Vr d9 ((af j (CT _)).trans hx);refine B4<|Zq<|AP<|AN Y<|Zm Y<|Ba (AZ HE HL Y Y A0)<|Zo Wh (AA (cs:=#[_,_,_,_,_,_,_,_,_,_]) isAgg361 HL Y A0 cO)<|Ze (Al iz #[_,_,_,_,_,_,_,_,_,_])<|AF fun bx=>Xe (Xw HL #[I0 x.l.t,I0 x.l.k,I0 x.l.v.a,I0 x.l.v.b,I0 x.l.v.c,I0 x.r.t,I0 x.r.k,I0 x.r.v.a,I0 x.r.v.b,I0 x.r.v.c])<|A5<|AN Y<|Zo Wh (AA (cs:=#[_,_,_,_,_,_,_,_,_,_]) isAgg361 HL Y B9 B2)<|Xr [_] Y (bn) Y V (hf x)<|Zv (Bh Y)<|Z0<|Zn [0,1,5,6,7,29] ?_;refine Zx<|AY Y (fun I=>?_) (fun I=>?_);·
   have I:U x=false:=by simpa using I
   have gm:=Bb (xs':=Ak (W.set i x)) (EU (i:=0+i*10) (ys:=Ak [x]) O (by rw [BC,BC,G0];omega)) rfl (by rw [DP];exact kR A0 x);refine AN Y<|Zm Y<|Zo Wh (AA (cs:=#[_,_,_,_,_,_,_,_,_,_]) isAgg361 HL Y B9 B2)<|Ba (AZ HE HL Y Y A0)<|Xe (BF HL Y Y HT Wu (by exact (rfl:_=EP cur (0+i*10) (Ak [x]))) Fm A0 Z)<|A5<|Zg<|Zm Y<|Ya (n:=1) Y Y<|B1 Y<|A9<|Zx<|Zg<|Zm Y<|Ya (n:=1) Y Y<|B1 Y<|DM (e:=[(5,_),(6,_)]) (h:=by exact ⟨i+1,j+1,W.set i x,_,rfl,⟨by omega,by rw [ee];exact ax,gm,by rw [Y5 A0,K,Kc _ hx];simp [I],fun t ht=>by rw [List.getElem?_set_ne A0];exact af t A0⟩,rfl,rfl⟩)
  have I:U x=true:=by simpa using I
  refine AC<|A9<|Zx<|Zg<|Zm Y<|Ya (n:=1) Y Y<|B1 Y<|DM (e:=[(5,_),(6,_)]) (h:=by exact ⟨i,j+1,W,cur,rfl,⟨by omega,ax,O,by rw [K,Kc _ hx];simp [I],fun t ht=>af t A0⟩,rfl,rfl⟩)
 have ej:j=rows.length:=by omega
 subst ej;rw [HI]at K;have gy:(rows.filter fun x=>!U x).length=i:=by rw [<-K,Cl];omega
 refine BB<|Zt<|Zt<|AV<|Zx<|AN Y<|Zm Y<|Ba (Bw HE HL Y Y A0)<|Ze (O4 HE (V:Tryz.prog.info? 361=some Tryz.t361) V rfl (by simp [Value.cells,Value.oneCell']) Y A0 cu Z Wo) ?_;rintro _ _ rfl;have gq:=V6 (EU (i:=i*10) (ys:=(Builtin.zeroCells (Value.agg #[I0 0,I0 0,I0 0,I0 0,I0 0,I0 0,I0 0,I0 0,I0 0,I0 0]).cells (rows.length -i)).toList) O (by rw [V1,size_zeroCells,BC];show i*10+(rows.length -i)*10<=_;omega)) i A0
 refine A5<|AN Y<|Zm Y<|Ba (Bn HE HL Y Y A0)<|Ax Y<|AX V results313 Y (by
  refine ⟨_,Bb gq gy.symm ?_,V⟩;rw [DG,It (by rw [Cl,BC];omega),Fg,K])
theorem mH{A Y D:List A2}(g:A.length=(n+1)*10)(hi:i<=n)(G:Y.length=10)(m:D.length=(n -i)*10):(A.take (0+i*10)++Y++A.drop (0+i*10+Y.length)).take (0+(i+1)*10)++D++(A.take (0+i*10)++Y++A.drop (0+i*10+Y.length)).drop (0+(i+1)*10+D.length)=A.take (i*10)++Y++D:=by
 rw [DP,DP,It (by rw [C2,Cl];omega),Up (by simp only [C2,Cl,D0];omega),DQ]
theorem fT{A Y D:List A2}(g:A.length=(n+1)*10)(hi:i<=n)(G:Y.length=10)(m:D.length=(n -i)*10):(A.take (0+(i+1)*10)++D++A.drop (0+(i+1)*10+D.length)).take (0+i*10)++Y++(A.take (0+(i+1)*10)++D++A.drop (0+(i+1)*10+D.length)).drop (0+i*10+Y.length)=A.take (i*10)++Y++D:=by
 rw [DP,DP,Up (l:=A) A0,DQ,de (by rw [Cl];omega),WD,S7 A0,ZD (by rw [Cl];omega)]
theorem V4(rows:List BV)(i:Nat)(y:BV):(Ak rows).take (i*10)++Ak [y]++Ak (rows.drop i)=Ak (rows.take i++[y]++rows.drop i):=by
 rw [Fg,DC,DC]
theorem Qf{c:AM}(h:Bv c 0 (Ak rows))(i:Nat)(hi:i<=rows.length):Bv c (0+i*10) (Ak (rows.drop i)):=by
 have g:=Ir h (i*10) ((rows.length -i)*10) (by rw [BC];omega);rw [LW,LS (by rw [BC,D0];omega)]at g;exact g
theorem aW{c:AM}(h:Bv c 0 (Ak rows))(i:Nat)(hi:i<=rows.length):Bv c 0 (Ak (rows.take i)):=by
 have g:=Ir h 0 (i*10) (by rw [BC];omega);rw [S8,Fg]at g;exact g
theorem TH(rows:List BV)(i:Nat)(hi:i<=rows.length)(y:BV):(rows.take i++[y]++rows.drop i).length=rows.length+1:=by
 simp only [C2,Cl,D0,G0];omega
set_option maxHeartbeats 1000000 in
theorem XK(m:BX 10 361 v rows.length (Ak rows) s)(hn:rows.length<=1000000000)(i:Nat)(hi:i<=rows.length)(y:BV)(U:Nat):BQ prog 315 #[v,I0 (i:Int),I2 U 1 1] [s,[(U,.cells #[I0 y.l.t,I0 y.l.k,I0 y.l.v.a,I0 y.l.v.b,I0 y.l.v.c,I0 y.r.t,I0 y.r.k,I0 y.r.v.a,I0 y.r.v.b,I0 y.r.v.c] 361 (0,0))]] (fun r H'=>∃s' s2,BX 10 361 r (rows.take i++[y]++rows.drop i).length (Ak (rows.take i++[y]++rows.drop i)) s'/\H'=[s',s2,[(U,.cells #[I0 y.l.t,I0 y.l.k,I0 y.l.v.a,I0 y.l.v.b,I0 y.l.v.c,I0 y.r.t,I0 y.r.k,I0 y.r.v.a,I0 y.r.v.b,I0 y.r.v.c] 361 (0,0))]]):=by
 have o8:=mL;obtain ⟨p,cap,rfl⟩:=m.form;have l9:=Ez m
 refine Se func315 ntmps315 [0,1,2] ?_;intro u R;refine A3<|D2 Y<|Bc<|Zg<|Zm Y<|Zm Y<|Ba (Bw HE HL Y Y A0)<|A5<|AN Y<|Zv (AR HE Y)<|AH Y<|B7 Y<|Zv (Bl (n:=0) Y Y)<|A5<|Ap Y (fun h0=>by cases h0)<|fun h0=>B4<|AN Y<|Zv (AR HE Y)<|AH Y<|B7 Y<|Zm Y<|Zv (Bl Y Y)<|Z0<|Zn [0,1,2,7,8,22] ?_;refine Zx<|Ap Y (fun W=>?_) (fun W=>?_);·
  refine AN Y<|Zm Y<|Ze (BS (by_:=80) (sz:=10) HE (V:Tryz.prog.info? 361=some Tryz.t361) V rfl V rfl Y (m) Y (Dn 10 U 1 1 361 (0,0) (Ak [y]) V) Wo Wo (by exact Ep _) A0 A0) ?_;rintro _ _ ⟨o9,O,rfl⟩;obtain ⟨kv,j5,rfl⟩:=O.form;refine Ax Y<|Zt<|AX V results315 Y (by
   have W:i=rows.length:=by omega
   subst W;exact ⟨_,[],Bb O (TH rows _ (CT _) y).symm (by rw [HI,kl,DQ,DC]),rfl⟩)
 obtain ⟨g,d9,cur,z,cu,rfl,j3,I⟩:=E9 m A0;injection cu with hv1 hv2 hv3
 subst hv1 hv3;obtain ⟨_,l8,_,l5,Z⟩:=JQ m;refine B4<|B7 Y<|Zm Y<|Ya Y Y<|Zm Y<|Zv (QT HE Y)<|Zv (Df Y Y)<|A5<|Ap Y (fun hg=>?_) (fun hg=>?_);·
  refine AN Y<|Zm Y<|Ba (Bn HE HL Y Y A0)<|Zm Y<|Zm Y<|Ya Y Y<|Zm Y<|Yb Y Y ?_;refine Ze (Ku (by_:=80) (sz:=10) (xs:=Ak (rows.take i)) HE D3 (rfl:Tryz.prog.info? 361=some Tryz.t361) rfl rfl rfl rfl Y Y Wh (aW I i hi) (by rw [BC,Cl];omega) A0 An A0 A0 A0) ?_;rintro _ _ ⟨s9,J,rfl⟩;rw [show i+(rows.length+1 -i)=rows.length+1 by omega]at J;have G:=J.1
  obtain ⟨g3,cO,ek,z3,rfl,rfl,ic,gy⟩:=E9 J A0;obtain ⟨_,gq,_,gm,K⟩:=JQ J;refine B1 Y<|Zn [0,1,2,7,9] ?_;refine Zx<|AN Y<|Zm Y ?_
  (refine Ba (Bo HE HL Y Y ?_ ?_) ?_;(focus (omega));(focus (omega)))
  refine Zm Y<|Xe (JM (cs:=Ak [y]) HE HL Y Y Wh Wo ((rfl:Bv (#[I0 y.l.t,I0 y.l.k,I0 y.l.v.a,I0 y.l.v.b,I0 y.l.v.c,I0 y.r.t,I0 y.r.k,I0 y.r.v.a,I0 y.r.v.b,I0 y.r.v.c]:AM) 0 (Ak [y]))) (by rw [BC,G0];omega) (by rw [BC,G0];omega) (K) (Ep _)) ?_;refine A5<|Zq<|Aw (n:=9) (0::0::0::6::15::0::0::96::255::[]) 256 AD AD V<|A1 0 V (AQ Y)<|A1 1 V (AQ Y)<|A1 2 V (AQ Y)<|A1 3 V (EW Y Y A0) ?_
  (refine FB (D':=31) 4 (Bo HE HL Y Y ?_ ?_) ?_;(focus (omega));(focus (omega)))
  refine A1 5 V (AQ Y)<|A1 6 V (AQ Y) ?_
  (refine FB (D':=255) 7 (Bo HE HL Y Y ?_ ?_) ?_;(focus (omega));(focus (omega)))
  refine Yw 8 511 rfl (JM (cs:=Ak (rows.drop i)) HE HL Y Y Wh Wo (Qf I i hi) (by rw [BC,D0];omega) (by rw [BC,D0,GN (by rw [BC,G0];omega)];omega) (by rw [GN (by rw [BC,G0];omega)];exact K) (Ep _))<|F1<|Ao<|Zn [9] ?_;refine Zx<|AN Y<|Ax Y<|Zt<|AX V results315 Y (by
   refine ⟨_,[(g,.cells cur 361 z)],Bb (EU (i:=0+(i+1)*10) (ys:=Ak (rows.drop i)) (EU (i:=0+i*10) (ys:=Ak [y]) J (by rw [G,BC,G0];omega)) ?_) (TH rows i hi y).symm ?_,rfl⟩;· simp only [C2,Cl,D0,G,BC,G0];omega
   · rw [mH G hi (by rw [BC];rfl) (by rw [BC,D0]),It (by rw [BC,Cl];omega),<-Fg,V4])
 refine B4<|Zq ?_;obtain ⟨ow,bn,ax⟩:=V5 m (rows.length+1) A0 A0;have G:=ax.1
 refine Zg<|Zm Y<|Zm Y<|Zm Y<|Ya Y Y ?_;refine Ba (Bn HE HL Y Y A0)<|D2 Y<|Zq<|zR (s1:=[(U,_)]) (s2:=[(g,_)]) (a:=U) (b:=g) Wo Wo (CH.2 V) (CH.2 V) (fun af=>?_);refine Zg<|Zm Y<|Zm Y<|Zm Y<|Zm Y<|Ya Y Y ?_
 (refine Ba (Bo HE HL Y Y ?_ ?_) ?_;(focus (omega));(focus (omega)))
 refine CO (cs:=[(U,.cells #[I0 y.l.t,I0 y.l.k,I0 y.l.v.a,I0 y.l.v.b,I0 y.l.v.c,I0 y.r.t,I0 y.r.k,I0 y.r.v.a,I0 y.r.v.b,I0 y.r.v.c] 361 (0,0)),(g,.cells cur 361 z)]) B6 (Sg (tR:=4) func324 AD AD AD AD HE HL Y af A0) V rfl ?_;refine Zv (Bh Y)<|Z0<|Zn [0,1,2,7,8,68] ?_;refine Zx<|AY Y (fun X=>?_) (fun X=>?_);·
  refine Zq<|Aw (n:=9) (0::0::0::6::15::0::0::96::255::[]) 256 AD AD V<|A1 0 V (AQ Y)<|A1 1 V (AQ Y)<|A1 2 V (AQ Y)<|A1 3 V (EW Y Y A0) ?_
  (refine FB (D':=31) 4 (Bo HE HL Y Y ?_ ?_) ?_;(focus (omega));(focus (omega)))
  refine A1 5 V (AQ Y)<|A1 6 V (AQ Y) ?_
  (refine FB (D':=255) 7 (Bo HE HL Y Y ?_ ?_) ?_;(focus (omega));(focus (omega)))
  refine Yw 8 511 rfl (JM (cs:=Ak (rows.drop i)) HE HL Y Y Wh Wo (Qf I i hi) (by rw [BC,D0];omega) (by rw [BC,D0];omega) (Z) (Ep _))<|F1<|Ao<|Zx<|AN Y<|Zm Y ?_
  (refine Ba (Bo HE HL Y Y ?_ ?_) ?_;(focus (omega));(focus (omega)))
  refine Zm Y<|Xe (JM (cs:=Ak [y]) HE HL Y Y Wh Wo ((rfl:Bv (#[I0 y.l.t,I0 y.l.k,I0 y.l.v.a,I0 y.l.v.b,I0 y.l.v.c,I0 y.r.t,I0 y.r.k,I0 y.r.v.a,I0 y.r.v.b,I0 y.r.v.c]:AM) 0 (Ak [y]))) (by rw [BC,G0];omega) (by rw [BC,G0,GN (by rw [BC,D0];omega)];omega) (by rw [GN (by rw [BC,D0];omega)];exact Z) (Ep _)) ?_;refine Z0<|Zn [0] ?_;refine Zx<|AN Y<|Ax Y<|Zt<|AX V results315 Y (by
   refine ⟨_,[],Bb (EU (i:=0+i*10) (ys:=Ak [y]) (EU (i:=0+(i+1)*10) (ys:=Ak (rows.drop i)) ax (by rw [G,BC,D0];omega)) ?_) (TH rows i hi y).symm ?_,rfl⟩;· simp only [C2,Cl,D0,BC,bn,G0];omega
   · rw [fT G hi (by rw [BC];rfl) (by rw [BC,D0]),de (by rw [BC];omega),V4])
 cases X
def Ol(pd:BV->Bool)(rows:List BV)(y:BV):List BV:=rows.take ((rows.findIdx? pd).getD rows.length)++[y]++rows.drop ((rows.findIdx? pd).getD rows.length)
theorem mI(g:BV->Bool)(rows:List BV)(y:BV):(Ol g rows y).length=rows.length+1:=by
 unfold Ol;simp only [C2,Cl,D0,G0];omega
theorem uB(g:BV->Bool)(rows:List BV):(Gx g rows<0/\(rows.findIdx? g).getD rows.length=rows.length)\/∃i:Nat,i<=rows.length/\Gx g rows=(i:Int)/\(rows.findIdx? g).getD rows.length=i:=by
 unfold Gx;cases h:rows.findIdx? g with
 |none=>exact .inl ⟨by simp,rfl⟩
 |some i=>
  obtain ⟨m,_,_⟩:=cH.1 h;exact .inr ⟨i,by omega,V,V⟩
theorem Mq{A:List A8}(hv:U1 A v rows)(hn:rows.length<=1000000000)(g:Nat)(us:List A2)(m:BV->Bool)(G:∀(args:AM) (w:A4),(callFunc g args).run prog w= .ok (.enter g args) w)(J:∀x:BV,Az prog g (.agg #[I0 x.l.t,I0 x.l.k,I0 x.l.v.a,I0 x.l.v.b,I0 x.l.v.c,I0 x.r.t,I0 x.r.k,I0 x.r.v.a,I0 x.r.v.b,I0 x.r.v.c]::us).toArray [B] (.bool (m x))):BQ prog 285 #[v,.func (.func g) #[] us.toArray] [A,B] (fun r H'=>∃s,BX 10 361 r (rows.filter fun x=>!m x).length (Ak (rows.filter fun x=>!m x)) s/\H'=[s,A,B]):=by
 obtain ⟨p,cap,rfl,_⟩:=id hv;refine Se func285 ntmps285 [0,1] ?_;intro u R;refine A3<|AH Y<|AN Y<|Zc [_] Y call314 Y V (Wx hv A0) ?_;rintro _ _ ⟨_,⟨s1,I,rfl⟩,rfl⟩;obtain ⟨U,K,rfl⟩:=I.form;refine Zm Y<|Zc [_,_] Y call313 Y V (XQ I hn g us m G J) ?_;rintro _ _ ⟨_,⟨s2,h2,rfl⟩,rfl⟩;obtain ⟨W,O,rfl⟩:=h2.form;refine Ax Y<|AX V results285 Y (by exact ⟨_,h2,V⟩)
theorem TG(G:BX 10 361 v rows.length (Ak rows) s)(hn:rows.length<=1000000000)(y:BV)(g:Nat)(us:List A2)(I:BV->Bool)(U:∀(args:AM) (w:A4),(callFunc g args).run prog w= .ok (.enter g args) w)(hf:∀x:BV,Az prog g (.agg #[I0 x.l.t,I0 x.l.k,I0 x.l.v.a,I0 x.l.v.b,I0 x.l.v.c,I0 x.r.t,I0 x.r.k,I0 x.r.v.a,I0 x.r.v.b,I0 x.r.v.c]::us).toArray [B] (.bool (I x))):BQ prog 290 #[v,.agg #[I0 y.l.t,I0 y.l.k,I0 y.l.v.a,I0 y.l.v.b,I0 y.l.v.c,I0 y.r.t,I0 y.r.k,I0 y.r.v.a,I0 y.r.v.b,I0 y.r.v.c],.func (.func g) #[] us.toArray] [s,B] (fun r H'=>∃X s2,BX 10 361 r (Ol I rows y).length (Ak (Ol I rows y)) X/\H'=[X,s2,B]):=by
 have af:=mL;obtain ⟨p,cap,rfl⟩:=G.form;have hU:=NN G A0
 refine Se func290 ntmps290 [0,1,2] ?_;intro u R;refine A3<|Ze (Bx #[_,_,_,_,_,_,_,_,_,_])<|AF fun bx=>AH Y<|AN Y<|Zm Y<|Xr [_,_] Y call288 Y V (Ls hU g us I U hf) ?_;obtain ⟨z9,O⟩:∃z,z=Gx I rows:=⟨_,rfl⟩;rw [<-O];have m:=uB I rows
 rw [<-O]at m;refine AH Y<|Zb [7,0,4] ?_;refine Ch (e0:=[(7,_)]) (H0:=[]) (fun e H=>∃(i:Nat),(i<=rows.length/\(rows.findIdx? I).getD rows.length=i)/\e=[(7,I0 (i:Int))]/\H=[]) Wp ?hx_1 ?hy_1
 case hx_1=>
  refine AN Y<|Zv (Dz Y Y)<|A5<|Ap Y (fun K=>?_) (fun K=>?_);·
   refine Zg<|Zm Y<|Zv (AR HE Y)<|B1 Y<|HM (e:=[(7,_)]) (h:=by exact ⟨rows.length,⟨CT _,by rcases m with⟨_,h⟩|⟨i,h1,h2,J⟩;exact h;omega⟩,rfl,rfl⟩)
  rcases m with⟨h9,_⟩|⟨i,h1,h2,J⟩
  · exact absurd h9 K
  subst h2;refine AC<|Hx (by exact ⟨i,⟨h1,J⟩,V,V⟩)
 rintro _ _ ⟨i,⟨hi,W⟩,rfl,rfl⟩;refine AN Y<|Zm Y<|Zo Wh (Pa #[_,_,_,_,_,_,_,_,_,_] isAgg361 HL Y)<|Ze (Ah (vs:=[_]) (cs:=[_,_,_,_,_,_,_,_,_,_]) HE HL iz Y V rfl V rfl V)<|AF fun Z=>Zc [_,_,_] Y call315 Y V (XK G hn i hi y Z) ?_;rintro _ _ ⟨_,⟨s3,s4,J,rfl⟩,rfl⟩;obtain ⟨g3,c3,rfl⟩:=J.form;refine Ax Y<|AX rfl results290 Y (by exact ⟨_,s4,by unfold Ol;rw [W];exact J,rfl⟩)
def HV(k:Int)(p:BV):Bool:=decide (p.r.k=k)
def Pz(k:Int)(p:BV):Bool:=decide (p.l.k=k)
def F3(rows:List AU):List BV:=(List.range (rows.length/2)).map fun k=>⟨rows.getD (2*k) AU.zero,rows.getD (2*k+1) AU.zero⟩
def DL(ps:List BV):List AU:=ps.flatMap fun p=>[p.l,p.r]
def jnT(q:QM)(c:Chg)(ps:List BV):List BV×Bool:=
 if c.t=q.ot then
  (if c.has then(ps.map fun p=>if HV c.k p then⟨p.l,⟨c.t,c.k,c.n⟩⟩else p,c.had)else(ps.filter fun p=>!HV c.k p,c.had))
 else match afQ q c with
  |none=>(ps.filter fun p=>!Pz c.k p,true)
  |some y=>if Gx (HV (mQ q (afQ q c))) ps<0 then(ps.filter fun p=>!Pz c.k p,(bfQ q c).isSome&&decide (mQ q (bfQ q c)=mQ q (afQ q c)))
   else(Ol (fun p=>L8 q y p.l) (ps.filter fun p=>!Pz c.k p) ⟨y,(ps.getD (Gx (HV (mQ q (afQ q c))) ps).toNat ⟨AU.zero,AU.zero⟩).r⟩,true)
def D8(q:QM)(c:Chg)(r:C8):C8×Bool:=if q.tb=q.ot then(r,false)else(⟨DL (jnT q c (F3 r.rows)).1,r.val,r.fnd⟩,(jnT q c (F3 r.rows)).2)
theorem K4(rows:List AU):(F3 rows).length=rows.length/2:=by unfold F3;rw [Bm,dq]
theorem qm{rows:List AU}{x y:AU}(hx:rows[2*k]?=some x)(hy:rows[2*k+1]?=some y):(F3 rows)[k]?=some ⟨x,y⟩:=by
 have h:=(C6.1 hy).1;unfold F3;rw [FF,cM A0,Pr,Q2,Q2,hx,hy];rfl
theorem IA:∀ps:List BV,(DL ps).length=2*ps.length
 |[]=>rfl
 |p::ps=>by
  have:=IA ps;unfold DL at*;rw [IH,C2,this,EV];simp;omega
variable{ps:List BV}{p:BV}
theorem Ru(h:ps[k]?=some p):DL (ps.take (k+1))=DL (ps.take k)++[p.l,p.r]:=by
 unfold DL;rw [Bq h,S0,pP]
theorem jE(q:QM)(c:Chg)(ps:List BV):(jnT q c ps).1.length<=ps.length+1:=by
 have g:=RW (fun p=>!HV c.k p) ps;have h2:=RW (fun p=>!Pz c.k p) ps
 unfold jnT;split
 · split
   · simp only [Bm];omega
   · simp only;omega
 · split
   · simp only;omega
   · split
     · simp only;omega
     · simp only [mI];omega
theorem xu(q:QM)(c:Chg)(m G:B8)(o n:Int)(g:Nat)(x:BV):Az prog 286 #[.agg #[I0 x.l.t,I0 x.l.k,I0 x.l.v.a,I0 x.l.v.b,I0 x.l.v.c,I0 x.r.t,I0 x.r.k,I0 x.r.v.a,I0 x.r.v.b,I0 x.r.v.c],I1 g] [[(g,.cells (q.HH c m G o n) 259 (0,0))]] (.bool (HV c.k x)):=by
 refine Se func286 ntmps286 [0,1] ?_;intro u R;refine A3<|Ze (Bx #[I0 x.l.t,I0 x.l.k,I0 x.l.v.a,I0 x.l.v.b,I0 x.l.v.c,I0 x.r.t,I0 x.r.k,I0 x.r.v.a,I0 x.r.v.b,I0 x.r.v.c])<|AF fun I=>AH Y<|A3<|Zh 5 Wf V rfl B3 Y<|Zv (Ai (off:=1) H3 V rfl A6 Y)<|Zl AE Y<|Zh 7 Fl V rfl Cd Y<|Zv (Ai (off:=1) CC V rfl A6 Y)<|Zl AE Y<|Zv (CJ Y Y)<|Ax Y<|AX V results286 Y (by exact ⟨V,V⟩)
theorem xq(q:QM)(c:Chg)(m G:B8)(o n:Int)(g:Nat)(x:BV):Az prog 287 #[.agg #[I0 x.l.t,I0 x.l.k,I0 x.l.v.a,I0 x.l.v.b,I0 x.l.v.c,I0 x.r.t,I0 x.r.k,I0 x.r.v.a,I0 x.r.v.b,I0 x.r.v.c],I1 g] [[(g,.cells (q.HH c m G o n) 259 (0,0))]] (.bool (Pz c.k x)):=by
 refine Se func287 ntmps287 [0,1] ?_;intro u R;refine A3<|Ze (Bx #[I0 x.l.t,I0 x.l.k,I0 x.l.v.a,I0 x.l.v.b,I0 x.l.v.c,I0 x.r.t,I0 x.r.k,I0 x.r.v.a,I0 x.r.v.b,I0 x.r.v.c])<|AF fun I=>AH Y<|A3<|Zh 0 Wf V rfl B3 Y<|Zv (Ai (off:=1) H3 V rfl A6 Y)<|Zl AE Y<|Zh 7 Fl V rfl Cd Y<|Zv (Ai (off:=1) CC V rfl A6 Y)<|Zl AE Y<|Zv (CJ Y Y)<|Ax Y<|AX V results287 Y (by exact ⟨V,V⟩)
theorem xn(q:QM)(c:Chg)(m G:B8)(o n:Int)(g:Nat)(x:BV):Az prog 289 #[.agg #[I0 x.l.t,I0 x.l.k,I0 x.l.v.a,I0 x.l.v.b,I0 x.l.v.c,I0 x.r.t,I0 x.r.k,I0 x.r.v.a,I0 x.r.v.b,I0 x.r.v.c],I1 g] [[(g,.cells (q.HH c m G o n) 259 (0,0))]] (.bool (HV n x)):=by
 refine Se func289 ntmps289 [0,1] ?_;intro u R;refine A3<|Ze (Bx #[I0 x.l.t,I0 x.l.k,I0 x.l.v.a,I0 x.l.v.b,I0 x.l.v.c,I0 x.r.t,I0 x.r.k,I0 x.r.v.a,I0 x.r.v.b,I0 x.r.v.c])<|AF fun I=>AH Y<|A3<|Zh 5 Wf V rfl B3 Y<|Zv (Ai (off:=1) H3 V rfl A6 Y)<|Zl AE Y<|Zh 20 Fl V rfl A6 Y<|Zl AE Y<|Zv (CJ Y Y)<|Ax Y<|AX V results289 Y (by exact ⟨V,V⟩)
theorem xm(g:Nat)(us:List A2)(I:AU->Bool)(m:∀(args:AM) (w:A4),(callFunc g args).run prog w= .ok (.enter g args) w)(J:∀x:AU,Az prog g (.agg x.A88::us).toArray [B] (.bool (I x)))(G:Nat)(x:BV):Az prog 291 #[.agg #[I0 x.l.t,I0 x.l.k,I0 x.l.v.a,I0 x.l.v.b,I0 x.l.v.c,I0 x.r.t,I0 x.r.k,I0 x.r.v.a,I0 x.r.v.b,I0 x.r.v.c],I1 G] [[(G,.cells #[.func (.func g) #[] us.toArray] 210 (0,0))],B] (.bool (I x.l)):=by
 refine Se func291 ntmps291 [0,1] ?_;intro u R;refine A3<|Ze (Bx #[I0 x.l.t,I0 x.l.k,I0 x.l.v.a,I0 x.l.v.b,I0 x.l.v.c,I0 x.r.t,I0 x.r.k,I0 x.r.v.a,I0 x.r.v.b,I0 x.r.v.c])<|AF fun K=>AH Y<|A3<|Zl isAgg210 Y ?_;refine Zh 0 Wf V rfl B3 Y<|Zo Wh (AA (cs:=x.l.A88) DE B3 Y B9 B2) ?_;refine Xr [_] Y (m) Y V (J x.l) ?_;refine Ax Y<|AX V results291 Y (by exact ⟨V,V⟩)
theorem kP(m:ps[k]?=some p)(x:AU):(Ak ps).take (0+k*10+5)++Ad [x]++(Ak ps).drop (0+k*10+5+(Ad [x]).length)=Ak (ps.set k ⟨p.l,x⟩):=by
 have J:=(C6.1 m).1;have e:(Ak (ps.take k)).length=k*10:=by rw [BC,Cl];omega
 have I:Ak [p]=Ad [p.l]++Ad [p.r]:=rfl;have g:∀r:AU,(Ad [r]).length=5:=fun r=>rfl
 have e1:Ak ps=(Ak (ps.take k)++Ad [p.l])++(Ad [p.r]++Ak (ps.drop (k+1))):=by
  rw [Rb m,I];simp
 have e2:(Ak (ps.take k)++Ad [p.l]).length=0+k*10+5:=by rw [C2,e,g];omega
 rw [e1,It e2,g,<-cS,ZD e2,ZD (g p.r),mn,B0 J];have G:Ak (ps.take k++⟨p.l,x⟩::ps.drop (k+1))=Ak (ps.take k)++(Ak [⟨p.l,x⟩]++Ak (ps.drop (k+1))):=by
  rw [<-DC,<-DC];rfl
 rw [G,show Ak [⟨p.l,x⟩]=Ad [p.l]++Ad [x] from rfl];simp
theorem QJ(G:Bv cur 0 (Ak ps))(U:ps[k]?=some p):cur[0+k*10+5+1]?=some (I0 p.r.k)/\0+k*10+5+5<=cur.size/\cur.extract (0+k*10+5) (0+k*10+5+5)=p.r.A88:=by
 have g:∀j u,j<10->(Ak [p])[j]?=some u->cur[k*10+j]?=some u:=fun j u J m=>by
  have:=G.get (k*10+j) u ((Il U j J).trans m);rwa [DP]at this
 have K:=g 6 _ An rfl;have O:=g 9 _ An rfl
 have W:k*10+9<cur.size:=(Hj.1 O).1;refine ⟨by rw [show 0+k*10+5+1=k*10+6 by omega];exact K,by omega,?_⟩;apply HW.1;apply O2;intro j;rw [Hs,eR];split
 · rename_i J
   have I:j<5:=by omega
   obtain ⟨u,m⟩:∃u,(Ad [p.r])[j]?=some u:=⟨_,BE (by rw [BD];simpa using I)⟩;have h2:=g (5+j) u A0 (by
    rw [show Ak [p]=Ad [p.l]++Ad [p.r] from rfl,PF (by rw [BD];simp),BD];rw [show 5+j - [p.l].length*5=j by simp];exact m)
   rw [show 0+k*10+5+j=k*10+(5+j) by omega,h2];exact m.symm
 · rw [Nd]
   show(Ad [p.r]).length<=j;rw [BD];simp only [G0];omega
def NW(c:Chg)(ps:List BV)(i:Nat):List BV:=(ps.take i).map (fun p=>if HV c.k p then⟨p.l,⟨c.t,c.k,c.n⟩⟩else p)++ps.drop i
theorem sQ(c:Chg)(ps:List BV)(i:Nat)(hi:i<=ps.length):(NW c ps i).length=ps.length:=by
 unfold NW;simp only [C2,Bm,Cl,D0];omega
variable{c:Chg}
theorem XA(g:ps[i]?=some p):(NW c ps i)[i]?=some p:=by
 have hi:=(C6.1 g).1;unfold NW;rw [PF (by rw [Bm,Cl];omega),Bm,Cl,S7 A0,W1,S2,Pu,g]
theorem Vd(g:ps[i]?=some p):NW c ps (i+1)=(NW c ps i).set i (if HV c.k p then⟨p.l,⟨c.t,c.k,c.n⟩⟩else p):=by
 have hi:=(C6.1 g).1;have m:((ps.take i).map (fun p=>if HV c.k p then(⟨p.l,⟨c.t,c.k,c.n⟩⟩:BV)else p)).length=i:=by rw [Bm,Cl];omega
 unfold NW;rw [Bq g,CN,nB (h:=by omega),m,W1];obtain ⟨_,rfl⟩:=C6.1 g;rw [RT hi,List.set_cons_zero];simp
theorem pJ(g:ps[i]?=some p):ps.set i p=ps:=by
 obtain ⟨hi,rfl⟩:=C6.1 g;exact List.set_getElem_self hi
theorem ur(g:Nat)(us:List A2)(I:AU->Bool)(G:∀(args:AM) (w:A4),(callFunc g args).run prog w= .ok (.enter g args) w)(J:∀x:AU,Az prog g (.agg x.A88::us).toArray [B] (.bool (I x)))(m:Nat)(x:BV):Az prog 291 (.agg #[I0 x.l.t,I0 x.l.k,I0 x.l.v.a,I0 x.l.v.b,I0 x.l.v.c,I0 x.r.t,I0 x.r.k,I0 x.r.v.a,I0 x.r.v.b,I0 x.r.v.c]::([I1 m]:List A2)).toArray [[(m,.cells #[.func (.func g) #[] us.toArray] 210 (0,0))]++B] (.bool (I x.l)):=by
 refine Gz (xm g us I G J m x) B6 ?_;rintro r H' ⟨rfl,rfl⟩;exact ⟨_,⟨V,V⟩,by simp⟩
theorem XI{q:QM}{G I:B8}{g:Nat}{f:BV->Bool}{m:Nat}(h:∀x,Az prog m #[.agg #[I0 x.l.t,I0 x.l.k,I0 x.l.v.a,I0 x.l.v.b,I0 x.l.v.c,I0 x.r.t,I0 x.r.k,I0 x.r.v.a,I0 x.r.v.b,I0 x.r.v.c],I1 g] [[(g,.cells (q.HH c G I (mQ q (bfQ q c)) (mQ q (afQ q c))) 259 (0,0))]] (.bool (f x)))(x:BV):Az prog m (.agg #[I0 x.l.t,I0 x.l.k,I0 x.l.v.a,I0 x.l.v.b,I0 x.l.v.c,I0 x.r.t,I0 x.r.k,I0 x.r.v.a,I0 x.r.v.b,I0 x.r.v.c]::([I1 g]:List A2)).toArray [[(g,.cells (q.HH c G I (mQ q (bfQ q c)) (mQ q (afQ q c))) 259 (0,0))]] (.bool (f x)):=h x
theorem yC(h:c.has=true):ER c c.has c.n=⟨c.t,c.k,c.n⟩:=by unfold ER;rw [B0 h]
theorem sS(c:Chg)(ps:List BV):NW c ps ps.length=ps.map fun p=>if HV c.k p then⟨p.l,⟨c.t,c.k,c.n⟩⟩else p:=by unfold NW;rw [HI,kl,DQ]
set_option maxHeartbeats 1000000 in
theorem fP(q:QM)(gm:0<=q.cl/\q.cl<=3)(c:Chg)(O p2:B8){s2:List A8}(e1:O.isSome=(bfQ q c).isSome)(h2:Ib p2 (afQ q c) s2){sl:List A8}(hl:BX 10 361 v ps.length (Ak ps) sl)(hn:ps.length<=100000000):BQ prog 252 #[.agg (q.HH c O p2 (mQ q (bfQ q c)) (mQ q (afQ q c))),v] [sl,s2] (fun w H'=>∃v' s',w= .tuple #[v',.bool (jnT q c ps).2]/\BX 10 361 v' (jnT q c ps).1.length (Ak (jnT q c ps).1) s'/\H'=[s']):=by
 have l8:=mL;obtain ⟨pl,ax,rfl⟩:=hl.form;have hU:=NN hl A0
 have l5:(ps.filter fun p=>!Pz c.k p).length<=ps.length:=RW _ _;refine Se func252 ntmps252 [0,1] ?_;intro u R;refine A3<|Ze (FN Y (cs:=(q.HH c O p2 (mQ q (bfQ q c)) (mQ q (afQ q c)))) (GD q c O p2 (mQ q (bfQ q c)) (mQ q (afQ q c))))<|AF fun be=>Za Y<|D2 Y<|A3<|Zh 7 Fl V rfl Cd Y<|Zv (Ai (off:=0) CC V rfl A6 Y)<|Zl AE Y<|Zh 0 Fl V rfl D4 Y<|Zv (Ai (off:=6) DB V rfl A6 Y)<|Zl AE Y<|Zv (CJ Y Y)<|A5<|Ap Y (fun J=>?_) (fun J=>?_);·
  refine A3<|Zh 7 Fl V rfl Cd Y<|Zo Wh (AA (cs:=c.A87) HG Cd Y B9 B2)<|Xr [_] Y call122 Y V (OM c) ?_;obtain ⟨y9,cO⟩:∃y,y=ER c c.has c.n:=⟨_,rfl⟩;rw [<-cO];refine Zm Y<|Zd Y V<|Zd Y V<|Ze (Al G1 #[_,_,_,_,_])<|AF fun kv=>Xe (Xw B3 y9.A88)<|B1 Y<|Zn [1,2,6,7] ?_;refine Zx<|B7 Y<|Zv (Bh Y)<|A5<|AY Y (fun hh=>?_) (fun hh=>?_);·
   have af:c.has=false:=by simpa using hh
   refine Zq<|Aw (n:=8) (0::0::3::0::8::24::7::127::[]) 4 AD AD V<|A1 0 V (AQ Y)<|A1 1 V (Bg (vs:=[]) (us:=[_]) Y Y)<|A1 3 V (AB (off:=7) Fl V rfl Cd Y)<|A1 4 V (Ai (off:=2) CC V rfl FA Y)<|Bk 5 V GW Y<|Zz (l:=[2])<|C0 [true] [(5,(_,_))] V rfl (Zw [_,_] Y call285 Y V (Mq (B:=[(be,.cells (q.HH c O p2 (mQ q (bfQ q c)) (mQ q (afQ q c))) 259 (0,0))]) hU A0 286 [I1 be] (HV c.k) call286 (XI fun x=>xu q c O p2 (mQ q (bfQ q c)) (mQ q (afQ q c)) be x))) ?_ Bz Am;rintro _ _ ⟨_,⟨s9,h9,rfl⟩,rfl⟩;refine ⟨Zk (Ac),?_⟩;obtain ⟨g9,c9,rfl⟩:=h9.form;refine A1 6 V (BI Y)<|A1 7 V (BI Y)<|Ao<|Zx<|AJ<|Zt<|Zt<|Di V jj Y Y (by
    have I:jnT q c ps=(ps.filter fun p=>!HV c.k p,c.had):=by unfold jnT;rw [B0 J,As (by rw [af];decide)]
    exact ⟨.slice g9 _ c9,s9,by rw [I],by rw [I];exact h9,rfl⟩)
  have af:c.has=true:=by simpa using hh
  rw [yC af]at cO;refine B4<|B7 Y<|Zv (AR HE Y)<|Zm Y<|A5<|AP<|Zb [35,1,2,6,34] ?_;refine Ay (e0:=[(35,_)]) (fun m e H=>∃(i:Nat) (sk:List A8),m=ps.length -i/\(i<=ps.length/\BX 10 361 (.slice pl ps.length ax) ps.length (Ak (NW c ps i)) sk)/\e=[(35,I0 (i:Int))]/\H=[sk]) (by exact ⟨0,sl,V,⟨C7 _,hl⟩,V,V⟩) Wp ?_;rintro _ _ _ ⟨i,sk,rfl,⟨hi,K⟩,rfl,rfl⟩;refine A3<|Zv (Ar Y Y)<|A5<|Zq<|Ap Y (fun X=>?_) (fun X=>?_);·
   obtain ⟨p,hp⟩:∃p,ps[i]?=some p:=⟨_,BE X⟩;obtain ⟨g,ek,cur,z,cu,rfl,ic,W⟩:=E9 K A0;injection cu with hv1 hv2 hv3
   subst hv1 hv3;obtain ⟨_,U,_,j5,gy⟩:=JQ K;obtain ⟨h6,j3,_⟩:=QJ W (XA hp);refine B4<|Zq<|AP<|AN Y<|D2 Y<|Aw (n:=10) (0::0::3::7::15::31::0::64::192::511::[]) 0 AD AD V<|A1 0 V (AQ Y)<|A1 1 V (AQ Y)<|A1 2 V (AZ HE HL Y Y A0)<|A1 3 V (Ai (off:=5) Wf V rfl B3 Y)<|A1 4 V (Ai (off:=1) H3 V rfl A6 Y)<|Bk 5 V AE Y (hv:=by exact h6)<|A1 6 V (AB (off:=7) Fl V rfl Cd Y)<|A1 7 V (Ai (off:=1) CC V rfl A6 Y)<|Bk 8 V AE Y<|A1 9 V (CJ Y Y)<|Ao<|Zn [1,2,6,8,34,35,47] ?_;refine Zx<|Ap Y (fun hk=>?_) (fun hk=>?_);focus
    have e9:NW c ps (i+1)=(NW c ps i).set i ⟨p.l,y9⟩:=by rw [Vd hp,B0 (by unfold HV;simp [hk]),cO]
    have Z:=Bb (xs':=Ak (NW c ps (i+1))) (EU (i:=0+i*10+5) (ys:=Ad [y9]) K (by rw [BC,BD,G0,sQ c ps i hi];omega)) rfl (by rw [e9];exact kP (XA hp) y9);refine Zg<|Zm Y<|Zm Y<|Zo Wh (AA (cs:=y9.A88) DE B3 Y B9 B2)<|Ba (AZ HE HL Y Y A0)<|Zv (Ai (off:=5) Wf rfl rfl B3 Y)<|Xe (BF B3 Y Y HT Wu (by exact (rfl:_=EP cur (0+i*10+5) (Ad [y9]))) Fm A0 gy)<|Z0 ?_
   rotate_left
   focus
    have e9:NW c ps (i+1)=NW c ps i:=by rw [Vd hp,As (by unfold HV;simp [hk]),pJ (XA hp)]
    have Z:=K;rw [<-e9]at Z;refine AC ?_
   all_goals
    refine A9<|Zx<|E6 Y Y Y<|DM (e:=[(35,_)]) (h:=by exact ⟨i+1,_,V,⟨by omega,Z⟩,V,V⟩)
  have ei:i=ps.length:=by omega
  subst ei;rw [sS]at K;refine BB<|Zt<|Zt<|AV<|Zx<|Zq<|Aw (n:=6) (0::0::2::6::1::31::[]) 0 AD AD V<|A1 0 V (AQ Y)<|A1 1 V (AB (off:=7) Fl V rfl Cd Y)<|A1 2 V (Ai (off:=2) CC V rfl FA Y)<|Bk 3 V GW Y<|A1 4 V (BI Y)<|A1 5 V (BI Y)<|Ao<|Zx<|AJ<|Zt<|Di V jj Y Y (by
   have I:jnT q c ps=(ps.map fun p=>if HV c.k p then⟨p.l,⟨c.t,c.k,c.n⟩⟩else p,c.had):=by unfold jnT;rw [B0 J,B0 af]
   exact ⟨.slice pl ps.length ax,sk,by rw [I],by rw [I];exact Bb K (Bm _).symm rfl,rfl⟩)
 refine B4<|AN Y<|Zv (Bg (vs:=[]) (us:=[_]) Y Y)<|Zc [_,_] Y call285 Y V (Mq (B:=[(be,.cells (q.HH c O p2 (mQ q (bfQ q c)) (mQ q (afQ q c))) 259 (0,0))]) hU A0 287 [I1 be] (Pz c.k) call287 (XI fun x=>xq q c O p2 (mQ q (bfQ q c)) (mQ q (afQ q c)) be x)) ?_;rintro _ _ ⟨_,⟨s9,h9,rfl⟩,rfl⟩;obtain ⟨g9,c9,rfl⟩:=h9.form;refine B1 Y<|Zn [1,2,9] ?_;refine Zx<|Zq<|A3<|Zh 18 Fl V rfl NO Y<|Zl RM Y<|Zv (NU Wc Y Y)<|A5<|AY Y (fun bn=>?_) (fun bn=>?_);·
  have hy:afQ q c=none:=by have h8:=h2.some_;cases G:afQ q c with|none=>rfl|some y=>(rw [G]at h8;cases p2<;>simp at bn h8)
  refine AN Y<|Za Y<|Ax Y<|Zt<|Di V jj Y Y (by
   have I:jnT q c ps=(ps.filter fun p=>!Pz c.k p,true):=by unfold jnT;rw [As J,hy]
   exact ⟨.slice g9 _ c9,s9,by rw [I],by rw [I];exact h9,rfl⟩)
 obtain ⟨y,hy⟩:∃y,afQ q c=some y:=kB.1 (by rw [<-h2.some_];cases p2<;>simp at bn⊢);rw [hy]at h2;obtain ⟨b2,rfl,rfl⟩:=h2;refine B4<|AN Y<|Zv (Bg (vs:=[]) (us:=[_]) Y Y)<|Xr [_,_] Y call288 Y V (Ls (B:=[(be,.cells #[I0 q.kd,I0 q.tb,I0 q.cl,I0 q.lo,I0 q.hi,I0 q.bq,I0 q.ot,I0 c.t,I0 c.k,.bool c.had,I0 c.o.a,I0 c.o.b,I0 c.o.c,.bool c.has,I0 c.n.a,I0 c.n.b,I0 c.n.c,.pointer O,I1 b2,I0 (mQ q (bfQ q c)),I0 (mQ q (afQ q c))] 259 (0,0))]) hU 289 [I1 be] (HV (mQ q (afQ q c))) call289 (XI fun x=>xn q c O (some ⟨b2,0,none⟩) (mQ q (bfQ q c)) (mQ q (afQ q c)) be x)) ?_;have U:=TJ (HV (mQ q (afQ q c))) ps
 obtain ⟨z9,d9⟩:∃z,z=Gx (HV (mQ q (afQ q c))) ps:=⟨_,rfl⟩;rw [<-d9]at U⊢;refine AH Y<|B7 Y<|Zv (Dz Y Y)<|A5<|Ap Y (fun X=>?_) (fun X=>?_);·
  have I:jnT q c ps=(ps.filter fun p=>!Pz c.k p,(bfQ q c).isSome&&decide (mQ q (bfQ q c)=mQ q (afQ q c))):=by unfold jnT;rw [As J];split;rename_i G;rw [hy]at G;cases G;rw [B0 (by rw [<-d9];exact X)]
  refine Zq<|Aw (n:=13) (0::0::2::6::14::30::62::30::158::510::1022::31::4095::[]) 0 AD AD V<|A1 0 V (AQ Y)<|A1 1 V (AB (off:=17) Fl V rfl NO Y)<|Bk 2 V RM Y<|A1 3 V (Fp Wc Y Y)<|A1 4 V (AQ Y)<|Cb (t:=74) Y (fun h1=>?_) (fun h1=>?_);focus
   rw [h1];refine B5 5 V (AB (off:=19) Fl V rfl A6 Y)<|Fk 6 V Wh (BL AE Y B2)<|B5 7 V (AB (off:=20) Fl V rfl A6 Y)<|Fk 8 V Wh (BL AE Y B2)<|B5 9 V (CJ Y Y)<|A1 10 V (AL Y Y) ?_
  rotate_left
  focus
   rw [h1];refine AW 5 V<|AW 6 V<|AW 7 V<|AW 8 V<|AW 9 V<|A1 10 V (AO Y Y) ?_
  all_goals
   refine A1 11 V (BI Y)<|A1 12 V (BI Y)<|Ao<|Zn [4,5] ?_;refine Zx<|AJ<|Zt<|Di rfl jj Y Y (by exact ⟨.slice g9 _ c9,s9,by rw [I,<-e1,h1];rfl,by rw [I];exact h9,rfl⟩)
 rcases U with⟨G,_⟩|⟨k,p,G,hp,_,_⟩
 · exact absurd G A0
 subst G;have I:jnT q c ps=((Ol (fun p=>L8 q y p.l) (ps.filter fun p=>!Pz c.k p) ⟨y,p.r⟩),true):=by
  unfold jnT;rw [As J];split;· rename_i G;rw [hy]at G;cases G
  · rename_i y0 G;rw [hy]at G;injection G with G;subst G;rw [<-d9,As A0,Z2,Q2,hp];rfl
 have hk:=(C6.1 hp).1;obtain ⟨g,ek,cur,z,cu,rfl,ic,W⟩:=E9 hl A0;injection cu with hv1 hv2 hv3
 subst hv1 hv3;obtain ⟨_,j3,gq⟩:=QJ W hp;refine AC<|CD<|Zo Wh (AA cn cA Y B9 (Au V))<|Zc [_] Y call250 Y V (Qj q gm c O (mQ q (bfQ q c)) (mQ q (afQ q c)) y b2) ?_;rintro _ _ ⟨_,⟨b8,b9,rfl,rfl⟩,rfl⟩;refine Ze (Al zeroValue210 #[_])<|AF fun bb=>Xe (Zs sizeOf210 Y Y V (hc:=by exact (V:_=(#[.func (.func 284) #[] ([I1 b8,I1 b9]:List A2).toArray]:AM))) (hi:=by decide))<|Z0<|Zn [1,2,9,10,11] ?_;refine Zx<|Zq<|CK (s1:=[(bb,_)]) (s2:=_++_++[(b2,_)]) Wo Wo ?_;refine Aw (n:=15) (0::0::2::6::14::0::0::96::224::480::1022::0::4095::8191::16383::[]) 4096 AD AD V<|A1 0 V (AQ Y)<|A1 1 V (AB (off:=18) Fl V rfl NO Y)<|Bk 2 V RM Y<|A1 3 V (Aq Y V)<|CS (b:=b2) (x:= .cells y.A88 61 (0,0)) (D':=31) 4 V rfl V B6 (Pa y.A88 DE B3 Y) ?_;refine A1 5 V (AQ Y)<|A1 6 V (AQ Y)<|A1 7 V (AZ HE HL Y Y A0)<|A1 8 V (Ai (off:=5) Wf V rfl B3 Y)<|GB 9 V Wh (AA (cs:=p.r.A88) DE B3 Y A0 gq)<|A1 10 V (BM (vs:=[(0,.agg y.A88),(1,.agg p.r.A88)]) (cs:=#[I0 y.t,I0 y.k,I0 y.v.a,I0 y.v.b,I0 y.v.c,I0 p.r.t,I0 p.r.k,I0 p.r.v.a,I0 p.r.v.b,I0 p.r.v.c]) Y (Aa (pl:=#[(0,5),(5,5)]) iz Wf (fun _=>by kernel_rfl) AD))<|A1 11 V (Bg (vs:=[]) (us:=[_]) Y Y)<|Zz (l:=[12])<|C0 [false,false,false] [] V rfl (Zw [_,_,_] Y call290 Y V (TG h9 A0 ⟨y,p.r⟩ 291 [I1 bb] (fun p=>L8 q y p.l) call291 (fun x=>ur 284 ([I1 b8,I1 b9]:List A2) (L8 q y) call284 (fun x=>ag q gm c O (mQ q (bfQ q c)) (mQ q (afQ q c)) y b2 b8 b9 x) bb x))) ?_ Bz Am;rintro _ _ ⟨_,⟨s5,s6,h5,rfl⟩,rfl⟩;refine ⟨Ac,?_⟩;obtain ⟨g5,c5,rfl⟩:=h5.form;refine A1 13 V (BI Y)<|A1 14 V (BI Y)<|Ao<|Zn [4,5] ?_;refine Zx<|AJ<|Di rfl jj Y Y (by exact ⟨.slice g5 _ c5,s5,by rw [I],by rw [I];exact h5,rfl⟩)
theorem dY(q:QM)(c:Chg)(r:C8):(D8 q c r).1.val=r.val:=by unfold D8;split<;>rfl
theorem dZ(q:QM)(c:Chg)(r:C8):(D8 q c r).1.rows.length<=r.rows.length+2:=by
 unfold D8;split;· exact gh _ _
 · show(DL _).length<=_
   have h:=jE q c (F3 r.rows);rw [K4]at h;rw [IA];omega
theorem jK{rs:List AU}{x:AU}(g:Bv cur 0 (Ad rs))(hx:rs[k]?=some x):k*5+5<=cur.size/\cur.extract (0+k*5) (0+k*5+5)=x.A88:=aD g hx
theorem uV(g:Bv cur 0 (Ak rs))(hx:rs[k]?=some x):k*10+10<=cur.size/\cur.extract (0+k*10) (0+k*10+10)=#[I0 x.l.t,I0 x.l.k,I0 x.l.v.a,I0 x.l.v.b,I0 x.l.v.c,I0 x.r.t,I0 x.r.k,I0 x.r.v.a,I0 x.r.v.b,I0 x.r.v.c]:=Vr g hx
set_option maxHeartbeats 1000000 in
theorem dO(q:QM)(l5:0<=q.cl/\q.cl<=3)(c:Chg)(p1 p2:B8){s2:List A8}(e1:p1.isSome=(bfQ q c).isSome)(h2:Ib p2 (afQ q c) s2){r:C8}{rv:A2}{sr:List A8}(hr:BX 5 61 rv r.rows.length (Ad r.rows) sr)(hn:r.rows.length<=100000000):BQ prog 212 #[.agg (q.HH c p1 p2 (mQ q (bfQ q c)) (mQ q (afQ q c))),.agg #[rv,I0 r.val,.bool r.fnd]] [sr,s2] (fun w H'=>∃j3 s',w= .tuple #[.agg #[j3,I0 (D8 q c r).1.val,.bool (D8 q c r).1.fnd],.bool (D8 q c r).2]/\BX 5 61 j3 (D8 q c r).1.rows.length (Ad (D8 q c r).1.rows) s'/\H'=[s']):=by
 have p8:=mL;obtain ⟨pv,cv,rfl⟩:=hr.form;refine Se func212 ntmps212 [0,1] ?_;intro u R;refine A3<|Ze (FN Y (cs:=(q.HH c p1 p2 (mQ q (bfQ q c)) (mQ q (afQ q c)))) (GD q c p1 p2 (mQ q (bfQ q c)) (mQ q (afQ q c))))<|AF fun be=>Ze (Bx #[.slice pv r.rows.length cv,I0 r.val,.bool r.fnd])<|AF fun br=>Ze (Al HP #[_,_,_])<|AF fun bo=>D2 Y<|A3<|Zh 0 Fl V rfl D4 Y<|Zv (Ai (off:=1) DB V rfl A6 Y)<|Zl AE Y ?_;refine Zh 0 Fl V rfl D4 Y<|Zv (Ai (off:=6) DB V rfl A6 Y)<|Zl AE Y ?_;refine Zv (CJ Y Y)<|A5<|Ap Y (fun X=>?_) (fun X=>?_);·
  refine A3<|Zo Wh (AA (cs:=#[_,_,_]) E3 C3 Y B9 B2) ?_;refine Xe (Xw C3 _) ?_;refine B1 Y<|Zn [4,5] ?_;refine Zx<|AJ<|Zt<|CP V results212 Y Wh (Av E3 C3 Wn (V)) Y (by
   have e8:D8 q c r=(r,false):=by unfold D8;rw [B0 X]
   exact ⟨.slice pv r.rows.length cv,sr,by rw [e8];rfl,by rw [e8];exact hr,rfl⟩)
 refine AC<|CD<|D2 Y<|Zq<|Bc<|Zg<|B1 Y<|Zn [2,3,4,6,7] ?_;refine Zx<|AP<|Zb [6,7,2,3,4] ?_;refine Ay (e0:=[(6,_),(7,_)]) (fun m e H=>∃(k:Nat) (K:B8) (ck:Nat) (W:List A8),m=r.rows.length -k/\(k<=r.rows.length/2/\BX 10 361 (.slice K k ck) k (Ak ((F3 r.rows).take k)) W)/\e=[(6,.slice K k ck),(7,I0 ((2*k:Nat):Int))]/\H=[W]) (by exact ⟨0,none,0,[],V,⟨C7 _,Bi 10 _⟩,V,V⟩) Wp ?_;rintro _ _ _ ⟨k,K,ck,W,rfl,⟨hk,I⟩,rfl,rfl⟩;refine Zq<|Zq<|Bc<|Zg<|Zm Y<|Ya (n:=1) Y Y<|Zh 0 E4 V rfl DH Y<|Zl GS Y ?_;refine Zv (AR C1 Y)<|Zv (Ar Y Y)<|A5<|Ap Y (fun J=>?_) (fun J=>?_);·
  obtain ⟨x,hx⟩:∃x,r.rows[2*k]?=some x:=⟨_,BE A0⟩;obtain ⟨y,hy⟩:∃y,r.rows[2*k+1]?=some y:=⟨_,BE A0⟩;obtain ⟨g,af,cur,z,Z,rfl,gy,G⟩:=E9 hr A0;injection Z with hv1 hv2 hv3
  subst hv1 hv3;obtain ⟨o9,d9⟩:=jK G hx;obtain ⟨ow,gm⟩:=jK G hy;refine B4<|Zq<|AP<|Aw (n:=16) (0::0::2::0::14::30::0::64::0::256::960::1984::4094::8190::16383::32767::[]) 24576 AD AD V<|A1 0 V (AQ Y)<|A1 1 V (AB (off:=0) E4 V rfl DH Y)<|Bk 2 V GS Y ?_;refine A1 3 V (AQ Y)<|A1 4 V (AZ C1 B3 Y Y A0)<|GB 5 V Wh (AA (cs:=#[_,_,_,_,_]) DE B3 Y A0 d9) ?_;refine A1 6 V (AB (off:=0) E4 V rfl DH Y)<|Bk 7 V GS Y ?_;refine A1 8 V (AQ Y)<|A1 9 V (EW (n:=1) Y Y A0)<|A1 10 V (AZ C1 B3 Y Y A0)<|GB 11 V Wh (AA (cs:=#[_,_,_,_,_]) DE B3 Y A0 gm) ?_;refine A1 12 V (BM (vs:=[(0,.agg x.A88),(1,.agg y.A88)]) (cs:=#[I0 x.t,I0 x.k,I0 x.v.a,I0 x.v.b,I0 x.v.c,I0 y.t,I0 y.k,I0 y.v.a,I0 y.v.b,I0 y.v.c]) Y (Aa (pl:=#[(0,5),(5,5)]) iz Wf (fun _=>by kernel_rfl) AD))<|Yw 13 16383 V (Ah (vs:=[_]) (cs:=[_,_,_,_,_,_,_,_,_,_]) HE HL iz Y V rfl V rfl V)<|AF fun gp=>Yw 14 32767 V (BS (by_:=80) (sz:=10) HE (V:Tryz.prog.info? 361=some Tryz.t361) V rfl V rfl Y (I) Y (Dn 10 gp 1 1 361 (0,0) (Ak [⟨x,y⟩]) V) Wo Wo (by exact Ep _) A0 A0) ?_;rintro _ _ ⟨l8,O,rfl⟩;obtain ⟨kv,j5,rfl⟩:=O.form;refine A1 15 V (BI Y)<|Ao<|Zn [2,3,4,6,7] ?_;refine A9<|Zx<|Bc<|Zg<|Zm Y<|Ya (n:=2) Y Y<|B1 Y<|DM (e:=[(6,_),(7,_)]) (h:=by exact ⟨k+1,kv,j5,l8,rfl,⟨by omega,Bb O rfl (by rw [Bq (qm hx hy),DC])⟩,rfl,rfl⟩)
 have ek:k=(F3 r.rows).length:=by rw [K4];omega
 have ic:=Bb I ek (by rw [ek,HI]);refine BB<|Zt<|Zt<|AV<|CD<|Zo Wh (AA cn cA Y B9 (Au V)) ?_;refine Zm Y<|Zc [_,_] Y call252 Y rfl (fP q l5 c p1 p2 e1 h2 ic (by rw [K4];omega)) ?_;rintro _ _ ⟨_,⟨lv,s5,rfl,h5,rfl⟩,rfl⟩;have e8:D8 q c r=(⟨DL (jnT q c (F3 r.rows)).1,r.val,r.fnd⟩,(jnT q c (F3 r.rows)).2):=by unfold D8;rw [As X]
 have cu:=jE q c (F3 r.rows);rw [K4]at cu;obtain ⟨L,hL⟩:∃L,L=(jnT q c (F3 r.rows)).1:=⟨_,rfl⟩;rw [<-hL]at h5 e8 cu;obtain ⟨g5,c5,rfl⟩:=h5.form;refine Zm Y<|Zd Y V<|Zd Y V<|Za Y<|B1 Y<|Zn [3,4,6,8] ?_;refine CD<|Zh 0 E4 V rfl DH Y<|Xe (Zs DH Y Y V (hc:=by exact (V:_=(#[.slice none 0 0,I0 r.val,.bool r.fnd]:AM))) (hi:=by(simp;done))) ?_;refine A5<|Zq<|Zq<|Bc<|Zg<|Zm Y<|Zv (AR HE Y)<|Zm Y<|A5<|AP<|Zb [51,3,4,8,49,50] ?_;refine Ay (e0:=[(51,_)]) (fun m e H=>∃(k:Nat) (K:B8) (ck:Nat) (W:List A8),m=L.length -k/\(k<=L.length/\BX 5 61 (.slice K (2*k) ck) (2*k) (Ad (DL (L.take k))) W)/\e=[(51,I0 (k:Int))]/\H=[[(br,.cells #[.slice K (2*k) ck,I0 r.val,.bool r.fnd] 50 (0,0))],W]) (by exact ⟨0,none,0,[],V,⟨C7 _,Bi 5 _⟩,V,V⟩) Wp ?_;rintro _ _ _ ⟨k,K,ck,W,rfl,⟨hk,I⟩,rfl,rfl⟩;refine Zq<|Bc<|Zg<|Zv (Ar Y Y)<|A5<|Zq<|Ap Y (fun J=>?_) (fun J=>?_);·
  obtain ⟨p,hp⟩:∃p,L[k]?=some p:=⟨_,BE J⟩;obtain ⟨g,af,cur,z,Z,rfl,gy,G⟩:=E9 h5 A0;injection Z with hv1 hv2 hv3
  subst hv1 hv3;obtain ⟨o8,cO⟩:=uV G hp;refine B4<|Zq<|AP<|Zq<|Bc<|Zg<|Ba (AZ HE HL Y Y A0)<|Zo Wh (AA (cs:=#[_,_,_,_,_,_,_,_,_,_]) isAgg361 HL Y A0 cO) ?_;refine Ze (Al iz #[_,_,_,_,_,_,_,_,_,_])<|AF fun bp=>Xe (Xw HL #[I0 p.l.t,I0 p.l.k,I0 p.l.v.a,I0 p.l.v.b,I0 p.l.v.c,I0 p.r.t,I0 p.r.k,I0 p.r.v.a,I0 p.r.v.b,I0 p.r.v.c]) ?_;refine A5<|Zg<|Zh 0 E4 V rfl DH Y<|Zl GS Y ?_;refine Zh 0 Wf V rfl B3 Y<|Zo Wh (AA (cs:=#[_,_,_,_,_]) DE B3 Y B9 B2) ?_;refine Zh 5 Wf V rfl B3 Y<|Zo Wh (AA (cs:=#[_,_,_,_,_]) DE B3 Y B9 B2) ?_;refine Ze (Ah (vs:=[_,_]) (cs:=[_,_,_,_,_,_,_,_,_,_]) C1 B3 G1 Y V rfl V rfl V)<|AF fun gq=>Ze (BS (by_:=40) (sz:=5) C1 (V:Tryz.prog.info? 61=some Tryz.t61) V rfl V rfl Y (I) Y (Dn 5 gq 2 2 61 (0,0) (Ad [p.l,p.r]) V) Wo Wo (by exact CU _) A0 A0) ?_;rintro _ _ ⟨l9,U,rfl⟩;obtain ⟨bn,ax,rfl⟩:=U.form;refine Zh 0 E4 V rfl DH Y<|Xe (Zs DH Y Y V (hc:=by exact (V:_=(#[.slice bn (2*k+2) ax,I0 r.val,.bool r.fnd]:AM))) (hi:=by(simp;done))) ?_;refine Z0<|Zn [3,4,8,49,50,51] ?_;refine A9<|Zx<|Bc<|E6 Y Y Y<|DM (e:=[(51,_)]) (h:=by exact ⟨k+1,bn,ax,l9,rfl,⟨by omega,Bb U rfl (by rw [Ru hp,Br])⟩,rfl,rfl⟩)
 have ek:k=L.length:=by omega
 subst ek;rw [HI]at I;refine BB<|Zt<|Zt<|AV<|CD<|Zo Wh (AA (cs:=#[_,_,_]) E3 C3 Y B9 B2) ?_;refine Zm Y<|Xe (Xw C3 _) ?_;refine Ax Y<|CP rfl results212 Y Wh (Av E3 C3 Wn (rfl)) Y (by exact ⟨.slice K (2*L.length) ck,W,by rw [e8];rfl,by rw [e8];exact Bb I (IA L).symm rfl,rfl⟩)
end Go.Proofs.YtelliknjeemfoaaGreatDoor
