/- Pairs of rows in memory; slices.Clone, IndexFunc, DeleteFunc, Insert at pairs. -/
import Derived.Test.YthhakdmlpngcmaaGreatDoorPr3
set_option linter.unusedVariables false
set_option linter.unusedSimpArgs false
namespace Go.Proofs.YthhakdmlpngcmaaGreatDoor
open Go.Proofs.Tryz
open Go Go.RowKit Gw
set_option maxRecDepth 100000
attribute [local irreducible] Gw.At Gw.Nx Gw.Ops
structure Ba where
 l:AR
 r:AR
deriving DecidableEq
def Am(ps:List Ba):List A4:=ps.flatMap fun p=>[I4 p.l.t,I4 p.l.k,I4 p.l.v.a,I4 p.l.v.b,I4 p.l.v.c,I4 p.r.t,I4 p.r.k,I4 p.r.v.a,I4 p.r.v.b,I4 p.r.v.c]
theorem DN(a b:List Ba):Am (a++b)=Am a++Am b:=by unfold Am;rw [P2]
theorem BG:∀(rs:List Ba),(Am rs).length=rs.length*10
 |[]=>rfl
 |r::rs=>by
  have:=BG rs;unfold Am at*;rw [HW,Bm,this,E3];simp;omega
theorem Fq(rs:List Ba)(k:Nat):(Am rs).take (k*10)=Am (rs.take k):=by
 rcases FF rs.length k with h|h
 · rw [Hx (by rw [BG];omega),Hx A0]
 · have e:Am rs=Am (rs.take k)++Am (rs.drop k):=by rw [<-DN,J0]
   rw [e,HX (by rw [BG,CD];omega)]
theorem Ll(rs:List Ba)(k:Nat):(Am rs).drop (k*10)=Am (rs.drop k):=by
 rcases FF rs.length k with h|h
 · rw [SZ (by rw [BG];omega),SZ A0];rfl
 · have e:Am rs=Am (rs.take k)++Am (rs.drop k):=by rw [<-DN,J0]
   rw [e,X1 (by rw [BG,CD];omega)]
theorem Ep(rs:List Ba):∀u∈Am rs,u.oneCell'=true:=by
 intro u g;unfold Am at g;obtain ⟨r,_,h⟩:=S1.1 g;simp only [DB,Pc,OR]at h;rcases h with rfl|rfl|rfl|rfl|rfl|rfl|rfl|rfl|rfl|rfl<;>rfl
def UG(M:List A9)(v:A4)(rs:List Ba):Prop:=∃p cap,v= .slice p rs.length cap/\(rs.length<=maxLen/\rs.length<=cap)/\∀(i:Nat) (x:Ba),rs[i]?=some x->∃g off cur T zz,p=some ⟨g,off,none⟩/\(g,Obj.cells cur T zz)∈M/\off+i*10+10<=cur.size/\cur.extract (off+i*10) (off+i*10+10)=#[I4 x.l.t,I4 x.l.k,I4 x.l.v.a,I4 x.l.v.b,I4 x.l.v.c,I4 x.r.t,I4 x.r.k,I4 x.r.v.a,I4 x.r.v.b,I4 x.r.v.c]
variable{v:A4}{rs:List Ba}{s:List A9}
theorem NY{e:AM}(h:Bd 10 e v rs.length (Am rs) s)(J:rs.length<=maxLen):UG s v rs:=by
 obtain ⟨b,cap,rfl⟩:=h.form;refine ⟨b,cap,V,⟨J,Ez h⟩,fun i x I=>?_⟩;obtain ⟨g,G,cur,z,hv,rfl,K,m⟩:=KE h i (C4.1 I).1;injection hv with hv1 hv2 hv3
 refine ⟨g,0,cur,e,z,hv1,by simp,by omega,?_⟩;unfold Am at m;rw [J2 _ 10 (fun _=>rfl) rs i x I]at m;rw [D3];exact I2.1 m
variable{k:Nat}
theorem Ro{r:Ba}(h:rs[k]?=some r):Am rs=Am (rs.take k)++(Am [r]++Am (rs.drop (k+1))):=by
 rw [<-DN,<-DN];congr 1;obtain ⟨g,rfl⟩:=C4.1 h;rw [MY,<-RR g,J0]
theorem Iw{r:Ba}(h:rs[k]?=some r)(j:Nat)(g:j<10):(Am rs)[k*10+j]?=(Am [r])[j]?:=by
 have m:=(C4.1 h).1;have e:(Am (rs.take k)).length=k*10:=by rw [BG,CD];omega
 rw [Ro h,RM A0,Wa (by rw [e,BG];simp;omega),e,Nat.add_sub_cancel_left]
variable{n:Nat}
theorem Wx{M:List A9}{p:B8}{cap:Nat}(h:UG M (.slice p n cap) rs):FM M p (Am rs):=by
 obtain ⟨p',J,e,Z,W⟩:=h;injection e with e1 e2 e3
 subst e1;intro j u K;have G:=(C4.1 K).1
 rw [BG]at G;obtain ⟨x,O⟩:∃x,rs[j/10]?=some x:=⟨_,BT A0⟩;obtain ⟨g,off,cur,T,zz,rfl,X,I,m⟩:=W (j/10) x O;refine ⟨g,off,cur,T,zz,V,X,?_⟩;have U:=PI m I (j%10) A0
 have h2:=Iw O (j%10) A0;rw [show j/10*10+j%10=j by omega,K]at h2;rw [show off+j=off+j/10*10+j%10 by omega,U,h2,<-HQ];rfl
theorem X4{M:List A9}(hv:UG M v rs)(hb:rs.length<=1000000000000):BR prog 309 #[v] [M] (fun r H'=>∃O,Bd 10 361 r rs.length (Am rs) O/\H'=[O,M]):=by
 have Z:=mL;obtain ⟨p,cap,rfl,⟨hl,X⟩,W⟩:=id hv;have G:FM M p (Am rs):=Wx hv
 refine Se func309 ntmps309 [0] ?_;intro u R;refine A1<|A5 Y<|Zq<|A1<|Zm Y<|Zv (Dq G4 Y Y)<|A6<|AU Y (fun K=>?_) (fun K=>?_);·
  have I:p=none:=by cases p with
   |none=>rfl
   |some x=>cases K
  have h0:rs=[]:=by
   cases rs with
   |nil=>rfl
   |cons x l=>obtain ⟨g,off,cur,T,zz,J,_⟩:=W 0 x rfl;rw [I]at J;cases J
  refine Zq<|Bc<|Zg<|A5 Y<|AJ<|Zt<|AP rfl results309 Y (by exact ⟨[],by rw [h0];exact Bj 10 _,rfl⟩)
 refine AC<|Zx<|A1<|Ze (EQ G4 H3)<|AG fun U=>Zm Y<|Ze (HY (by_:=80) (sz:=10) G4 (V:Tryz.prog.info? 361=some Tryz.t361) V rfl V rfl Y (IR 10 361 U 0 [] V B1) Y (G) (by exact BG _) B1 Wo Wo (by exact Ep _) A0 A0) ?_;rintro _ _ ⟨af,m,rfl⟩;replace m:=BZ m (D3 _) (Kx _);refine A5 Y<|AJ<|AP V results309 Y (by exact ⟨_,m,V⟩)
def Gu(pd:Ba->Bool)(rows:List Ba):Int:=(rows.findIdx? pd).elim (-1) fun i=>(i:Int)
variable{rows:List Ba}{i:Nat}{x:Ba}
theorem nL{g:Ba->Bool}(h:∀(j:Nat) (y:Ba),j<i->rows[j]?=some y->g y=false)(I:rows[i]?=some x)(G:g x=true):Gu g rows=(i:Int):=by
 obtain ⟨hi,rfl⟩:=C4.1 I;unfold Gu;rw [an.2 ⟨hi,G,fun j m=>by simp [h j _ m (BT A0)]⟩];rfl
theorem nM{m:Ba->Bool}(h:∀(j:Nat) (y:Ba),j<rows.length->rows[j]?=some y->m y=false):Gu m rows=-1:=by
 unfold Gu;rw [da.2 fun y G=>by
  obtain ⟨j,g⟩:=HH G;exact h j y (C4.1 g).1 g]
 rfl
theorem TZ(g:Ba->Bool)(rows:List Ba):(Gu g rows=-1/\∀y∈rows,g y=false)\/∃(i:Nat) (x:Ba),Gu g rows=(i:Int)/\rows[i]?=some x/\g x=true/\∀(j:Nat) (y:Ba),j<i->rows[j]?=some y->g y=false:=by
 unfold Gu;cases h:rows.findIdx? g with
 |none=>exact .inl ⟨rfl,da.1 h⟩
 |some i=>
  obtain ⟨m,h2,G⟩:=an.1 h;refine .inr ⟨i,_,V,BT m,h2,fun j y I J=>?_⟩;obtain ⟨K,rfl⟩:=C4.1 J;simpa using G j I
theorem lM(g:k<rs.length)(x:Ba):(Am rs).take (k*10)++Am [x]++(Am rs).drop (k*10+(Am [x]).length)=Am (rs.set k x):=by
 rw [show k*10+(Am [x]).length=(k+1)*10 by rw [BG];simp;omega,Fq,Ll,<-DN,<-DN,lO,Ax g];simp
variable{cur:AK}
theorem Vy(g:Bz cur 0 (Am rs))(G:rs[k]?=some x):k*10+10<=cur.size/\cur.extract (0+k*10) (0+k*10+10)=(Am [x]).toArray:=by
 have W:=(C4.1 G).1;have U:k*10+10<=cur.size:=by
  have K:=Iw G 9 B1;have O:=g.get (k*10+9) _ (K.trans B0)
  have:=(HU.1 O).1;omega
 refine ⟨U,?_⟩;apply I2.1;apply Mb;intro j;rw [HQ,cL];split
 · rename_i hj
   have m:j<10:=by omega
   have I:=Iw G j m;obtain ⟨u,J⟩:∃u,(Am [x])[j]?=some u:=⟨_,BT (by rw [BG];simpa using m)⟩;rw [J]at I;have h2:=g.get _ _ I
   rw [D3]at h2;rw [D3,h2];exact J.symm
 · rw [MT]
   show(Am [x]).length<=j;rw [BG];simp only [F2];omega
theorem LB{j:Nat}(f:Ba->Bool)(g:rows[j]?=some x):(rows.take (j+1)).filter f=(rows.take j).filter f++(if f x then [x]else []):=by
 rw [Bn g,Hj];congr 1;rw [Wr,mn]
theorem MO{f:Ba->Bool}(h:∀(j:Nat) (y:Ba),rows[j]?=some y->f y=true):rows.filter f=rows:=cN.2 fun y m=>by
 obtain ⟨j,g⟩:=HH m;exact h j y g
variable{B:List A9}
theorem MG{A:List A9}(hv:UG A v rows)(G:Nat)(us:List A4)(Z:Ba->Bool)(U:∀(args:AK) (w:AD),(callFunc G args).run prog w= .ok (.enter G args) w)(hf:∀x:Ba,BJ prog G (.agg #[I4 x.l.t,I4 x.l.k,I4 x.l.v.a,I4 x.l.v.b,I4 x.l.v.c,I4 x.r.t,I4 x.r.k,I4 x.r.v.a,I4 x.r.v.b,I4 x.r.v.c]::us).toArray [B] (.bool (Z x))):BJ prog 283 #[v,.func (.func G) #[] us.toArray] [A,B] (I4 (Gu Z rows)):=by
 have bn:=mL;obtain ⟨p,cap,rfl,⟨hl,ax⟩,hg⟩:=id hv;refine Se func283 ntmps283 [0,1] ?_;intro u R;refine A1<|A5 Y<|Zq<|A1<|Zm Y<|Zv (Ac G4 Y)<|Zm Y<|A6<|AQ<|Zb [8,0,1,7] ?_;refine BI (e0:=[(8,_)]) (fun m e H=>∃(i:Nat),m=rows.length -i/\(i<=rows.length/\∀(j:Nat) (y:Ba),j<i->rows[j]?=some y->Z y=false)/\e=[(8,I4 (i:Int))]/\H=[]) (by exact ⟨0,V,⟨C7 _,fun j y h=>by omega⟩,V,V⟩) Wp ?_;rintro _ _ _ ⟨i,rfl,⟨hi,I⟩,rfl,rfl⟩;refine A1<|Zv (Ay Y Y)<|A6<|Zq<|Aw Y (fun O=>?_) (fun O=>?_);·
  obtain ⟨x,X⟩:∃x,rows[i]?=some x:=⟨_,BT O⟩;obtain ⟨g,off,cur,T,zz,rfl,W,af,K⟩:=hg i x X;refine AC<|Zx<|Zq<|AQ<|A1<|Zm Y<|A5 Y<|A1<|Zm Y<|Zm Y<|Zm Y<|BU (Ae G4 H3 Y Y A0)<|CS (cs:=[(g,.cells cur T zz)]) (by simp [W]) (AB (cs:=#[_,_,_,_,_,_,_,_,_,_]) isAgg361 H3 Y A0 K) V rfl<|Xr [_] Y (U) Y V (hf x)<|A6<|AU Y (fun J=>?_) (fun J=>?_);·
   refine A1<|Zm Y<|A5 Y<|AJ<|Ab<|Zt<|Zt<|Ab<|Zt<|AP V results283 Y (by exact ⟨congrArg (Value.int .i64) (nL I X J).symm,V⟩)
  refine AC<|A8<|Zx<|Zg<|Ya (n:=1) Y Y<|Zm Y<|Z0<|Zn [8,0,1,7] ?_;refine Aa (e':=[(8,_)]) (by exact ⟨i+1,rfl,⟨by omega,fun j y h1 h2=>by rcases FF j i with h9|h9;exact I j y h9 h2;obtain rfl:j=i:=A0;rw [X]at h2;injection h2 with h2;subst h2;exact J⟩,rfl,rfl⟩)
 have ei:i=rows.length:=by omega
 subst ei;refine BD<|Zt<|Zt<|AV<|Zx<|A1<|A5 Y<|AJ<|AP V results283 Y (by exact ⟨congrArg (Value.int .i64) (nM I).symm,V⟩)
set_option maxHeartbeats 1000000 in
theorem XY(G:Bd 10 361 v rows.length (Am rows) s)(hn:rows.length<=1000000000)(J:Nat)(us:List A4)(U:Ba->Bool)(bn:∀(args:AK) (w:AD),(callFunc J args).run prog w= .ok (.enter J args) w)(hf:∀x:Ba,BJ prog J (.agg #[I4 x.l.t,I4 x.l.k,I4 x.l.v.a,I4 x.l.v.b,I4 x.l.v.c,I4 x.r.t,I4 x.r.k,I4 x.r.v.a,I4 x.r.v.b,I4 x.r.v.c]::us).toArray [B] (.bool (U x))):BR prog 308 #[v,.func (.func J) #[] us.toArray] [s,B] (fun r H'=>∃s',Bd 10 361 r (rows.filter fun x=>!U x).length (Am (rows.filter fun x=>!U x)) s'/\H'=[s',B]):=by
 have o9:=mL;obtain ⟨p,cap,rfl⟩:=G.form;have hU:=NY G A0
 refine Se func308 ntmps308 [0,1] ?_;intro u R;refine A1<|A5 Y<|A1<|Zm Y<|Zm Y<|Xr [_,_] Y call283 Y V (MG hU J us U bn hf) ?_;rcases TZ U rows with⟨e9,X⟩|⟨k,x0,e9,hx0,hp0,hno⟩
 ·
  rw [e9];refine A5 Y<|Zq<|A1<|Zm Y<|Zv (CP Y Y)<|A6<|Aw Y (fun h1=>?_) (fun h1=>?_);·
   refine A1<|Zm Y<|A5 Y<|AJ<|Zt<|AP rfl results308 Y (by exact ⟨_,BZ G (congrArg List.length (MO fun j y hy=>by rw [X y (DQ hy)];rfl).symm) (congrArg Am (MO fun j y hy=>by rw [X y (DQ hy)];rfl).symm),rfl⟩)
  exact absurd V h1
 rw [e9];have o8:=(C4.1 hx0).1
 obtain ⟨g,ic,cur,z,gy,rfl,kv,j5⟩:=E5 G A0;injection gy with hv1 hv2 hv3
 subst hv1 hv3;refine A5 Y<|Zq<|A1<|Zm Y<|Zv (CP Y Y)<|A6<|Aw Y (fun h2=>by omega)<|fun h2=>AC<|Zx<|Zq<|A1<|Zm Y<|Ya (n:=1) Y Y<|A5 Y<|AQ<|Zb [5,6,0,1] ?_;refine BI (e0:=[(5,_),(6,_)]) (fun m e H=>∃(i j:Nat) (W:List Ba) (cur:AK),m=rows.length -j/\((i<j/\j<=rows.length)/\W.length=rows.length/\Bd 10 361 (I6 g rows.length cap) rows.length (Am W) [(g,.cells cur 361 z)]/\W.take i=(rows.take j).filter (fun x=>!U x)/\∀t,j<=t->W[t]?=rows[t]?)/\e=[(5,I4 (i:Int)),(6,I4 (j:Int))]/\H=[[(g,.cells cur 361 z)]]) (by exact ⟨k,k+1,rows,cur,rfl,⟨⟨by omega,by omega⟩,rfl,G,by rw [LB _ hx0,hp0];simp only [S4,N0,HT,D2];exact (MO (fun j y hy=>by rw [HI]at hy;split at hy;rw [hno j y eh hy];rfl;cases hy)).symm,fun t _=>rfl⟩,rfl,rfl⟩) Wp ?_;rintro _ _ _ ⟨i,j,W,cur,rfl,⟨l9,ax,O,K,af⟩,rfl,rfl⟩;obtain ⟨d9,cu,l5,j3,Z⟩:=Jc O;refine Zq<|A1<|Zm Y<|Zm Y<|Zv (Ac G4 Y)<|Zv (Ay Y Y)<|A6<|Aw Y (fun dn=>?_) (fun dn=>?_);·
  obtain ⟨x,hx⟩:∃x,rows[j]?=some x:=⟨_,BT dn⟩;obtain ⟨l8,cO⟩:=Vy d9 ((af j (CI _)).trans hx);refine AC<|Zx<|Zq<|AQ<|A1<|Zm Y<|Zm Y<|BU (Ae G4 H3 Y Y A0)<|Zo Wh (AB (cs:=#[_,_,_,_,_,_,_,_,_,_]) isAgg361 H3 Y A0 cO)<|Ze (Al gA #[_,_,_,_,_,_,_,_,_,_])<|AG fun bx=>Xe (Xw H3 #[I4 x.l.t,I4 x.l.k,I4 x.l.v.a,I4 x.l.v.b,I4 x.l.v.c,I4 x.r.t,I4 x.r.k,I4 x.r.v.a,I4 x.r.v.b,I4 x.r.v.c])<|A6<|A1<|Zm Y<|Zo Wh (AB (cs:=#[_,_,_,_,_,_,_,_,_,_]) isAgg361 H3 Y B5 B0)<|Xr [_] Y (bn) Y V (hf x)<|Zv (Bt Y)<|Z0<|Zn [0,1,5,6,7,29] ?_;refine Zx<|AU Y (fun I=>?_) (fun I=>?_);·
   have I:U x=false:=by simpa using I
   have ek:=BZ (xs':=Am (W.set i x)) (ET (i:=0+i*10) (ys:=Am [x]) O (by rw [BG,BG,F2];omega)) rfl (by rw [D3];exact lM A0 x);refine A1<|Zm Y<|Zm Y<|Zo Wh (AB (cs:=#[_,_,_,_,_,_,_,_,_,_]) isAgg361 H3 Y B5 B0)<|BU (Ae G4 H3 Y Y A0)<|Xe (BL H3 Y Y Hb Wu (by exact (rfl:_=EM cur (0+i*10) (Am [x]))) FA A0 Z)<|A6<|Zg<|Zm Y<|Ya (n:=1) Y Y<|AW Y<|A8<|Zx<|Zg<|Zm Y<|Ya (n:=1) Y Y<|AW Y<|Zn [5,6,0,1] ?_;refine Aa (e':=[(5,_),(6,_)]) (by exact ⟨i+1,j+1,W.set i x,_,rfl,⟨by omega,by rw [dj];exact ax,ek,by rw [YI A0,K,LB _ hx];simp [I],fun t ht=>by rw [List.getElem?_set_ne A0];exact af t A0⟩,rfl,rfl⟩)
  have I:U x=true:=by simpa using I
  refine AC<|A8<|Zx<|Zg<|Zm Y<|Ya (n:=1) Y Y<|AW Y<|Zn [5,6,0,1] ?_;refine Aa (e':=[(5,_),(6,_)]) (by exact ⟨i,j+1,W,cur,rfl,⟨by omega,ax,O,by rw [K,LB _ hx];simp [I],fun t ht=>af t A0⟩,rfl,rfl⟩)
 have ej:j=rows.length:=by omega
 subst ej;rw [G3]at K;have gq:(rows.filter fun x=>!U x).length=i:=by rw [<-K,CD];omega
 refine BD<|Zt<|Zt<|AV<|Zx<|A1<|Zm Y<|Zm Y<|BU (C8 G4 H3 Y Y A0)<|Ze (OB G4 (V:Tryz.prog.info? 361=some Tryz.t361) V rfl (by simp [Value.cells,Value.oneCell']) Y A0 cu Z Wo) ?_;rintro _ _ rfl;have gm:=VJ (ET (i:=i*10) (ys:=(Builtin.zeroCells (Value.agg #[I4 0,I4 0,I4 0,I4 0,I4 0,I4 0,I4 0,I4 0,I4 0,I4 0]).cells (rows.length -i)).toList) O (by rw [Sh,size_zeroCells,BG];show i*10+(rows.length -i)*10<=_;omega)) i A0
 refine A6<|A1<|Zm Y<|Zm Y<|BU (Bq G4 H3 Y Y A0)<|A5 Y<|AJ<|AP V results308 Y (by
  refine ⟨_,BZ gm gq.symm ?_,V⟩;rw [CT,HX (by rw [CD,BG];omega),Fq,K])
theorem nI{A Y D:List A4}(g:A.length=(n+1)*10)(hi:i<=n)(G:Y.length=10)(m:D.length=(n -i)*10):(A.take (0+i*10)++Y++A.drop (0+i*10+Y.length)).take (0+(i+1)*10)++D++(A.take (0+i*10)++Y++A.drop (0+i*10+Y.length)).drop (0+(i+1)*10+D.length)=A.take (i*10)++Y++D:=by
 rw [D3,D3,HX (by rw [Bm,CD];omega),SZ (by simp only [Bm,CD,CH];omega),D2]
theorem fu{A Y D:List A4}(g:A.length=(n+1)*10)(hi:i<=n)(G:Y.length=10)(m:D.length=(n -i)*10):(A.take (0+(i+1)*10)++D++A.drop (0+(i+1)*10+D.length)).take (0+i*10)++Y++(A.take (0+(i+1)*10)++D++A.drop (0+(i+1)*10+D.length)).drop (0+i*10+Y.length)=A.take (i*10)++Y++D:=by
 rw [D3,D3,SZ (l:=A) A0,D2,cJ (by rw [CD];omega),V0,N3 A0,X1 (by rw [CD];omega)]
theorem VH(rows:List Ba)(i:Nat)(y:Ba):(Am rows).take (i*10)++Am [y]++Am (rows.drop i)=Am (rows.take i++[y]++rows.drop i):=by
 rw [Fq,DN,DN]
theorem Qr{c:AK}(h:Bz c 0 (Am rows))(i:Nat)(hi:i<=rows.length):Bz c (0+i*10) (Am (rows.drop i)):=by
 have g:=J5 h (i*10) ((rows.length -i)*10) (by rw [BG];omega);rw [Ll,Hx (by rw [BG,CH];omega)]at g;exact g
theorem ay{c:AK}(h:Bz c 0 (Am rows))(i:Nat)(hi:i<=rows.length):Bz c 0 (Am (rows.take i)):=by
 have g:=J5 h 0 (i*10) (by rw [BG];omega);rw [Pr,Fq]at g;exact g
theorem TW(rows:List Ba)(i:Nat)(hi:i<=rows.length)(y:Ba):(rows.take i++[y]++rows.drop i).length=rows.length+1:=by
 simp only [Bm,CD,CH,F2];omega
set_option maxHeartbeats 1000000 in
theorem XQ(m:Bd 10 361 v rows.length (Am rows) s)(hn:rows.length<=1000000000)(i:Nat)(hi:i<=rows.length)(y:Ba)(U:Nat):BR prog 310 #[v,I4 (i:Int),I6 U 1 1] [s,[(U,.cells #[I4 y.l.t,I4 y.l.k,I4 y.l.v.a,I4 y.l.v.b,I4 y.l.v.c,I4 y.r.t,I4 y.r.k,I4 y.r.v.a,I4 y.r.v.b,I4 y.r.v.c] 361 (0,0))]] (fun r H'=>∃s' s2,Bd 10 361 r (rows.take i++[y]++rows.drop i).length (Am (rows.take i++[y]++rows.drop i)) s'/\H'=[s',s2,[(U,.cells #[I4 y.l.t,I4 y.l.k,I4 y.l.v.a,I4 y.l.v.b,I4 y.l.v.c,I4 y.r.t,I4 y.r.k,I4 y.r.v.a,I4 y.r.v.b,I4 y.r.v.c] 361 (0,0))]]):=by
 have l9:=mL;obtain ⟨p,cap,rfl⟩:=m.form;have l8:=Ez m
 refine Se func310 ntmps310 [0,1,2] ?_;intro u R;refine A1<|A5 Y<|Zq<|Bc<|Zg<|Zm Y<|Zm Y<|BU (C8 G4 H3 Y Y A0)<|A6<|A1<|Zm Y<|Zv (Ac G4 Y)<|A5 Y<|Zq<|A1<|Zm Y<|Zv (Ci (n:=0) Y Y)<|A6<|Aw Y (fun h0=>by cases h0)<|fun h0=>AC<|Zx<|A1<|Zm Y<|Zv (Ac G4 Y)<|A5 Y<|Zq<|A1<|Zm Y<|Zm Y<|Zv (Ci Y Y)<|Z0<|Zn [0,1,2,7,8,22] ?_;refine Zx<|Aw Y (fun W=>?_) (fun W=>?_);·
  refine A1<|Zm Y<|Zm Y<|Ze (BV (by_:=80) (sz:=10) G4 (V:Tryz.prog.info? 361=some Tryz.t361) V rfl V rfl Y (m) Y (Dl 10 U 1 1 361 (0,0) (Am [y]) V) Wo Wo (by exact Ep _) A0 A0) ?_;rintro _ _ ⟨o8,O,rfl⟩;obtain ⟨j5,j3,rfl⟩:=O.form;refine A5 Y<|AJ<|Zt<|AP V results310 Y (by
   have W:i=rows.length:=by omega
   subst W;exact ⟨_,[],BZ O (TW rows _ (CI _) y).symm (by rw [G3,j0,D2,DN]),rfl⟩)
 obtain ⟨g,d9,cur,z,cu,rfl,ic,I⟩:=E5 m A0;injection cu with hv1 hv2 hv3
 subst hv1 hv3;obtain ⟨_,l5,_,kv,Z⟩:=Jc m;refine AC<|Zx<|Zq<|A1<|Zm Y<|Zm Y<|Ya Y Y<|Zm Y<|Zv (Qh G4 Y)<|Zv (DR Y Y)<|A6<|Aw Y (fun hg=>?_) (fun hg=>?_);·
  refine A1<|Zm Y<|Zm Y<|BU (Bq G4 H3 Y Y A0)<|Zm Y<|Zm Y<|Ya Y Y<|Zm Y<|Yb Y Y ?_;refine Ze (LX (by_:=80) (sz:=10) (xs:=Am (rows.take i)) G4 D4 (rfl:Tryz.prog.info? 361=some Tryz.t361) rfl rfl rfl rfl Y Y Wh (ay I i hi) (by rw [BG,CD];omega) A0 B1 A0 A0 A0) ?_;rintro _ _ ⟨s9,J,rfl⟩;rw [show i+(rows.length+1 -i)=rows.length+1 by omega]at J;have G:=J.1
  obtain ⟨g3,cO,dn,z3,rfl,rfl,gy,gq⟩:=E5 J A0;obtain ⟨_,gm,_,ek,K⟩:=Jc J;refine AW Y<|Zn [0,1,2,7,9] ?_;refine Zx<|A1<|Zm Y<|Zm Y ?_
  (refine BU (Bp G4 H3 Y Y ?_ ?_) ?_;(focus (omega));(focus (omega)))
  refine Zm Y<|Xe (JV (cs:=Am [y]) G4 H3 Y Y Wh Wo ((rfl:Bz (#[I4 y.l.t,I4 y.l.k,I4 y.l.v.a,I4 y.l.v.b,I4 y.l.v.c,I4 y.r.t,I4 y.r.k,I4 y.r.v.a,I4 y.r.v.b,I4 y.r.v.c]:AK) 0 (Am [y]))) (by rw [BG,F2];omega) (by rw [BG,F2];omega) (K) (Ep _)) ?_;refine A6<|Zq<|BA (n:=9) (0::0::0::6::15::0::0::96::255::[]) 256 AF AF V<|A3 0 V (AO Y)<|A3 1 V (AO Y)<|A3 2 V (AO Y)<|A3 3 V (EA Y Y A0) ?_
  (refine Dn (D':=31) 4 (Bp G4 H3 Y Y ?_ ?_) ?_;(focus (omega));(focus (omega)))
  refine A3 5 V (AO Y)<|A3 6 V (AO Y) ?_
  (refine Dn (D':=255) 7 (Bp G4 H3 Y Y ?_ ?_) ?_;(focus (omega));(focus (omega)))
  refine Yw 8 511 rfl (JV (cs:=Am (rows.drop i)) G4 H3 Y Y Wh Wo (Qr I i hi) (by rw [BG,CH];omega) (by rw [BG,CH,GR (by rw [BG,F2];omega)];omega) (by rw [GR (by rw [BG,F2];omega)];exact K) (Ep _))<|Cp<|Ag<|Zn [9] ?_;refine Zx<|A1<|Zm Y<|A5 Y<|AJ<|Zt<|AP V results310 Y (by
   refine ⟨_,[(g,.cells cur 361 z)],BZ (ET (i:=0+(i+1)*10) (ys:=Am (rows.drop i)) (ET (i:=0+i*10) (ys:=Am [y]) J (by rw [G,BG,F2];omega)) ?_) (TW rows i hi y).symm ?_,rfl⟩;· simp only [Bm,CD,CH,G,BG,F2];omega
   · rw [nI G hi (by rw [BG];rfl) (by rw [BG,CH]),HX (by rw [BG,CD];omega),<-Fq,VH])
 refine AC<|Zx<|Zq ?_;obtain ⟨o9,bn,ax⟩:=VI m (rows.length+1) A0 A0;have G:=ax.1
 refine Zg<|Zm Y<|Zm Y<|Zm Y<|Ya Y Y ?_;refine BU (Bq G4 H3 Y Y A0)<|A5 Y<|Zq<|Zq<|zN (s1:=[(U,_)]) (s2:=[(g,_)]) (a:=U) (b:=g) Wo Wo (C5.2 V) (C5.2 V) (fun af=>?_);refine Zg<|Zm Y<|Zm Y<|Zm Y<|Zm Y<|Ya Y Y ?_
 (refine BU (Bp G4 H3 Y Y ?_ ?_) ?_;(focus (omega));(focus (omega)))
 refine CS (cs:=[(U,.cells #[I4 y.l.t,I4 y.l.k,I4 y.l.v.a,I4 y.l.v.b,I4 y.l.v.c,I4 y.r.t,I4 y.r.k,I4 y.r.v.a,I4 y.r.v.b,I4 y.r.v.c] 361 (0,0)),(g,.cells cur 361 z)]) B4 (TA (tR:=4) func319 AF AF AF AF G4 H3 Y af A0) V rfl ?_;refine Zv (Bt Y)<|Z0<|Zn [0,1,2,7,8,68] ?_;refine Zx<|AU Y (fun X=>?_) (fun X=>?_);·
  refine Zq<|BA (n:=9) (0::0::0::6::15::0::0::96::255::[]) 256 AF AF V<|A3 0 V (AO Y)<|A3 1 V (AO Y)<|A3 2 V (AO Y)<|A3 3 V (EA Y Y A0) ?_
  (refine Dn (D':=31) 4 (Bp G4 H3 Y Y ?_ ?_) ?_;(focus (omega));(focus (omega)))
  refine A3 5 V (AO Y)<|A3 6 V (AO Y) ?_
  (refine Dn (D':=255) 7 (Bp G4 H3 Y Y ?_ ?_) ?_;(focus (omega));(focus (omega)))
  refine Yw 8 511 rfl (JV (cs:=Am (rows.drop i)) G4 H3 Y Y Wh Wo (Qr I i hi) (by rw [BG,CH];omega) (by rw [BG,CH];omega) (Z) (Ep _))<|Cp<|Ag<|Zx<|A1<|Zm Y<|Zm Y ?_
  (refine BU (Bp G4 H3 Y Y ?_ ?_) ?_;(focus (omega));(focus (omega)))
  refine Zm Y<|Xe (JV (cs:=Am [y]) G4 H3 Y Y Wh Wo ((rfl:Bz (#[I4 y.l.t,I4 y.l.k,I4 y.l.v.a,I4 y.l.v.b,I4 y.l.v.c,I4 y.r.t,I4 y.r.k,I4 y.r.v.a,I4 y.r.v.b,I4 y.r.v.c]:AK) 0 (Am [y]))) (by rw [BG,F2];omega) (by rw [BG,F2,GR (by rw [BG,CH];omega)];omega) (by rw [GR (by rw [BG,CH];omega)];exact Z) (Ep _)) ?_;refine Z0<|Zn [0] ?_;refine Zx<|A1<|Zm Y<|A5 Y<|AJ<|Zt<|AP V results310 Y (by
   refine ⟨_,[],BZ (ET (i:=0+i*10) (ys:=Am [y]) (ET (i:=0+(i+1)*10) (ys:=Am (rows.drop i)) ax (by rw [G,BG,CH];omega)) ?_) (TW rows i hi y).symm ?_,rfl⟩;· simp only [Bm,CD,CH,BG,bn,F2];omega
   · rw [fu G hi (by rw [BG];rfl) (by rw [BG,CH]),cJ (by rw [BG];omega),VH])
 cases X
def P9(pd:Ba->Bool)(rows:List Ba)(y:Ba):List Ba:=rows.take ((rows.findIdx? pd).getD rows.length)++[y]++rows.drop ((rows.findIdx? pd).getD rows.length)
theorem nJ(g:Ba->Bool)(rows:List Ba)(y:Ba):(P9 g rows y).length=rows.length+1:=by
 unfold P9;simp only [Bm,CD,CH,F2];omega
theorem uO(g:Ba->Bool)(rows:List Ba):(Gu g rows<0/\(rows.findIdx? g).getD rows.length=rows.length)\/∃i:Nat,i<=rows.length/\Gu g rows=(i:Int)/\(rows.findIdx? g).getD rows.length=i:=by
 unfold Gu;cases h:rows.findIdx? g with
 |none=>exact .inl ⟨by simp,rfl⟩
 |some i=>
  obtain ⟨m,_,_⟩:=an.1 h;exact .inr ⟨i,by omega,V,V⟩
theorem NB{A:List A9}(hv:UG A v rows)(K:rows.length<=1000000000)(g:Nat)(us:List A4)(m:Ba->Bool)(G:∀(args:AK) (w:AD),(callFunc g args).run prog w= .ok (.enter g args) w)(J:∀x:Ba,BJ prog g (.agg #[I4 x.l.t,I4 x.l.k,I4 x.l.v.a,I4 x.l.v.b,I4 x.l.v.c,I4 x.r.t,I4 x.r.k,I4 x.r.v.a,I4 x.r.v.b,I4 x.r.v.c]::us).toArray [B] (.bool (m x))):BR prog 280 #[v,.func (.func g) #[] us.toArray] [A,B] (fun r H'=>∃s,Bd 10 361 r (rows.filter fun x=>!m x).length (Am (rows.filter fun x=>!m x)) s/\H'=[s,A,B]):=by
 obtain ⟨p,cap,rfl,_⟩:=id hv;refine Se func280 ntmps280 [0,1] ?_;intro u R;refine A1<|A5 Y<|A1<|Zm Y<|Zc [_] Y call309 Y V (X4 hv A0) ?_;rintro _ _ ⟨_,⟨s1,I,rfl⟩,rfl⟩;obtain ⟨W,O,rfl⟩:=I.form;refine Zm Y<|Zc [_,_] Y call308 Y V (XY I K g us m G J) ?_;rintro _ _ ⟨_,⟨s2,h2,rfl⟩,rfl⟩;obtain ⟨X,U,rfl⟩:=h2.form;refine A5 Y<|AJ<|AP V results280 Y (by exact ⟨_,h2,V⟩)
theorem TV(G:Bd 10 361 v rows.length (Am rows) s)(hn:rows.length<=1000000000)(y:Ba)(g:Nat)(us:List A4)(I:Ba->Bool)(U:∀(args:AK) (w:AD),(callFunc g args).run prog w= .ok (.enter g args) w)(hf:∀x:Ba,BJ prog g (.agg #[I4 x.l.t,I4 x.l.k,I4 x.l.v.a,I4 x.l.v.b,I4 x.l.v.c,I4 x.r.t,I4 x.r.k,I4 x.r.v.a,I4 x.r.v.b,I4 x.r.v.c]::us).toArray [B] (.bool (I x))):BR prog 285 #[v,.agg #[I4 y.l.t,I4 y.l.k,I4 y.l.v.a,I4 y.l.v.b,I4 y.l.v.c,I4 y.r.t,I4 y.r.k,I4 y.r.v.a,I4 y.r.v.b,I4 y.r.v.c],.func (.func g) #[] us.toArray] [s,B] (fun r H'=>∃X s2,Bd 10 361 r (P9 I rows y).length (Am (P9 I rows y)) X/\H'=[X,s2,B]):=by
 have af:=mL;obtain ⟨p,cap,rfl⟩:=G.form;have hU:=NY G A0
 refine Se func285 ntmps285 [0,1,2] ?_;intro u R;refine A1<|Ze (Bx #[_,_,_,_,_,_,_,_,_,_])<|AG fun bx=>A5 Y<|A1<|Zm Y<|Zm Y<|Xr [_,_] Y call283 Y V (MG hU g us I U hf) ?_;obtain ⟨z9,O⟩:∃z,z=Gu I rows:=⟨_,rfl⟩;rw [<-O];have m:=uO I rows
 rw [<-O]at m;refine A5 Y<|Zb [7,0,4] ?_;refine CW (e0:=[(7,_)]) (H0:=[]) (fun e H=>∃(i:Nat),(i<=rows.length/\(rows.findIdx? I).getD rows.length=i)/\e=[(7,I4 (i:Int))]/\H=[]) Wp ?hx_1 ?hy_1
 case hx_1=>
  refine A1<|Zm Y<|Zv (EH Y Y)<|A6<|Aw Y (fun K=>?_) (fun K=>?_);·
   refine Zg<|Zm Y<|Zv (Ac G4 Y)<|AW Y<|Zn [7,0,4] ?_;refine Av (e':=[(7,_)]) (by exact ⟨rows.length,⟨CI _,by rcases m with⟨_,h⟩|⟨i,h1,h2,J⟩;exact h;omega⟩,rfl,rfl⟩)
  rcases m with⟨h9,_⟩|⟨i,h1,h2,J⟩
  · exact absurd h9 K
  subst h2;refine AC<|Zn [7,0,4] ?_;refine Av (e':=[(7,_)]) (by exact ⟨i,⟨h1,J⟩,V,V⟩)
 rintro _ _ ⟨i,⟨hi,W⟩,rfl,rfl⟩;refine A1<|Zm Y<|Zm Y<|Zo Wh (Pa #[_,_,_,_,_,_,_,_,_,_] isAgg361 H3 Y)<|Ze (Ai (vs:=[_]) (cs:=[_,_,_,_,_,_,_,_,_,_]) G4 H3 gA Y V rfl V rfl V)<|AG fun Z=>Zc [_,_,_] Y call310 Y V (XQ G hn i hi y Z) ?_;rintro _ _ ⟨_,⟨s3,s4,J,rfl⟩,rfl⟩;obtain ⟨g3,c3,rfl⟩:=J.form;refine A5 Y<|AJ<|AP rfl results285 Y (by exact ⟨_,s4,by unfold P9;rw [W];exact J,rfl⟩)
def H9(k:Int)(p:Ba):Bool:=decide (p.r.k=k)
def QF(k:Int)(p:Ba):Bool:=decide (p.l.k=k)
def F3(rows:List AR):List Ba:=(List.range (rows.length/2)).map fun k=>⟨rows.getD (2*k) AR.zero,rows.getD (2*k+1) AR.zero⟩
def DZ(ps:List Ba):List AR:=ps.flatMap fun p=>[p.l,p.r]
def jnT(q:QM)(c:Chg)(ps:List Ba):List Ba×Bool:=
 if c.t=q.ot then
  (if c.has then(ps.map fun p=>if H9 c.k p then⟨p.l,⟨c.t,c.k,c.n⟩⟩else p,c.had)else(ps.filter fun p=>!H9 c.k p,c.had))
 else match afQ q c with
  |none=>(ps.filter fun p=>!QF c.k p,true)
  |some y=>if Gu (H9 (mQ q (afQ q c))) ps<0 then(ps.filter fun p=>!QF c.k p,(bfQ q c).isSome&&decide (mQ q (bfQ q c)=mQ q (afQ q c)))
   else(P9 (fun p=>KZ q y p.l) (ps.filter fun p=>!QF c.k p) ⟨y,(ps.getD (Gu (H9 (mQ q (afQ q c))) ps).toNat ⟨AR.zero,AR.zero⟩).r⟩,true)
def DK(q:QM)(c:Chg)(r:CB):CB×Bool:=if q.tb=q.ot then(r,false)else(⟨DZ (jnT q c (F3 r.rows)).1,r.val,r.fnd⟩,(jnT q c (F3 r.rows)).2)
theorem KJ(rows:List AR):(F3 rows).length=rows.length/2:=by unfold F3;rw [B6,Wg]
theorem rX{rows:List AR}{x y:AR}(m:rows[2*k]?=some x)(g:rows[2*k+1]?=some y):(F3 rows)[k]?=some ⟨x,y⟩:=by
 have h:=(C4.1 g).1;unfold F3;rw [DP,Ss A0,N2,Mz,Mz,m,g];rfl
theorem IC:∀ps:List Ba,(DZ ps).length=2*ps.length
 |[]=>rfl
 |p::ps=>by
  have:=IC ps;unfold DZ at*;rw [HW,Bm,this,E3];simp;omega
variable{ps:List Ba}{p:Ba}
theorem SG(h:ps[k]?=some p):DZ (ps.take (k+1))=DZ (ps.take k)++[p.l,p.r]:=by
 unfold DZ;rw [Bn h,P2,nn]
theorem jV(q:QM)(c:Chg)(ps:List Ba):(jnT q c ps).1.length<=ps.length+1:=by
 have g:=Of (fun p=>!H9 c.k p) ps;have h2:=Of (fun p=>!QF c.k p) ps
 unfold jnT;split
 · split
   · simp only [B6];omega
   · simp only;omega
 · split
   · simp only;omega
   · split
     · simp only;omega
     · simp only [nJ];omega
theorem y7(q:QM)(c:Chg)(m G:B8)(o n:Int)(g:Nat)(x:Ba):BJ prog 281 #[.agg #[I4 x.l.t,I4 x.l.k,I4 x.l.v.a,I4 x.l.v.b,I4 x.l.v.c,I4 x.r.t,I4 x.r.k,I4 x.r.v.a,I4 x.r.v.b,I4 x.r.v.c],I5 g] [[(g,.cells (q.GS c m G o n) 265 (0,0))]] (.bool (H9 c.k x)):=by
 refine Se func281 ntmps281 [0,1] ?_;intro u R;refine A1<|Ze (Bx #[I4 x.l.t,I4 x.l.k,I4 x.l.v.a,I4 x.l.v.b,I4 x.l.v.c,I4 x.r.t,I4 x.r.k,I4 x.r.v.a,I4 x.r.v.b,I4 x.r.v.c])<|AG fun I=>A5 Y<|A1<|Zh 5 W1 V rfl B3 Y<|Zv (Ap (off:=1) G1 V rfl AE Y)<|Zl AH Y<|Zh 7 EV V rfl CC Y<|Zv (Ap (off:=1) C3 V rfl AE Y)<|Zl AH Y<|Zv (CP Y Y)<|A5 Y<|AJ<|AP V results281 Y (by exact ⟨V,V⟩)
theorem xz(q:QM)(c:Chg)(m G:B8)(o n:Int)(g:Nat)(x:Ba):BJ prog 282 #[.agg #[I4 x.l.t,I4 x.l.k,I4 x.l.v.a,I4 x.l.v.b,I4 x.l.v.c,I4 x.r.t,I4 x.r.k,I4 x.r.v.a,I4 x.r.v.b,I4 x.r.v.c],I5 g] [[(g,.cells (q.GS c m G o n) 265 (0,0))]] (.bool (QF c.k x)):=by
 refine Se func282 ntmps282 [0,1] ?_;intro u R;refine A1<|Ze (Bx #[I4 x.l.t,I4 x.l.k,I4 x.l.v.a,I4 x.l.v.b,I4 x.l.v.c,I4 x.r.t,I4 x.r.k,I4 x.r.v.a,I4 x.r.v.b,I4 x.r.v.c])<|AG fun I=>A5 Y<|A1<|Zh 0 W1 V rfl B3 Y<|Zv (Ap (off:=1) G1 V rfl AE Y)<|Zl AH Y<|Zh 7 EV V rfl CC Y<|Zv (Ap (off:=1) C3 V rfl AE Y)<|Zl AH Y<|Zv (CP Y Y)<|A5 Y<|AJ<|AP V results282 Y (by exact ⟨V,V⟩)
theorem xy(q:QM)(c:Chg)(m G:B8)(o n:Int)(g:Nat)(x:Ba):BJ prog 284 #[.agg #[I4 x.l.t,I4 x.l.k,I4 x.l.v.a,I4 x.l.v.b,I4 x.l.v.c,I4 x.r.t,I4 x.r.k,I4 x.r.v.a,I4 x.r.v.b,I4 x.r.v.c],I5 g] [[(g,.cells (q.GS c m G o n) 265 (0,0))]] (.bool (H9 n x)):=by
 refine Se func284 ntmps284 [0,1] ?_;intro u R;refine A1<|Ze (Bx #[I4 x.l.t,I4 x.l.k,I4 x.l.v.a,I4 x.l.v.b,I4 x.l.v.c,I4 x.r.t,I4 x.r.k,I4 x.r.v.a,I4 x.r.v.b,I4 x.r.v.c])<|AG fun I=>A5 Y<|A1<|Zh 5 W1 V rfl B3 Y<|Zv (Ap (off:=1) G1 V rfl AE Y)<|Zl AH Y<|Zh 20 EV V rfl AE Y<|Zl AH Y<|Zv (CP Y Y)<|A5 Y<|AJ<|AP V results284 Y (by exact ⟨V,V⟩)
theorem xx(g:Nat)(us:List A4)(I:AR->Bool)(m:∀(args:AK) (w:AD),(callFunc g args).run prog w= .ok (.enter g args) w)(J:∀x:AR,BJ prog g (.agg x.A71::us).toArray [B] (.bool (I x)))(G:Nat)(x:Ba):BJ prog 286 #[.agg #[I4 x.l.t,I4 x.l.k,I4 x.l.v.a,I4 x.l.v.b,I4 x.l.v.c,I4 x.r.t,I4 x.r.k,I4 x.r.v.a,I4 x.r.v.b,I4 x.r.v.c],I5 G] [[(G,.cells #[.func (.func g) #[] us.toArray] 228 (0,0))],B] (.bool (I x.l)):=by
 refine Se func286 ntmps286 [0,1] ?_;intro u R;refine A1<|Ze (Bx #[I4 x.l.t,I4 x.l.k,I4 x.l.v.a,I4 x.l.v.b,I4 x.l.v.c,I4 x.r.t,I4 x.r.k,I4 x.r.v.a,I4 x.r.v.b,I4 x.r.v.c])<|AG fun K=>A5 Y<|A1<|Zl isAgg228 Y ?_;refine Zh 0 W1 V rfl B3 Y<|Zo Wh (AB (cs:=x.l.A71) D0 B3 Y B5 B0) ?_;refine Xr [_] Y (m) Y V (J x.l) ?_;refine A5 Y<|AJ<|AP V results286 Y (by exact ⟨V,V⟩)
theorem lK(m:ps[k]?=some p)(x:AR):(Am ps).take (0+k*10+5)++Af [x]++(Am ps).drop (0+k*10+5+(Af [x]).length)=Am (ps.set k ⟨p.l,x⟩):=by
 have J:=(C4.1 m).1;have e:(Am (ps.take k)).length=k*10:=by rw [BG,CD];omega
 have I:Am [p]=Af [p.l]++Af [p.r]:=rfl;have g:∀r:AR,(Af [r]).length=5:=fun r=>rfl
 have e1:Am ps=(Am (ps.take k)++Af [p.l])++(Af [p.r]++Am (ps.drop (k+1))):=by
  rw [Ro m,I];simp
 have e2:(Am (ps.take k)++Af [p.l]).length=0+k*10+5:=by rw [Bm,e,g];omega
 rw [e1,HX e2,g,<-cA,X1 e2,X1 (g p.r),lO,Ax J];have G:Am (ps.take k++⟨p.l,x⟩::ps.drop (k+1))=Am (ps.take k)++(Am [⟨p.l,x⟩]++Am (ps.drop (k+1))):=by
  rw [<-DN,<-DN];rfl
 rw [G,show Am [⟨p.l,x⟩]=Af [p.l]++Af [x] from rfl];simp
theorem QW(G:Bz cur 0 (Am ps))(U:ps[k]?=some p):cur[0+k*10+5+1]?=some (I4 p.r.k)/\0+k*10+5+5<=cur.size/\cur.extract (0+k*10+5) (0+k*10+5+5)=p.r.A71:=by
 have g:∀j u,j<10->(Am [p])[j]?=some u->cur[k*10+j]?=some u:=fun j u J m=>by
  have:=G.get (k*10+j) u ((Iw U j J).trans m);rwa [D3]at this
 have K:=g 6 _ B1 rfl;have O:=g 9 _ B1 rfl
 have W:k*10+9<cur.size:=(HU.1 O).1;refine ⟨by rw [show 0+k*10+5+1=k*10+6 by omega];exact K,by omega,?_⟩;apply I2.1;apply Mb;intro j;rw [HQ,cL];split
 · rename_i J
   have I:j<5:=by omega
   obtain ⟨u,m⟩:∃u,(Af [p.r])[j]?=some u:=⟨_,BT (by rw [BH];simpa using I)⟩;have h2:=g (5+j) u A0 (by
    rw [show Am [p]=Af [p.l]++Af [p.r] from rfl,RM (by rw [BH];simp),BH];rw [show 5+j - [p.l].length*5=j by simp];exact m)
   rw [show 0+k*10+5+j=k*10+(5+j) by omega,h2];exact m.symm
 · rw [MT]
   show(Af [p.r]).length<=j;rw [BH];simp only [F2];omega
def Ni(c:Chg)(ps:List Ba)(i:Nat):List Ba:=(ps.take i).map (fun p=>if H9 c.k p then⟨p.l,⟨c.t,c.k,c.n⟩⟩else p)++ps.drop i
theorem tO(c:Chg)(ps:List Ba)(i:Nat)(hi:i<=ps.length):(Ni c ps i).length=ps.length:=by
 unfold Ni;simp only [Bm,B6,CD,CH];omega
variable{c:Chg}
theorem XH(g:ps[i]?=some p):(Ni c ps i)[i]?=some p:=by
 have hi:=(C4.1 g).1;unfold Ni;rw [RM (by rw [B6,CD];omega),B6,CD,N3 A0,T5,RW,Pu,g]
theorem Vi(g:ps[i]?=some p):Ni c ps (i+1)=(Ni c ps i).set i (if H9 c.k p then⟨p.l,⟨c.t,c.k,c.n⟩⟩else p):=by
 have hi:=(C4.1 g).1;have m:((ps.take i).map (fun p=>if H9 c.k p then(⟨p.l,⟨c.t,c.k,c.n⟩⟩:Ba)else p)).length=i:=by rw [B6,CD];omega
 unfold Ni;rw [Bn g,C0,ln (h:=by omega),m,T5];obtain ⟨_,rfl⟩:=C4.1 g;rw [RR hi,List.set_cons_zero];simp
theorem qJ(g:ps[i]?=some p):ps.set i p=ps:=by
 obtain ⟨hi,rfl⟩:=C4.1 g;exact List.set_getElem_self hi
theorem sL(g:Nat)(us:List A4)(I:AR->Bool)(G:∀(args:AK) (w:AD),(callFunc g args).run prog w= .ok (.enter g args) w)(J:∀x:AR,BJ prog g (.agg x.A71::us).toArray [B] (.bool (I x)))(m:Nat)(x:Ba):BJ prog 286 (.agg #[I4 x.l.t,I4 x.l.k,I4 x.l.v.a,I4 x.l.v.b,I4 x.l.v.c,I4 x.r.t,I4 x.r.k,I4 x.r.v.a,I4 x.r.v.b,I4 x.r.v.c]::([I5 m]:List A4)).toArray [[(m,.cells #[.func (.func g) #[] us.toArray] 228 (0,0))]++B] (.bool (I x.l)):=by
 refine Gx (xx g us I G J m x) B4 ?_;rintro r H' ⟨rfl,rfl⟩;exact ⟨_,⟨V,V⟩,by simp⟩
theorem XO{q:QM}{G I:B8}{g:Nat}{f:Ba->Bool}{m:Nat}(h:∀x,BJ prog m #[.agg #[I4 x.l.t,I4 x.l.k,I4 x.l.v.a,I4 x.l.v.b,I4 x.l.v.c,I4 x.r.t,I4 x.r.k,I4 x.r.v.a,I4 x.r.v.b,I4 x.r.v.c],I5 g] [[(g,.cells (q.GS c G I (mQ q (bfQ q c)) (mQ q (afQ q c))) 265 (0,0))]] (.bool (f x)))(x:Ba):BJ prog m (.agg #[I4 x.l.t,I4 x.l.k,I4 x.l.v.a,I4 x.l.v.b,I4 x.l.v.c,I4 x.r.t,I4 x.r.k,I4 x.r.v.a,I4 x.r.v.b,I4 x.r.v.c]::([I5 g]:List A4)).toArray [[(g,.cells (q.GS c G I (mQ q (bfQ q c)) (mQ q (afQ q c))) 265 (0,0))]] (.bool (f x)):=h x
theorem yG(h:c.has=true):EN c c.has c.n=⟨c.t,c.k,c.n⟩:=by unfold EN;rw [Ax h]
theorem tQ(c:Chg)(ps:List Ba):Ni c ps ps.length=ps.map fun p=>if H9 c.k p then⟨p.l,⟨c.t,c.k,c.n⟩⟩else p:=by unfold Ni;rw [G3,j0,D2]
set_option maxHeartbeats 1000000 in
theorem fo(q:QM)(ek:0<=q.cl/\q.cl<=3)(c:Chg)(U p2:B8){s2:List A9}(e1:U.isSome=(bfQ q c).isSome)(h2:Ij p2 (afQ q c) s2){sl:List A9}(hl:Bd 10 361 v ps.length (Am ps) sl)(hn:ps.length<=100000000):BR prog 247 #[.agg (q.GS c U p2 (mQ q (bfQ q c)) (mQ q (afQ q c))),v] [sl,s2] (fun w H'=>∃v' s',w= .tuple #[v',.bool (jnT q c ps).2]/\Bd 10 361 v' (jnT q c ps).1.length (Am (jnT q c ps).1) s'/\H'=[s']):=by
 have l5:=mL;obtain ⟨pl,ax,rfl⟩:=hl.form;have hU:=NY hl A0
 have kv:(ps.filter fun p=>!QF c.k p).length<=ps.length:=Of _ _;refine Se func247 ntmps247 [0,1] ?_;intro u R;refine A1<|Ze (F5 Y (cs:=(q.GS c U p2 (mQ q (bfQ q c)) (mQ q (afQ q c)))) (GG q c U p2 (mQ q (bfQ q c)) (mQ q (afQ q c))))<|AG fun be=>Za Y<|A5 Y<|Zq<|A1<|Zh 7 EV V rfl CC Y<|Zv (Ap (off:=0) C3 V rfl AE Y)<|Zl AH Y<|Zh 0 EV V rfl CM Y<|Zv (Ap (off:=6) CN V rfl AE Y)<|Zl AH Y<|Zv (CP Y Y)<|A6<|Aw Y (fun K=>?_) (fun K=>?_);·
  refine A1<|Zh 7 EV V rfl CC Y<|Zo Wh (AB (cs:=c.A70) GF CC Y B5 B0)<|Xr [_] Y call109 Y V (OW c) ?_;obtain ⟨y9,cO⟩:∃y,y=EN c c.has c.n:=⟨_,rfl⟩;rw [<-cO];refine Zm Y<|Zd Y V<|Zd Y V<|Ze (Al F0 #[_,_,_,_,_])<|AG fun j5=>Xe (Xw B3 y9.A71)<|AW Y<|Zn [1,2,6,7] ?_;refine Zx<|Zq<|A1<|Zm Y<|Zv (Bt Y)<|A6<|AU Y (fun hh=>?_) (fun hh=>?_);·
   have af:c.has=false:=by simpa using hh
   refine Zq<|BA (n:=8) (0::0::3::0::8::24::7::127::[]) 4 AF AF V<|A3 0 V (AO Y)<|A3 1 V (Bg (vs:=[]) (us:=[_]) Y Y)<|A3 3 V (AA (off:=7) EV V rfl CC Y)<|A3 4 V (Ap (off:=2) C3 V rfl DM Y)<|BE 5 V Fk Y<|Zz (l:=[2])<|B7 [true] [(5,(_,_))] V rfl (Zw [_,_] Y call280 Y V (NB (B:=[(be,.cells (q.GS c U p2 (mQ q (bfQ q c)) (mQ q (afQ q c))) 265 (0,0))]) hU A0 281 [I5 be] (H9 c.k) call281 (XO fun x=>y7 q c U p2 (mQ q (bfQ q c)) (mQ q (afQ q c)) be x))) ?_ Bv Aj;rintro _ _ ⟨_,⟨s9,h9,rfl⟩,rfl⟩;refine ⟨Zk (AZ),?_⟩;obtain ⟨g9,c9,rfl⟩:=h9.form;refine A3 6 V (Aq Y)<|A3 7 V (Aq Y)<|Ag<|Zx<|AJ<|Zt<|Zt<|DJ V gh Y Y (by
    have G:jnT q c ps=(ps.filter fun p=>!H9 c.k p,c.had):=by unfold jnT;rw [Ax K,As (by rw [af];decide)]
    exact ⟨.slice g9 _ c9,s9,by rw [G],by rw [G];exact h9,rfl⟩)
  have af:c.has=true:=by simpa using hh
  rw [yG af]at cO;refine AC<|Zx<|Zq<|A1<|Zm Y<|Zv (Ac G4 Y)<|Zm Y<|A6<|AQ<|Zb [35,1,2,6,34] ?_;refine BI (e0:=[(35,_)]) (fun m e H=>∃(i:Nat) (sk:List A9),m=ps.length -i/\(i<=ps.length/\Bd 10 361 (.slice pl ps.length ax) ps.length (Am (Ni c ps i)) sk)/\e=[(35,I4 (i:Int))]/\H=[sk]) (by exact ⟨0,sl,V,⟨C7 _,hl⟩,V,V⟩) Wp ?_;rintro _ _ _ ⟨i,sk,rfl,⟨hi,O⟩,rfl,rfl⟩;refine A1<|Zv (Ay Y Y)<|A6<|Zq<|Aw Y (fun Z=>?_) (fun Z=>?_);·
   obtain ⟨p,hp⟩:∃p,ps[i]?=some p:=⟨_,BT Z⟩;obtain ⟨g,dn,cur,z,cu,rfl,gy,X⟩:=E5 O A0;injection cu with hv1 hv2 hv3
   subst hv1 hv3;obtain ⟨_,W,_,j3,gq⟩:=Jc O;obtain ⟨h6,ic,_⟩:=QW X (XH hp);refine AC<|Zx<|Zq<|AQ<|A1<|Zm Y<|A5 Y<|Zq<|BA (n:=10) (0::0::3::7::15::31::0::64::192::511::[]) 0 AF AF V<|A3 0 V (AO Y)<|A3 1 V (AO Y)<|A3 2 V (Ae G4 H3 Y Y A0)<|A3 3 V (Ap (off:=5) W1 V rfl B3 Y)<|A3 4 V (Ap (off:=1) G1 V rfl AE Y)<|BE 5 V AH Y (hv:=by exact h6)<|A3 6 V (AA (off:=7) EV V rfl CC Y)<|A3 7 V (Ap (off:=1) C3 V rfl AE Y)<|BE 8 V AH Y<|A3 9 V (CP Y Y)<|Ag<|Zn [1,2,6,8,34,35,47] ?_;refine Zx<|Aw Y (fun hk=>?_) (fun hk=>?_);·
    have e9:Ni c ps (i+1)=(Ni c ps i).set i ⟨p.l,y9⟩:=by rw [Vi hp,Ax (by unfold H9;simp [hk]),cO]
    have J:=BZ (xs':=Am (Ni c ps (i+1))) (ET (i:=0+i*10+5) (ys:=Af [y9]) O (by rw [BG,BH,F2,tO c ps i hi];omega)) rfl (by rw [e9];exact lK (XH hp) y9);refine Zg<|Zm Y<|Zm Y<|Zo Wh (AB (cs:=y9.A71) D0 B3 Y B5 B0)<|BU (Ae G4 H3 Y Y A0)<|Zv (Ap (off:=5) W1 rfl rfl B3 Y)<|Xe (BL B3 Y Y Hb Wu (by exact (rfl:_=EM cur (0+i*10+5) (Af [y9]))) FA A0 gq)<|Z0<|A8<|Zx<|Zg<|Ya (n:=1) Y Y<|Zm Y<|Z0<|Zn [35,1,2,6,34] ?_;refine Aa (e':=[(35,_)]) (by exact ⟨i+1,_,V,⟨by omega,J⟩,V,V⟩)
   have e9:Ni c ps (i+1)=Ni c ps i:=by rw [Vi hp,As (by unfold H9;simp [hk]),qJ (XH hp)]
   have J:=O;rw [<-e9]at J;refine AC<|A8<|Zx<|Zg<|Ya (n:=1) Y Y<|Zm Y<|Z0<|Zn [35,1,2,6,34] ?_;refine Aa (e':=[(35,_)]) (by exact ⟨i+1,_,V,⟨by omega,J⟩,V,V⟩)
  have ei:i=ps.length:=by omega
  subst ei;rw [tQ]at O;refine BD<|Zt<|Zt<|AV<|Zx<|Zq<|BA (n:=6) (0::0::2::6::1::31::[]) 0 AF AF V<|A3 0 V (AO Y)<|A3 1 V (AA (off:=7) EV V rfl CC Y)<|A3 2 V (Ap (off:=2) C3 V rfl DM Y)<|BE 3 V Fk Y<|A3 4 V (Aq Y)<|A3 5 V (Aq Y)<|Ag<|Zx<|AJ<|Zt<|DJ V gh Y Y (by
   have G:jnT q c ps=(ps.map fun p=>if H9 c.k p then⟨p.l,⟨c.t,c.k,c.n⟩⟩else p,c.had):=by unfold jnT;rw [Ax K,Ax af]
   exact ⟨.slice pl ps.length ax,sk,by rw [G],by rw [G];exact BZ O (B6 _).symm rfl,rfl⟩)
 refine AC<|Zx<|A1<|Zm Y<|Zv (Bg (vs:=[]) (us:=[_]) Y Y)<|Zc [_,_] Y call280 Y V (NB (B:=[(be,.cells (q.GS c U p2 (mQ q (bfQ q c)) (mQ q (afQ q c))) 265 (0,0))]) hU A0 282 [I5 be] (QF c.k) call282 (XO fun x=>xz q c U p2 (mQ q (bfQ q c)) (mQ q (afQ q c)) be x)) ?_;rintro _ _ ⟨_,⟨s9,h9,rfl⟩,rfl⟩;obtain ⟨g9,c9,rfl⟩:=h9.form;refine AW Y<|Zn [1,2,9] ?_;refine Zx<|Zq<|A1<|Zh 18 EV V rfl LI Y<|Zl O2 Y<|Zv (Nf W0 Y Y)<|A6<|AU Y (fun bn=>?_) (fun bn=>?_);·
  have hy:afQ q c=none:=by have h8:=h2.some_;cases I:afQ q c with|none=>rfl|some y=>(rw [I]at h8;cases p2<;>simp at bn h8)
  refine A1<|Zm Y<|Za Y<|A5 Y<|AJ<|Zt<|DJ V gh Y Y (by
   have G:jnT q c ps=(ps.filter fun p=>!QF c.k p,true):=by unfold jnT;rw [As K,hy]
   exact ⟨.slice g9 _ c9,s9,by rw [G],by rw [G];exact h9,rfl⟩)
 obtain ⟨y,hy⟩:∃y,afQ q c=some y:=ie.1 (by rw [<-h2.some_];cases p2<;>simp at bn⊢);rw [hy]at h2;obtain ⟨b2,rfl,rfl⟩:=h2;refine AC<|Zx<|A1<|Zm Y<|Zv (Bg (vs:=[]) (us:=[_]) Y Y)<|Xr [_,_] Y call283 Y V (MG (B:=[(be,.cells #[I4 q.kd,I4 q.tb,I4 q.cl,I4 q.lo,I4 q.hi,I4 q.bq,I4 q.ot,I4 c.t,I4 c.k,.bool c.had,I4 c.o.a,I4 c.o.b,I4 c.o.c,.bool c.has,I4 c.n.a,I4 c.n.b,I4 c.n.c,.pointer U,I5 b2,I4 (mQ q (bfQ q c)),I4 (mQ q (afQ q c))] 265 (0,0))]) hU 284 [I5 be] (H9 (mQ q (afQ q c))) call284 (XO fun x=>xy q c U (some ⟨b2,0,none⟩) (mQ q (bfQ q c)) (mQ q (afQ q c)) be x)) ?_;have W:=TZ (H9 (mQ q (afQ q c))) ps
 obtain ⟨z9,d9⟩:∃z,z=Gu (H9 (mQ q (afQ q c))) ps:=⟨_,rfl⟩;rw [<-d9]at W⊢;refine A5 Y<|Zq<|A1<|Zm Y<|Zv (EH Y Y)<|A6<|Aw Y (fun Z=>?_) (fun Z=>?_);·
  have G:jnT q c ps=(ps.filter fun p=>!QF c.k p,(bfQ q c).isSome&&decide (mQ q (bfQ q c)=mQ q (afQ q c))):=by unfold jnT;rw [As K];split;rename_i I;rw [hy]at I;cases I;rw [Ax (by rw [<-d9];exact Z)]
  refine Zq<|BA (n:=13) (0::0::2::6::14::30::62::30::158::510::1022::31::4095::[]) 0 AF AF V<|A3 0 V (AO Y)<|A3 1 V (AA (off:=17) EV V rfl LI Y)<|BE 2 V O2 Y<|A3 3 V (Fu W0 Y Y)<|A3 4 V (AO Y)<|CU (t:=74) Y (fun h1=>?_) (fun h1=>?_);·
   rw [h1];refine An 5 V (AA (off:=19) EV V rfl AE Y)<|DO 6 V Wh (BF AH Y B0)<|An 7 V (AA (off:=20) EV V rfl AE Y)<|DO 8 V Wh (BF AH Y B0)<|An 9 V (CP Y Y)<|A3 10 V (AX Y Y)<|A3 11 V (Aq Y)<|A3 12 V (Aq Y)<|Ag<|Zn [4,5] ?_;refine Zx<|AJ<|Zt<|DJ rfl gh Y Y (by exact ⟨.slice g9 _ c9,s9,by rw [G,<-e1,h1];rfl,by rw [G];exact h9,rfl⟩)
  rw [h1];refine AN 5 V<|AN 6 V<|AN 7 V<|AN 8 V<|AN 9 V<|A3 10 V (AL Y Y)<|A3 11 V (Aq Y)<|A3 12 V (Aq Y)<|Ag<|Zn [4,5] ?_;refine Zx<|AJ<|Zt<|DJ rfl gh Y Y (by exact ⟨.slice g9 _ c9,s9,by rw [G,<-e1,h1];rfl,by rw [G];exact h9,rfl⟩)
 rcases W with⟨I,_⟩|⟨k,p,I,hp,_,_⟩
 · exact absurd I A0
 subst I;have G:jnT q c ps=((P9 (fun p=>KZ q y p.l) (ps.filter fun p=>!QF c.k p) ⟨y,p.r⟩),true):=by
  unfold jnT;rw [As K];split;· rename_i I;rw [hy]at I;cases I
  · rename_i y0 I;rw [hy]at I;injection I with I;subst I;rw [<-d9,As A0,UP,Mz,hp];rfl
 have hk:=(C4.1 hp).1;obtain ⟨g,dn,cur,z,cu,rfl,gy,X⟩:=E5 hl A0;injection cu with hv1 hv2 hv3
 subst hv1 hv3;obtain ⟨_,ic,gm⟩:=QW X hp;refine AC<|Zx<|A1<|Zo Wh (AB cH a8 Y B5 (BN V))<|Zc [_] Y call245 Y V (Qv q ek c U (mQ q (bfQ q c)) (mQ q (afQ q c)) y b2) ?_;rintro _ _ ⟨_,⟨b8,b9,rfl,rfl⟩,rfl⟩;refine Ze (Al zeroValue228 #[_])<|AG fun bb=>Xe (Zs sizeOf228 Y Y V (hc:=by exact (V:_=(#[.func (.func 279) #[] ([I5 b8,I5 b9]:List A4).toArray]:AK))) (hi:=by decide))<|Z0<|Zn [1,2,9,10,11] ?_;refine Zx<|Zq<|Cb (s1:=[(bb,_)]) (s2:=_++_++[(b2,_)]) Wo Wo ?_;refine BA (n:=15) (0::0::2::6::14::0::0::96::224::480::1022::0::4095::8191::16383::[]) 4096 AF AF V<|A3 0 V (AO Y)<|A3 1 V (AA (off:=18) EV V rfl LI Y)<|BE 2 V O2 Y<|A3 3 V (Ak Y V)<|Cc (b:=b2) (x:= .cells y.A71 80 (0,0)) (D':=31) 4 V rfl V B4 (Pa y.A71 D0 B3 Y) ?_;refine A3 5 V (AO Y)<|A3 6 V (AO Y)<|A3 7 V (Ae G4 H3 Y Y A0)<|A3 8 V (Ap (off:=5) W1 V rfl B3 Y)<|FG 9 V Wh (AB (cs:=p.r.A71) D0 B3 Y A0 gm)<|A3 10 V (BM (vs:=[(0,.agg y.A71),(1,.agg p.r.A71)]) (cs:=#[I4 y.t,I4 y.k,I4 y.v.a,I4 y.v.b,I4 y.v.c,I4 p.r.t,I4 p.r.k,I4 p.r.v.a,I4 p.r.v.b,I4 p.r.v.c]) Y (AY (pl:=#[(0,5),(5,5)]) gA W1 (fun _=>by kernel_rfl) AF))<|A3 11 V (Bg (vs:=[]) (us:=[_]) Y Y)<|Zz (l:=[12])<|B7 [false,false,false] [] V rfl (Zw [_,_,_] Y call285 Y V (TV h9 A0 ⟨y,p.r⟩ 286 [I5 bb] (fun p=>KZ q y p.l) call286 (fun x=>sL 279 ([I5 b8,I5 b9]:List A4) (KZ q y) call279 (fun x=>bE q ek c U (mQ q (bfQ q c)) (mQ q (afQ q c)) y b2 b8 b9 x) bb x))) ?_ Bv Aj;rintro _ _ ⟨_,⟨s5,s6,h5,rfl⟩,rfl⟩;refine ⟨AZ,?_⟩;obtain ⟨g5,c5,rfl⟩:=h5.form;refine A3 13 V (Aq Y)<|A3 14 V (Aq Y)<|Ag<|Zn [4,5] ?_;refine Zx<|AJ<|DJ rfl gh Y Y (by exact ⟨.slice g5 _ c5,s5,by rw [G],by rw [G];exact h5,rfl⟩)
theorem eP(q:QM)(c:Chg)(r:CB):(DK q c r).1.val=r.val:=by unfold DK;split<;>rfl
theorem eQ(q:QM)(c:Chg)(r:CB):(DK q c r).1.rows.length<=r.rows.length+2:=by
 unfold DK;split;· exact fS _ _
 · show(DZ _).length<=_
   have h:=jV q c (F3 r.rows);rw [KJ]at h;rw [IC];omega
theorem jc{rs:List AR}{x:AR}(g:Bz cur 0 (Af rs))(m:rs[k]?=some x):k*5+5<=cur.size/\cur.extract (0+k*5) (0+k*5+5)=x.A71:=aV g m
theorem uo(g:Bz cur 0 (Am rs))(m:rs[k]?=some x):k*10+10<=cur.size/\cur.extract (0+k*10) (0+k*10+10)=#[I4 x.l.t,I4 x.l.k,I4 x.l.v.a,I4 x.l.v.b,I4 x.l.v.c,I4 x.r.t,I4 x.r.k,I4 x.r.v.a,I4 x.r.v.b,I4 x.r.v.c]:=Vy g m
set_option maxHeartbeats 1000000 in
theorem dx(q:QM)(kv:0<=q.cl/\q.cl<=3)(c:Chg)(p1 p2:B8){s2:List A9}(e1:p1.isSome=(bfQ q c).isSome)(h2:Ij p2 (afQ q c) s2){r:CB}{rv:A4}{sr:List A9}(hr:Bd 5 80 rv r.rows.length (Af r.rows) sr)(hn:r.rows.length<=100000000):BR prog 208 #[.agg (q.GS c p1 p2 (mQ q (bfQ q c)) (mQ q (afQ q c))),.agg #[rv,I4 r.val,.bool r.fnd]] [sr,s2] (fun w H'=>∃ic s',w= .tuple #[.agg #[ic,I4 (DK q c r).1.val,.bool (DK q c r).1.fnd],.bool (DK q c r).2]/\Bd 5 80 ic (DK q c r).1.rows.length (Af (DK q c r).1.rows) s'/\H'=[s']):=by
 have p8:=mL;obtain ⟨pv,cv,rfl⟩:=hr.form;refine Se func208 ntmps208 [0,1] ?_;intro u R;refine A1<|Ze (F5 Y (cs:=(q.GS c p1 p2 (mQ q (bfQ q c)) (mQ q (afQ q c)))) (GG q c p1 p2 (mQ q (bfQ q c)) (mQ q (afQ q c))))<|AG fun be=>Ze (Bx #[.slice pv r.rows.length cv,I4 r.val,.bool r.fnd])<|AG fun br=>Ze (Al Ge #[_,_,_])<|AG fun bo=>A5 Y<|Zq<|A1<|Zh 0 EV V rfl CM Y<|Zv (Ap (off:=1) CN V rfl AE Y)<|Zl AH Y ?_;refine Zh 0 EV V rfl CM Y<|Zv (Ap (off:=6) CN V rfl AE Y)<|Zl AH Y ?_;refine Zv (CP Y Y)<|A6<|Aw Y (fun X=>?_) (fun X=>?_);·
  refine A1<|Zo Wh (AB (cs:=#[_,_,_]) Cd B9 Y B5 B0) ?_;refine Xe (Xw B9 _) ?_;refine AW Y<|Zn [4,5] ?_;refine Zx<|AJ<|Zt<|CL V results208 Y Wh (Au Cd B9 Wn (V)) Y (by
   have e8:DK q c r=(r,false):=by unfold DK;rw [Ax X]
   exact ⟨.slice pv r.rows.length cv,sr,by rw [e8];rfl,by rw [e8];exact hr,rfl⟩)
 refine AC<|Zx<|A1<|A5 Y<|Zq<|Zq<|Bc<|Zg<|AW Y<|Zn [2,3,4,6,7] ?_;refine Zx<|AQ<|Zb [6,7,2,3,4] ?_;refine BI (e0:=[(6,_),(7,_)]) (fun m e H=>∃(k:Nat) (K:B8) (ck:Nat) (W:List A9),m=r.rows.length -k/\(k<=r.rows.length/2/\Bd 10 361 (.slice K k ck) k (Am ((F3 r.rows).take k)) W)/\e=[(6,.slice K k ck),(7,I4 ((2*k:Nat):Int))]/\H=[W]) (by exact ⟨0,none,0,[],V,⟨C7 _,Bj 10 _⟩,V,V⟩) Wp ?_;rintro _ _ _ ⟨k,K,ck,W,rfl,⟨hk,I⟩,rfl,rfl⟩;refine Zq<|Zq<|Bc<|Zg<|Zm Y<|Ya (n:=1) Y Y<|Zh 0 E6 V rfl DA Y<|Zl GP Y ?_;refine Zv (Ac C1 Y)<|Zv (Ay Y Y)<|A6<|Aw Y (fun J=>?_) (fun J=>?_);·
  obtain ⟨x,hx⟩:∃x,r.rows[2*k]?=some x:=⟨_,BT A0⟩;obtain ⟨y,hy⟩:∃y,r.rows[2*k+1]?=some y:=⟨_,BT A0⟩;obtain ⟨g,af,cur,z,Z,rfl,gm,G⟩:=E5 hr A0;injection Z with hv1 hv2 hv3
  subst hv1 hv3;obtain ⟨o8,d9⟩:=jc G hx;obtain ⟨o9,dn⟩:=jc G hy;refine AC<|Zx<|Zq<|AQ<|BA (n:=16) (0::0::2::0::14::30::0::64::0::256::960::1984::4094::8190::16383::32767::[]) 24576 AF AF V<|A3 0 V (AO Y)<|A3 1 V (AA (off:=0) E6 V rfl DA Y)<|BE 2 V GP Y ?_;refine A3 3 V (AO Y)<|A3 4 V (Ae C1 B3 Y Y A0)<|FG 5 V Wh (AB (cs:=#[_,_,_,_,_]) D0 B3 Y A0 d9) ?_;refine A3 6 V (AA (off:=0) E6 V rfl DA Y)<|BE 7 V GP Y ?_;refine A3 8 V (AO Y)<|A3 9 V (EA (n:=1) Y Y A0)<|A3 10 V (Ae C1 B3 Y Y A0)<|FG 11 V Wh (AB (cs:=#[_,_,_,_,_]) D0 B3 Y A0 dn) ?_;refine A3 12 V (BM (vs:=[(0,.agg x.A71),(1,.agg y.A71)]) (cs:=#[I4 x.t,I4 x.k,I4 x.v.a,I4 x.v.b,I4 x.v.c,I4 y.t,I4 y.k,I4 y.v.a,I4 y.v.b,I4 y.v.c]) Y (AY (pl:=#[(0,5),(5,5)]) gA W1 (fun _=>by kernel_rfl) AF))<|Yw 13 16383 V (Ai (vs:=[_]) (cs:=[_,_,_,_,_,_,_,_,_,_]) G4 H3 gA Y V rfl V rfl V)<|AG fun gp=>Yw 14 32767 V (BV (by_:=80) (sz:=10) G4 (V:Tryz.prog.info? 361=some Tryz.t361) V rfl V rfl Y (I) Y (Dl 10 gp 1 1 361 (0,0) (Am [⟨x,y⟩]) V) Wo Wo (by exact Ep _) A0 A0) ?_;rintro _ _ ⟨l5,O,rfl⟩;obtain ⟨j5,j3,rfl⟩:=O.form;refine A3 15 V (Aq Y)<|Ag<|Zn [2,3,4,6,7] ?_;refine A8<|Zx<|Bc<|Zg<|Zm Y<|Ya (n:=2) Y Y<|AW Y<|Zn [6,7,2,3,4] ?_;refine Aa (e':=[(6,_),(7,_)]) (by exact ⟨k+1,j5,j3,l5,rfl,⟨by omega,BZ O rfl (by rw [Bn (rX hx hy),DN])⟩,rfl,rfl⟩)
 have ek:k=(F3 r.rows).length:=by rw [KJ];omega
 have gy:=BZ I ek (by rw [ek,G3]);refine BD<|Zt<|Zt<|AV<|Zx<|A1<|Zo Wh (AB cH a8 Y B5 (BN V)) ?_;refine Zm Y<|Zc [_,_] Y call247 Y rfl (fo q kv c p1 p2 e1 h2 gy (by rw [KJ];omega)) ?_;rintro _ _ ⟨_,⟨lv,s5,rfl,h5,rfl⟩,rfl⟩;have e8:DK q c r=(⟨DZ (jnT q c (F3 r.rows)).1,r.val,r.fnd⟩,(jnT q c (F3 r.rows)).2):=by unfold DK;rw [As X]
 have cu:=jV q c (F3 r.rows);rw [KJ]at cu;obtain ⟨L,hL⟩:∃L,L=(jnT q c (F3 r.rows)).1:=⟨_,rfl⟩;rw [<-hL]at h5 e8 cu;obtain ⟨g5,c5,rfl⟩:=h5.form;refine Zm Y<|Zd Y V<|Zd Y V<|Za Y<|AW Y<|Zn [3,4,6,8] ?_;refine Zx<|A1<|Zh 0 E6 V rfl DA Y<|Xe (Zs DA Y Y V (hc:=by exact (V:_=(#[.slice none 0 0,I4 r.val,.bool r.fnd]:AK))) (hi:=by(simp;done))) ?_;refine A6<|Zq<|Zq<|Bc<|Zg<|Zm Y<|Zv (Ac G4 Y)<|Zm Y<|A6<|AQ<|Zb [51,3,4,8,49,50] ?_;refine BI (e0:=[(51,_)]) (fun m e H=>∃(k:Nat) (K:B8) (ck:Nat) (W:List A9),m=L.length -k/\(k<=L.length/\Bd 5 80 (.slice K (2*k) ck) (2*k) (Af (DZ (L.take k))) W)/\e=[(51,I4 (k:Int))]/\H=[[(br,.cells #[.slice K (2*k) ck,I4 r.val,.bool r.fnd] 61 (0,0))],W]) (by exact ⟨0,none,0,[],V,⟨C7 _,Bj 5 _⟩,V,V⟩) Wp ?_;rintro _ _ _ ⟨k,K,ck,W,rfl,⟨hk,I⟩,rfl,rfl⟩;refine Zq<|Bc<|Zg<|Zv (Ay Y Y)<|A6<|Zq<|Aw Y (fun J=>?_) (fun J=>?_);·
  obtain ⟨p,hp⟩:∃p,L[k]?=some p:=⟨_,BT J⟩;obtain ⟨g,af,cur,z,Z,rfl,gm,G⟩:=E5 h5 A0;injection Z with hv1 hv2 hv3
  subst hv1 hv3;obtain ⟨l9,cO⟩:=uo G hp;refine AC<|Zx<|Zq<|AQ<|Zq<|Bc<|Zg<|BU (Ae G4 H3 Y Y A0)<|Zo Wh (AB (cs:=#[_,_,_,_,_,_,_,_,_,_]) isAgg361 H3 Y A0 cO) ?_;refine Ze (Al gA #[_,_,_,_,_,_,_,_,_,_])<|AG fun bp=>Xe (Xw H3 #[I4 p.l.t,I4 p.l.k,I4 p.l.v.a,I4 p.l.v.b,I4 p.l.v.c,I4 p.r.t,I4 p.r.k,I4 p.r.v.a,I4 p.r.v.b,I4 p.r.v.c]) ?_;refine A6<|Zg<|Zh 0 E6 V rfl DA Y<|Zl GP Y ?_;refine Zh 0 W1 V rfl B3 Y<|Zo Wh (AB (cs:=#[_,_,_,_,_]) D0 B3 Y B5 B0) ?_;refine Zh 5 W1 V rfl B3 Y<|Zo Wh (AB (cs:=#[_,_,_,_,_]) D0 B3 Y B5 B0) ?_;refine Ze (Ai (vs:=[_,_]) (cs:=[_,_,_,_,_,_,_,_,_,_]) C1 B3 F0 Y V rfl V rfl V)<|AG fun gq=>Ze (BV (by_:=40) (sz:=5) C1 (V:Tryz.prog.info? 80=some Tryz.t80) V rfl V rfl Y (I) Y (Dl 5 gq 2 2 80 (0,0) (Af [p.l,p.r]) V) Wo Wo (by exact CV _) A0 A0) ?_;rintro _ _ ⟨l8,U,rfl⟩;obtain ⟨bn,ax,rfl⟩:=U.form;refine Zh 0 E6 V rfl DA Y<|Xe (Zs DA Y Y V (hc:=by exact (V:_=(#[.slice bn (2*k+2) ax,I4 r.val,.bool r.fnd]:AK))) (hi:=by(simp;done))) ?_;refine Z0<|Zn [3,4,8,49,50,51] ?_;refine A8<|Zx<|Bc<|Zg<|Ya (n:=1) Y Y<|Zm Y<|Z0<|Zn [51,3,4,8,49,50] ?_;refine Aa (e':=[(51,_)]) (by exact ⟨k+1,bn,ax,l8,rfl,⟨by omega,BZ U rfl (by rw [SG hp,Bo])⟩,rfl,rfl⟩)
 have ek:k=L.length:=by omega
 subst ek;rw [G3]at I;refine BD<|Zt<|Zt<|AV<|Zx<|A1<|Zo Wh (AB (cs:=#[_,_,_]) Cd B9 Y B5 B0) ?_;refine Zm Y<|Xe (Xw B9 _) ?_;refine A5 Y<|AJ<|CL rfl results208 Y Wh (Au Cd B9 Wn (rfl)) Y (by exact ⟨.slice K (2*L.length) ck,W,by rw [e8];rfl,by rw [e8];exact BZ I (IC L).symm rfl,rfl⟩)
end Go.Proofs.YthhakdmlpngcmaaGreatDoor
