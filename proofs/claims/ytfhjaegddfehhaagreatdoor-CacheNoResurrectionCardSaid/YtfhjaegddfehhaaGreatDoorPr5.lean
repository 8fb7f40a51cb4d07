/- Pairs of rows in memory; slices.Clone, IndexFunc, DeleteFunc, Insert at pairs. -/
import Derived.Test.YtfhjaegddfehhaaGreatDoorPr3
set_option linter.unusedVariables false
set_option linter.unusedSimpArgs false
namespace Go.Proofs.YtfhjaegddfehhaaGreatDoor
open Go.Proofs.Tryz
open Go Go.RowKit Gw
set_option maxRecDepth 100000
attribute [local irreducible] Gw.At Gw.Nx Gw.Ops
structure Bd where
 l:AV
 r:AV
deriving DecidableEq
def Ao(ps:List Bd):List Value:=ps.flatMap fun p=>[I4 p.l.t,I4 p.l.k,I4 p.l.v.a,I4 p.l.v.b,I4 p.l.v.c,I4 p.r.t,I4 p.r.k,I4 p.r.v.a,I4 p.r.v.b,I4 p.r.v.c]
theorem DC(a b:List Bd):Ao (a++b)=Ao a++Ao b:=by unfold Ao;rw [N6]
theorem BD:∀(rs:List Bd),(Ao rs).length=rs.length*10
 |[]=>rfl
 |r::rs=>by
  have:=BD rs;unfold Ao at*;rw [HL,B7,this,DG];simp;omega
theorem Fh(rs:List Bd)(k:Nat):(Ao rs).take (k*10)=Ao (rs.take k):=by
 rcases E0 rs.length k with h|h
 · rw [I2 (by rw [BD];omega),I2 A1]
 · have e:Ao rs=Ao (rs.take k)++Ao (rs.drop k):=by rw [<-DC,Iv]
   rw [e,HM (by rw [BD,C3];omega)]
theorem Lf(rs:List Bd)(k:Nat):(Ao rs).drop (k*10)=Ao (rs.drop k):=by
 rcases E0 rs.length k with h|h
 · rw [SP (by rw [BD];omega),SP A1];rfl
 · have e:Ao rs=Ao (rs.take k)++Ao (rs.drop k):=by rw [<-DC,Iv]
   rw [e,W3 (by rw [BD,C3];omega)]
theorem Em(rs:List Bd):∀u∈Ao rs,u.oneCell'=true:=by
 intro u g;unfold Ao at g;obtain ⟨r,_,h⟩:=S0.1 g;simp only [D4,RW,RC]at h;rcases h with rfl|rfl|rfl|rfl|rfl|rfl|rfl|rfl|rfl|rfl<;>rfl
def UD(M:List AA)(v:Value)(rs:List Bd):Prop:=∃p cap,v= .slice p rs.length cap/\(rs.length<=maxLen/\rs.length<=cap)/\∀(i:Nat) (x:Bd),rs[i]?=some x->∃g off cur T zz,p=some ⟨g,off,none⟩/\(g,Obj.cells cur T zz)∈M/\off+i*10+10<=cur.size/\cur.extract (off+i*10) (off+i*10+10)=#[I4 x.l.t,I4 x.l.k,I4 x.l.v.a,I4 x.l.v.b,I4 x.l.v.c,I4 x.r.t,I4 x.r.k,I4 x.r.v.a,I4 x.r.v.b,I4 x.r.v.c]
variable{v:Value}{rs:List Bd}{s:List AA}
theorem Nc{e:TypeId}(h:Bc 10 e v rs.length (Ao rs) s)(hn:rs.length<=maxLen):UD s v rs:=by
 obtain ⟨b,cap,rfl⟩:=h.form;refine ⟨b,cap,V,⟨hn,Ex h⟩,fun i x hx=>?_⟩;obtain ⟨g,G,cur,z,hv,rfl,I,m⟩:=JE h i (BE.1 hx).1;injection hv with hv1 hv2 hv3
 refine ⟨g,0,cur,e,z,hv1,by simp,by omega,?_⟩;unfold Ao at m;rw [IM _ 10 (fun _=>rfl) rs i x hx]at m;rw [D0];exact HD.1 m
variable{k:Nat}
theorem Rs{r:Bd}(h:rs[k]?=some r):Ao rs=Ao (rs.take k)++(Ao [r]++Ao (rs.drop (k+1))):=by
 rw [<-DC,<-DC];congr 1;obtain ⟨g,rfl⟩:=BE.1 h;rw [Mz,<-RK g,Iv]
theorem Iz{r:Bd}(h:rs[k]?=some r)(j:Nat)(g:j<10):(Ao rs)[k*10+j]?=(Ao [r])[j]?:=by
 have m:=(BE.1 h).1;have e:(Ao (rs.take k)).length=k*10:=by rw [BD,C3];omega
 rw [Rs h,SM A1,cC (by rw [e,BD];simp;omega),e,Nat.add_sub_cancel_left]
variable{n:Nat}
theorem Ww{M:List AA}{p:Option Addr}{cap:Nat}(h:UD M (.slice p n cap) rs):FN M p (Ao rs):=by
 obtain ⟨Z,J,e,X,U⟩:=h;injection e with e1 e2 e3
 subst e1;intro j u K;have G:=(BE.1 K).1
 rw [BD]at G;obtain ⟨x,hx⟩:∃x,rs[j/10]?=some x:=⟨_,B3 A1⟩;obtain ⟨g,off,cur,T,zz,rfl,W,I,m⟩:=U (j/10) x hx;refine ⟨g,off,cur,T,zz,V,W,?_⟩;have O:=PN m I (j%10) A1
 have h2:=Iz hx (j%10) A1;rw [show j/10*10+j%10=j by omega,K]at h2;rw [show off+j=off+j/10*10+j%10 by omega,O,h2,<-HH];rfl
theorem X9{M:List AA}(hv:UD M v rs)(hb:rs.length<=1000000000000):Ba prog 310 #[v] [M] (fun r H'=>∃O,Bc 10 360 r rs.length (Ao rs) O/\H'=[O,M]):=by
 have Z:=mL;obtain ⟨p,cap,rfl,⟨hl,X⟩,W⟩:=id hv;have G:FN M p (Ao rs):=Ww hv
 refine Se func310 ntmps310 [0] ?_;intro u R;refine A0<|A3 Y<|Zq<|A0<|Zm Y<|Zv (Dq G0 Y Y)<|A5<|AX Y (fun K=>?_) (fun K=>?_);·
  have I:p=none:=by cases p with
   |none=>rfl
   |some x=>cases K
  have h0:rs=[]:=by
   cases rs with
   |nil=>rfl
   |cons x l=>obtain ⟨g,off,cur,T,zz,J,_⟩:=W 0 x rfl;rw [I]at J;cases J
  refine Zq<|BU<|Zg<|A3 Y<|AJ<|Zt<|AO rfl results310 Y (by exact ⟨[],by rw [h0];exact Bf 10 _,rfl⟩)
 refine AC<|Zx<|A0<|Ze (EP G0 GO)<|AE fun U=>Zm Y<|Ze (Hl (by_:=80) (sz:=10) G0 (V:Tryz.prog.info? 360=some Tryz.t360) V rfl V rfl Y (IW 10 360 U 0 [] V AH) Y (G) (by exact BD _) AH Wo Wo (by exact Em _) A1 A1) ?_;rintro _ _ ⟨af,m,rfl⟩;replace m:=BS m (D0 _) (LN _);refine A3 Y<|AJ<|AO V results310 Y (by exact ⟨_,m,V⟩)
def Gv(pd:Bd->Bool)(rows:List Bd):Int:=(rows.findIdx? pd).elim (-1) fun i=>(i:Int)
variable{rows:List Bd}{i:Nat}{x:Bd}
theorem mO{g:Bd->Bool}(h:∀(j:Nat) (y:Bd),j<i->rows[j]?=some y->g y=false)(hx:rows[i]?=some x)(G:g x=true):Gv g rows=(i:Int):=by
 obtain ⟨hi,rfl⟩:=BE.1 hx;unfold Gv;rw [XS.2 ⟨hi,G,fun j m=>by simp [h j _ m (B3 A1)]⟩];rfl
theorem mP{m:Bd->Bool}(h:∀(j:Nat) (y:Bd),j<rows.length->rows[j]?=some y->m y=false):Gv m rows=-1:=by
 unfold Gv;rw [cT.2 fun y hy=>by
  obtain ⟨j,g⟩:=GW hy;exact h j y (BE.1 g).1 g]
 rfl
theorem Td(g:Bd->Bool)(rows:List Bd):(Gv g rows=-1/\∀y∈rows,g y=false)\/∃(i:Nat) (x:Bd),Gv g rows=(i:Int)/\rows[i]?=some x/\g x=true/\∀(j:Nat) (y:Bd),j<i->rows[j]?=some y->g y=false:=by
 unfold Gv;cases h:rows.findIdx? g with
 |none=>exact .inl ⟨rfl,cT.1 h⟩
 |some i=>
  obtain ⟨m,h2,G⟩:=XS.1 h;refine .inr ⟨i,_,V,B3 m,h2,fun j y I hy=>?_⟩;obtain ⟨J,rfl⟩:=BE.1 hy;simpa using G j I
theorem kZ(g:k<rs.length)(x:Bd):(Ao rs).take (k*10)++Ao [x]++(Ao rs).drop (k*10+(Ao [x]).length)=Ao (rs.set k x):=by
 rw [show k*10+(Ao [x]).length=(k+1)*10 by rw [BD];simp;omega,Fh,Lf,<-DC,<-DC,kO,AM g];simp
variable{cur:Array Value}
theorem Vz(g:C8 cur 0 (Ao rs))(hx:rs[k]?=some x):k*10+10<=cur.size/\cur.extract (0+k*10) (0+k*10+10)=(Ao [x]).toArray:=by
 have U:=(BE.1 hx).1;have O:k*10+10<=cur.size:=by
  have J:=Iz hx 9 AH;have K:=g.get (k*10+9) _ (J.trans AN)
  have:=(HS.1 K).1;omega
 refine ⟨O,?_⟩;apply HD.1;apply MT;intro j;rw [HH,eM];split
 · rename_i hj
   have m:j<10:=by omega
   have G:=Iz hx j m;obtain ⟨u,I⟩:∃u,(Ao [x])[j]?=some u:=⟨_,B3 (by rw [BD];simpa using m)⟩;rw [I]at G;have h2:=g.get _ _ G
   rw [D0]at h2;rw [D0,h2];exact I.symm
 · rw [Lz]
   show(Ao [x]).length<=j;rw [BD];simp only [E3];omega
theorem Kt{j:Nat}(f:Bd->Bool)(hx:rows[j]?=some x):(rows.take (j+1)).filter f=(rows.take j).filter f++(if f x then [x]else []):=by
 rw [Bi hx,Hi];congr 1;rw [cH,ln]
theorem MG{f:Bd->Bool}(h:∀(j:Nat) (y:Bd),rows[j]?=some y->f y=true):rows.filter f=rows:=kl.2 fun y hy=>by
 obtain ⟨j,g⟩:=GW hy;exact h j y g
variable{B A:List AA}
theorem M9(hv:UD A v rows)(G:Nat)(us:List Value)(X:Bd->Bool)(U:∀(args:Array Value) (w:World),(callFunc G args).run prog w= .ok (.enter G args) w)(hf:∀x:Bd,BH prog G (.agg #[I4 x.l.t,I4 x.l.k,I4 x.l.v.a,I4 x.l.v.b,I4 x.l.v.c,I4 x.r.t,I4 x.r.k,I4 x.r.v.a,I4 x.r.v.b,I4 x.r.v.c]::us).toArray [B] (.bool (X x))):BH prog 284 #[v,.func (.func G) #[] us.toArray] [A,B] (I4 (Gv X rows)):=by
 have ax:=mL;obtain ⟨p,cap,rfl,⟨hl,af⟩,hg⟩:=id hv;refine Se func284 ntmps284 [0,1] ?_;intro u R;refine A0<|A3 Y<|Zq<|A0<|Zm Y<|Zv (AY G0 Y)<|Zm Y<|A5<|AR<|Zb [8,0,1,7] ?_;refine BA (e0:=[(8,_)]) (fun m e H=>∃(i:Nat),m=rows.length -i/\(i<=rows.length/\∀(j:Nat) (y:Bd),j<i->rows[j]?=some y->X y=false)/\e=[(8,I4 (i:Int))]/\H=[]) (by exact ⟨0,V,⟨C0 _,fun j y h=>by omega⟩,V,V⟩) Wp ?_;rintro _ _ _ ⟨i,rfl,⟨hi,I⟩,rfl,rfl⟩;refine A0<|Zv (Au Y Y)<|A5<|Zq<|Aq Y (fun O=>?_) (fun O=>?_);·
  obtain ⟨x,hx⟩:∃x,rows[i]?=some x:=⟨_,B3 O⟩;obtain ⟨g,off,cur,T,zz,rfl,W,Z,K⟩:=hg i x hx;refine AC<|Zx<|Zq<|AR<|A0<|Zm Y<|A3 Y<|A0<|Zm Y<|Zm Y<|Zm Y<|Bb (Ac G0 GO Y Y A1)<|CS (cs:=[(g,.cells cur T zz)]) (by simp [W]) (A9 (cs:=#[_,_,_,_,_,_,_,_,_,_]) isAgg360 GO Y A1 K) V rfl<|Xr [_] Y (U) Y V (hf x)<|A5<|AX Y (fun J=>?_) (fun J=>?_);·
   refine A0<|Zm Y<|A3 Y<|AJ<|Ad<|Zt<|Zt<|Ad<|Zt<|AO V results284 Y (by exact ⟨congrArg (Value.int .i64) (mO I hx J).symm,V⟩)
  refine AC<|A8<|Zx<|Zg<|Ya (n:=1) Y Y<|Zm Y<|Z0<|Zn [8,0,1,7] ?_;refine Ab (e':=[(8,_)]) (by exact ⟨i+1,rfl,⟨by omega,fun j y h1 h2=>by rcases E0 j i with h9|h9;exact I j y h9 h2;obtain rfl:j=i:=A1;rw [hx]at h2;injection h2 with h2;subst h2;exact J⟩,rfl,rfl⟩)
 have ei:i=rows.length:=by omega
 subst ei;refine Ay<|Zt<|Zt<|AU<|Zx<|A0<|A3 Y<|AJ<|AO V results284 Y (by exact ⟨congrArg (Value.int .i64) (mP I).symm,V⟩)
set_option maxHeartbeats 1000000 in
theorem Xc(G:Bc 10 360 v rows.length (Ao rows) s)(hn:rows.length<=1000000000)(J:Nat)(us:List Value)(U:Bd->Bool)(bg:∀(args:Array Value) (w:World),(callFunc J args).run prog w= .ok (.enter J args) w)(hf:∀x:Bd,BH prog J (.agg #[I4 x.l.t,I4 x.l.k,I4 x.l.v.a,I4 x.l.v.b,I4 x.l.v.c,I4 x.r.t,I4 x.r.k,I4 x.r.v.a,I4 x.r.v.b,I4 x.r.v.c]::us).toArray [B] (.bool (U x))):Ba prog 309 #[v,.func (.func J) #[] us.toArray] [s,B] (fun r H'=>∃s',Bc 10 360 r (rows.filter fun x=>!U x).length (Ao (rows.filter fun x=>!U x)) s'/\H'=[s',B]):=by
 have l9:=mL;obtain ⟨p,cap,rfl⟩:=G.form;have hU:=Nc G A1
 refine Se func309 ntmps309 [0,1] ?_;intro u R;refine A0<|A3 Y<|A0<|Zm Y<|Zm Y<|Xr [_,_] Y call284 Y V (M9 hU J us U bg hf) ?_;rcases Td U rows with⟨e9,X⟩|⟨k,x0,e9,hx0,hp0,hno⟩
 ·
  rw [e9];refine A3 Y<|Zq<|A0<|Zm Y<|Zv (CP Y Y)<|A5<|Aq Y (fun h1=>?_) (fun h1=>?_);·
   refine A0<|Zm Y<|A3 Y<|AJ<|Zt<|AO rfl results309 Y (by exact ⟨_,BS G (congrArg List.length (MG fun j y hy=>by rw [X y (DE hy)];rfl).symm) (congrArg Ao (MG fun j y hy=>by rw [X y (DE hy)];rfl).symm),rfl⟩)
  exact absurd V h1
 rw [e9];have l8:=(BE.1 hx0).1
 obtain ⟨g,gB,cur,z,gy,rfl,j3,ic⟩:=E8 G A1;injection gy with hv1 hv2 hv3
 subst hv1 hv3;refine A3 Y<|Zq<|A0<|Zm Y<|Zv (CP Y Y)<|A5<|Aq Y (fun h2=>by omega)<|fun h2=>AC<|Zx<|Zq<|A0<|Zm Y<|Ya (n:=1) Y Y<|A3 Y<|AR<|Zb [5,6,0,1] ?_;refine BA (e0:=[(5,_),(6,_)]) (fun m e H=>∃(i j:Nat) (W:List Bd) (cur:Array Value),m=rows.length -j/\((i<j/\j<=rows.length)/\W.length=rows.length/\Bc 10 360 (I6 g rows.length cap) rows.length (Ao W) [(g,.cells cur 360 z)]/\W.take i=(rows.take j).filter (fun x=>!U x)/\∀t,j<=t->W[t]?=rows[t]?)/\e=[(5,I4 (i:Int)),(6,I4 (j:Int))]/\H=[[(g,.cells cur 360 z)]]) (by exact ⟨k,k+1,rows,cur,rfl,⟨⟨by omega,by omega⟩,rfl,G,by rw [Kt _ hx0,hp0];simp only [S3,MA,HF,DB];exact (MG (fun j y hy=>by rw [HC]at hy;split at hy;rw [hno j y eJ hy];rfl;cases hy)).symm,fun t _=>rfl⟩,rfl,rfl⟩) Wp ?_;rintro _ _ _ ⟨i,j,W,cur,rfl,⟨l5,ax,O,K,af⟩,rfl,rfl⟩;obtain ⟨cO,bn,j5,gF,Z⟩:=Jc O;refine Zq<|A0<|Zm Y<|Zm Y<|Zv (AY G0 Y)<|Zv (Au Y Y)<|A5<|Aq Y (fun d9=>?_) (fun d9=>?_);·
  obtain ⟨x,hx⟩:∃x,rows[j]?=some x:=⟨_,B3 d9⟩;obtain ⟨kv,cu⟩:=Vz cO ((af j (CM _)).trans hx);refine AC<|Zx<|Zq<|AR<|A0<|Zm Y<|Zm Y<|Bb (Ac G0 GO Y Y A1)<|Zo Wh (A9 (cs:=#[_,_,_,_,_,_,_,_,_,_]) isAgg360 GO Y A1 cu)<|Ze (Al fg #[_,_,_,_,_,_,_,_,_,_])<|AE fun bx=>Xe (Xw GO #[I4 x.l.t,I4 x.l.k,I4 x.l.v.a,I4 x.l.v.b,I4 x.l.v.c,I4 x.r.t,I4 x.r.k,I4 x.r.v.a,I4 x.r.v.b,I4 x.r.v.c])<|A5<|A0<|Zm Y<|Zo Wh (A9 (cs:=#[_,_,_,_,_,_,_,_,_,_]) isAgg360 GO Y As AN)<|Xr [_] Y (bg) Y V (hf x)<|Zv (Br Y)<|Z0<|Zn [0,1,5,6,7,29] ?_;refine Zx<|AX Y (fun I=>?_) (fun I=>?_);·
   have I:U x=false:=by simpa using I
   have ek:=BS (xs':=Ao (W.set i x)) (ES (i:=0+i*10) (ys:=Ao [x]) O (by rw [BD,BD,E3];omega)) rfl (by rw [D0];exact kZ A1 x);refine A0<|Zm Y<|Zm Y<|Zo Wh (A9 (cs:=#[_,_,_,_,_,_,_,_,_,_]) isAgg360 GO Y As AN)<|Bb (Ac G0 GO Y Y A1)<|Xe (BL GO Y Y HK Wu (by exact (rfl:_=EL cur (0+i*10) (Ao [x]))) E6 A1 Z)<|A5<|Zg<|Zm Y<|Ya (n:=1) Y Y<|AG Y<|A8<|Zx<|Zg<|Zm Y<|Ya (n:=1) Y Y<|AG Y<|Zn [5,6,0,1] ?_;refine Ab (e':=[(5,_),(6,_)]) (by exact ⟨i+1,j+1,W.set i x,_,rfl,⟨by omega,by rw [cW];exact ax,ek,by rw [YG A1,K,Kt _ hx];simp [I],fun t ht=>by rw [List.getElem?_set_ne A1];exact af t A1⟩,rfl,rfl⟩)
  have I:U x=true:=by simpa using I
  refine AC<|A8<|Zx<|Zg<|Zm Y<|Ya (n:=1) Y Y<|AG Y<|Zn [5,6,0,1] ?_;refine Ab (e':=[(5,_),(6,_)]) (by exact ⟨i,j+1,W,cur,rfl,⟨by omega,ax,O,by rw [K,Kt _ hx];simp [I],fun t ht=>af t A1⟩,rfl,rfl⟩)
 have ej:j=rows.length:=by omega
 subst ej;rw [GB]at K;have gq:(rows.filter fun x=>!U x).length=i:=by rw [<-K,C3];omega
 refine Ay<|Zt<|Zt<|AU<|Zx<|A0<|Zm Y<|Zm Y<|Bb (C9 G0 GO Y Y A1)<|Ze (OH G0 (V:Tryz.prog.info? 360=some Tryz.t360) V rfl (by simp [Value.cells,Value.oneCell']) Y A1 bn Z Wo) ?_;rintro _ _ rfl;have gm:=VG (ES (i:=i*10) (ys:=(Builtin.zeroCells (Value.agg #[I4 0,I4 0,I4 0,I4 0,I4 0,I4 0,I4 0,I4 0,I4 0,I4 0]).cells (rows.length -i)).toList) O (by rw [SU,size_zeroCells,BD];show i*10+(rows.length -i)*10<=_;omega)) i A1
 refine A5<|A0<|Zm Y<|Zm Y<|Bb (Bq G0 GO Y Y A1)<|A3 Y<|AJ<|AO V results309 Y (by
  refine ⟨_,BS gm gq.symm ?_,V⟩;rw [Cd,HM (by rw [C3,BD];omega),Fh,K])
theorem mJ{A Y D:List Value}(g:A.length=(n+1)*10)(hi:i<=n)(G:Y.length=10)(m:D.length=(n -i)*10):(A.take (0+i*10)++Y++A.drop (0+i*10+Y.length)).take (0+(i+1)*10)++D++(A.take (0+i*10)++Y++A.drop (0+i*10+Y.length)).drop (0+(i+1)*10+D.length)=A.take (i*10)++Y++D:=by
 rw [D0,D0,HM (by rw [B7,C3];omega),SP (by simp only [B7,C3,C2];omega),DB]
theorem fV{A Y D:List Value}(g:A.length=(n+1)*10)(hi:i<=n)(G:Y.length=10)(m:D.length=(n -i)*10):(A.take (0+(i+1)*10)++D++A.drop (0+(i+1)*10+D.length)).take (0+i*10)++Y++(A.take (0+(i+1)*10)++D++A.drop (0+(i+1)*10+D.length)).drop (0+i*10+Y.length)=A.take (i*10)++Y++D:=by
 rw [D0,D0,SP (l:=A) A1,DB,bm (by rw [C3];omega),To,Pc A1,W3 (by rw [C3];omega)]
theorem VE(rows:List Bd)(i:Nat)(y:Bd):(Ao rows).take (i*10)++Ao [y]++Ao (rows.drop i)=Ao (rows.take i++[y]++rows.drop i):=by
 rw [Fh,DC,DC]
theorem Qs{c:Array Value}(h:C8 c 0 (Ao rows))(i:Nat)(hi:i<=rows.length):C8 c (0+i*10) (Ao (rows.drop i)):=by
 have g:=J5 h (i*10) ((rows.length -i)*10) (by rw [BD];omega);rw [Lf,I2 (by rw [BD,C2];omega)]at g;exact g
theorem aj{c:Array Value}(h:C8 c 0 (Ao rows))(i:Nat)(hi:i<=rows.length):C8 c 0 (Ao (rows.take i)):=by
 have g:=J5 h 0 (i*10) (by rw [BD];omega);rw [Pr,Fh]at g;exact g
theorem TZ(rows:List Bd)(i:Nat)(hi:i<=rows.length)(y:Bd):(rows.take i++[y]++rows.drop i).length=rows.length+1:=by
 simp only [B7,C3,C2,E3];omega
set_option maxHeartbeats 1000000 in
theorem XR(m:Bc 10 360 v rows.length (Ao rows) s)(hn:rows.length<=1000000000)(i:Nat)(hi:i<=rows.length)(y:Bd)(U:Nat):Ba prog 311 #[v,I4 (i:Int),I6 U 1 1] [s,[(U,.cells #[I4 y.l.t,I4 y.l.k,I4 y.l.v.a,I4 y.l.v.b,I4 y.l.v.c,I4 y.r.t,I4 y.r.k,I4 y.r.v.a,I4 y.r.v.b,I4 y.r.v.c] 360 (0,0))]] (fun r H'=>∃s' s2,Bc 10 360 r (rows.take i++[y]++rows.drop i).length (Ao (rows.take i++[y]++rows.drop i)) s'/\H'=[s',s2,[(U,.cells #[I4 y.l.t,I4 y.l.k,I4 y.l.v.a,I4 y.l.v.b,I4 y.l.v.c,I4 y.r.t,I4 y.r.k,I4 y.r.v.a,I4 y.r.v.b,I4 y.r.v.c] 360 (0,0))]]):=by
 have l5:=mL;obtain ⟨p,cap,rfl⟩:=m.form;have kv:=Ex m
 refine Se func311 ntmps311 [0,1,2] ?_;intro u R;refine A0<|A3 Y<|Zq<|BU<|Zg<|Zm Y<|Zm Y<|Bb (C9 G0 GO Y Y A1)<|A5<|A0<|Zm Y<|Zv (AY G0 Y)<|A3 Y<|Zq<|A0<|Zm Y<|Zv (Cb (n:=0) Y Y)<|A5<|Aq Y (fun h0=>by cases h0)<|fun h0=>AC<|Zx<|A0<|Zm Y<|Zv (AY G0 Y)<|A3 Y<|Zq<|A0<|Zm Y<|Zm Y<|Zv (Cb Y Y)<|Z0<|Zn [0,1,2,7,8,22] ?_;refine Zx<|Aq Y (fun W=>?_) (fun W=>?_);·
  refine A0<|Zm Y<|Zm Y<|Ze (BR (by_:=80) (sz:=10) G0 (V:Tryz.prog.info? 360=some Tryz.t360) V rfl V rfl Y (m) Y (D8 10 U 1 1 360 (0,0) (Ao [y]) V) Wo Wo (by exact Em _) A1 A1) ?_;rintro _ _ ⟨l8,O,rfl⟩;obtain ⟨ic,gF,rfl⟩:=O.form;refine A3 Y<|AJ<|Zt<|AO V results311 Y (by
   have W:i=rows.length:=by omega
   subst W;exact ⟨_,[],BS O (TZ rows _ (CM _) y).symm (by rw [GB,ie,DB,DC]),rfl⟩)
 obtain ⟨g,cO,cur,z,bn,rfl,gB,I⟩:=E8 m A1;injection bn with hv1 hv2 hv3
 subst hv1 hv3;obtain ⟨_,j5,_,j3,Z⟩:=Jc m;refine AC<|Zx<|Zq<|A0<|Zm Y<|Zm Y<|Ya Y Y<|Zm Y<|Zv (Qj G0 Y)<|Zv (DF Y Y)<|A5<|Aq Y (fun hg=>?_) (fun hg=>?_);·
  refine A0<|Zm Y<|Zm Y<|Bb (Bq G0 GO Y Y A1)<|Zm Y<|Zm Y<|Ya Y Y<|Zm Y<|Yb Y Y ?_;refine Ze (LC (by_:=80) (sz:=10) (xs:=Ao (rows.take i)) G0 C5 (rfl:Tryz.prog.info? 360=some Tryz.t360) rfl rfl rfl rfl Y Y Wh (aj I i hi) (by rw [BD,C3];omega) A1 AH A1 A1 A1) ?_;rintro _ _ ⟨s9,J,rfl⟩;rw [show i+(rows.length+1 -i)=rows.length+1 by omega]at J;have G:=J.1
  obtain ⟨g3,cu,d9,z3,rfl,rfl,gy,gq⟩:=E8 J A1;obtain ⟨_,gm,_,ek,K⟩:=Jc J;refine AG Y<|Zn [0,1,2,7,9] ?_;refine Zx<|A0<|Zm Y<|Zm Y ?_
  (refine Bb (Bo G0 GO Y Y ?_ ?_) ?_;(focus (omega));(focus (omega)))
  refine Zm Y<|Xe (JW (cs:=Ao [y]) G0 GO Y Y Wh Wo ((rfl:C8 (#[I4 y.l.t,I4 y.l.k,I4 y.l.v.a,I4 y.l.v.b,I4 y.l.v.c,I4 y.r.t,I4 y.r.k,I4 y.r.v.a,I4 y.r.v.b,I4 y.r.v.c]:Array Value) 0 (Ao [y]))) (by rw [BD,E3];omega) (by rw [BD,E3];omega) (K) (Em _)) ?_;refine A5<|Zq<|Az (n:=9) (0::0::0::6::15::0::0::96::255::[]) 256 A6 A6 V<|A2 0 V (AP Y)<|A2 1 V (AP Y)<|A2 2 V (AP Y)<|A2 3 V (EC Y Y A1) ?_
  (refine Dr (D':=31) 4 (Bo G0 GO Y Y ?_ ?_) ?_;(focus (omega));(focus (omega)))
  refine A2 5 V (AP Y)<|A2 6 V (AP Y) ?_
  (refine Dr (D':=255) 7 (Bo G0 GO Y Y ?_ ?_) ?_;(focus (omega));(focus (omega)))
  refine Yw 8 511 rfl (JW (cs:=Ao (rows.drop i)) G0 GO Y Y Wh Wo (Qs I i hi) (by rw [BD,C2];omega) (by rw [BD,C2,GM (by rw [BD,E3];omega)];omega) (by rw [GM (by rw [BD,E3];omega)];exact K) (Em _))<|CT<|Ag<|Zn [9] ?_;refine Zx<|A0<|Zm Y<|A3 Y<|AJ<|Zt<|AO V results311 Y (by
   refine ⟨_,[(g,.cells cur 360 z)],BS (ES (i:=0+(i+1)*10) (ys:=Ao (rows.drop i)) (ES (i:=0+i*10) (ys:=Ao [y]) J (by rw [G,BD,E3];omega)) ?_) (TZ rows i hi y).symm ?_,rfl⟩;· simp only [B7,C3,C2,G,BD,E3];omega
   · rw [mJ G hi (by rw [BD];rfl) (by rw [BD,C2]),HM (by rw [BD,C3];omega),<-Fh,VE])
 refine AC<|Zx<|Zq ?_;obtain ⟨l9,bg,ax⟩:=VF m (rows.length+1) A1 A1;have G:=ax.1
 refine Zg<|Zm Y<|Zm Y<|Zm Y<|Ya Y Y ?_;refine Bb (Bq G0 GO Y Y A1)<|A3 Y<|Zq<|Zq<|ym (s1:=[(U,_)]) (s2:=[(g,_)]) (a:=U) (b:=g) Wo Wo (BT.2 V) (BT.2 V) (fun af=>?_);refine Zg<|Zm Y<|Zm Y<|Zm Y<|Zm Y<|Ya Y Y ?_
 (refine Bb (Bo G0 GO Y Y ?_ ?_) ?_;(focus (omega));(focus (omega)))
 refine CS (cs:=[(U,.cells #[I4 y.l.t,I4 y.l.k,I4 y.l.v.a,I4 y.l.v.b,I4 y.l.v.c,I4 y.r.t,I4 y.r.k,I4 y.r.v.a,I4 y.r.v.b,I4 y.r.v.c] 360 (0,0)),(g,.cells cur 360 z)]) B0 (TC (tR:=4) func320 A6 A6 A6 A6 G0 GO Y af A1) V rfl ?_;refine Zv (Br Y)<|Z0<|Zn [0,1,2,7,8,68] ?_;refine Zx<|AX Y (fun X=>?_) (fun X=>?_);·
  refine Zq<|Az (n:=9) (0::0::0::6::15::0::0::96::255::[]) 256 A6 A6 V<|A2 0 V (AP Y)<|A2 1 V (AP Y)<|A2 2 V (AP Y)<|A2 3 V (EC Y Y A1) ?_
  (refine Dr (D':=31) 4 (Bo G0 GO Y Y ?_ ?_) ?_;(focus (omega));(focus (omega)))
  refine A2 5 V (AP Y)<|A2 6 V (AP Y) ?_
  (refine Dr (D':=255) 7 (Bo G0 GO Y Y ?_ ?_) ?_;(focus (omega));(focus (omega)))
  refine Yw 8 511 rfl (JW (cs:=Ao (rows.drop i)) G0 GO Y Y Wh Wo (Qs I i hi) (by rw [BD,C2];omega) (by rw [BD,C2];omega) (Z) (Em _))<|CT<|Ag<|Zx<|A0<|Zm Y<|Zm Y ?_
  (refine Bb (Bo G0 GO Y Y ?_ ?_) ?_;(focus (omega));(focus (omega)))
  refine Zm Y<|Xe (JW (cs:=Ao [y]) G0 GO Y Y Wh Wo ((rfl:C8 (#[I4 y.l.t,I4 y.l.k,I4 y.l.v.a,I4 y.l.v.b,I4 y.l.v.c,I4 y.r.t,I4 y.r.k,I4 y.r.v.a,I4 y.r.v.b,I4 y.r.v.c]:Array Value) 0 (Ao [y]))) (by rw [BD,E3];omega) (by rw [BD,E3,GM (by rw [BD,C2];omega)];omega) (by rw [GM (by rw [BD,C2];omega)];exact Z) (Em _)) ?_;refine Z0<|Zn [0] ?_;refine Zx<|A0<|Zm Y<|A3 Y<|AJ<|Zt<|AO V results311 Y (by
   refine ⟨_,[],BS (ES (i:=0+i*10) (ys:=Ao [y]) (ES (i:=0+(i+1)*10) (ys:=Ao (rows.drop i)) ax (by rw [G,BD,C2];omega)) ?_) (TZ rows i hi y).symm ?_,rfl⟩;· simp only [B7,C3,C2,BD,bg,E3];omega
   · rw [fV G hi (by rw [BD];rfl) (by rw [BD,C2]),bm (by rw [BD];omega),VE])
 cases X
def PE(pd:Bd->Bool)(rows:List Bd)(y:Bd):List Bd:=rows.take ((rows.findIdx? pd).getD rows.length)++[y]++rows.drop ((rows.findIdx? pd).getD rows.length)
theorem mK(g:Bd->Bool)(rows:List Bd)(y:Bd):(PE g rows y).length=rows.length+1:=by
 unfold PE;simp only [B7,C3,C2,E3];omega
theorem tT(g:Bd->Bool)(rows:List Bd):(Gv g rows<0/\(rows.findIdx? g).getD rows.length=rows.length)\/∃i:Nat,i<=rows.length/\Gv g rows=(i:Int)/\(rows.findIdx? g).getD rows.length=i:=by
 unfold Gv;cases h:rows.findIdx? g with
 |none=>exact .inl ⟨by simp,rfl⟩
 |some i=>
  obtain ⟨m,_,_⟩:=XS.1 h;exact .inr ⟨i,by omega,V,V⟩
theorem ND(hv:UD A v rows)(hn:rows.length<=1000000000)(g:Nat)(us:List Value)(m:Bd->Bool)(G:∀(args:Array Value) (w:World),(callFunc g args).run prog w= .ok (.enter g args) w)(J:∀x:Bd,BH prog g (.agg #[I4 x.l.t,I4 x.l.k,I4 x.l.v.a,I4 x.l.v.b,I4 x.l.v.c,I4 x.r.t,I4 x.r.k,I4 x.r.v.a,I4 x.r.v.b,I4 x.r.v.c]::us).toArray [B] (.bool (m x))):Ba prog 281 #[v,.func (.func g) #[] us.toArray] [A,B] (fun r H'=>∃s,Bc 10 360 r (rows.filter fun x=>!m x).length (Ao (rows.filter fun x=>!m x)) s/\H'=[s,A,B]):=by
 obtain ⟨p,cap,rfl,_⟩:=id hv;refine Se func281 ntmps281 [0,1] ?_;intro u R;refine A0<|A3 Y<|A0<|Zm Y<|Zc [_] Y call310 Y V (X9 hv A1) ?_;rintro _ _ ⟨_,⟨s1,I,rfl⟩,rfl⟩;obtain ⟨U,K,rfl⟩:=I.form;refine Zm Y<|Zc [_,_] Y call309 Y V (Xc I hn g us m G J) ?_;rintro _ _ ⟨_,⟨s2,h2,rfl⟩,rfl⟩;obtain ⟨W,O,rfl⟩:=h2.form;refine A3 Y<|AJ<|AO V results281 Y (by exact ⟨_,h2,V⟩)
theorem TY(G:Bc 10 360 v rows.length (Ao rows) s)(hn:rows.length<=1000000000)(y:Bd)(g:Nat)(us:List Value)(I:Bd->Bool)(U:∀(args:Array Value) (w:World),(callFunc g args).run prog w= .ok (.enter g args) w)(hf:∀x:Bd,BH prog g (.agg #[I4 x.l.t,I4 x.l.k,I4 x.l.v.a,I4 x.l.v.b,I4 x.l.v.c,I4 x.r.t,I4 x.r.k,I4 x.r.v.a,I4 x.r.v.b,I4 x.r.v.c]::us).toArray [B] (.bool (I x))):Ba prog 286 #[v,.agg #[I4 y.l.t,I4 y.l.k,I4 y.l.v.a,I4 y.l.v.b,I4 y.l.v.c,I4 y.r.t,I4 y.r.k,I4 y.r.v.a,I4 y.r.v.b,I4 y.r.v.c],.func (.func g) #[] us.toArray] [s,B] (fun r H'=>∃X s2,Bc 10 360 r (PE I rows y).length (Ao (PE I rows y)) X/\H'=[X,s2,B]):=by
 have af:=mL;obtain ⟨p,cap,rfl⟩:=G.form;have hU:=Nc G A1
 refine Se func286 ntmps286 [0,1,2] ?_;intro u R;refine A0<|Ze (Bx #[_,_,_,_,_,_,_,_,_,_])<|AE fun bx=>A3 Y<|A0<|Zm Y<|Zm Y<|Xr [_,_] Y call284 Y V (M9 hU g us I U hf) ?_;obtain ⟨z9,O⟩:∃z,z=Gv I rows:=⟨_,rfl⟩;rw [<-O];have m:=tT I rows
 rw [<-O]at m;refine A3 Y<|Zb [7,0,4] ?_;refine DJ (e0:=[(7,_)]) (H0:=[]) (fun e H=>∃(i:Nat),(i<=rows.length/\(rows.findIdx? I).getD rows.length=i)/\e=[(7,I4 (i:Int))]/\H=[]) Wp ?hx_1 ?hy_1
 case hx_1=>
  refine A0<|Zm Y<|Zv (Dv Y Y)<|A5<|Aq Y (fun K=>?_) (fun K=>?_);·
   refine Zg<|Zm Y<|Zv (AY G0 Y)<|AG Y<|Zn [7,0,4] ?_;refine BO (e':=[(7,_)]) (by exact ⟨rows.length,⟨CM _,by rcases m with⟨_,h⟩|⟨i,h1,h2,J⟩;exact h;omega⟩,rfl,rfl⟩)
  rcases m with⟨h9,_⟩|⟨i,h1,h2,J⟩
  · exact absurd h9 K
  subst h2;refine AC<|Zn [7,0,4] ?_;refine BO (e':=[(7,_)]) (by exact ⟨i,⟨h1,J⟩,V,V⟩)
 rintro _ _ ⟨i,⟨hi,W⟩,rfl,rfl⟩;refine A0<|Zm Y<|Zm Y<|Zo Wh (Pa #[_,_,_,_,_,_,_,_,_,_] isAgg360 GO Y)<|Ze (Ah (vs:=[_]) (cs:=[_,_,_,_,_,_,_,_,_,_]) G0 GO fg Y V rfl V rfl V)<|AE fun Z=>Zc [_,_,_] Y call311 Y V (XR G hn i hi y Z) ?_;rintro _ _ ⟨_,⟨s3,s4,J,rfl⟩,rfl⟩;obtain ⟨g3,c3,rfl⟩:=J.form;refine A3 Y<|AJ<|AO rfl results286 Y (by exact ⟨_,s4,by unfold PE;rw [W];exact J,rfl⟩)
def HV(k:Int)(p:Bd):Bool:=decide (p.r.k=k)
def QH(k:Int)(p:Bd):Bool:=decide (p.l.k=k)
def Ey(rows:List AV):List Bd:=(List.range (rows.length/2)).map fun k=>⟨rows.getD (2*k) AV.zero,rows.getD (2*k+1) AV.zero⟩
def DV(ps:List Bd):List AV:=ps.flatMap fun p=>[p.l,p.r]
def jnT(q:QM)(c:Chg)(ps:List Bd):List Bd×Bool:=
 if c.t=q.ot then
  (if c.has then(ps.map fun p=>if HV c.k p then⟨p.l,⟨c.t,c.k,c.n⟩⟩else p,c.had)else(ps.filter fun p=>!HV c.k p,c.had))
 else match afQ q c with
  |none=>(ps.filter fun p=>!QH c.k p,true)
  |some y=>if Gv (HV (mQ q (afQ q c))) ps<0 then(ps.filter fun p=>!QH c.k p,(bfQ q c).isSome&&decide (mQ q (bfQ q c)=mQ q (afQ q c)))
   else(PE (fun p=>KR q y p.l) (ps.filter fun p=>!QH c.k p) ⟨y,(ps.getD (Gv (HV (mQ q (afQ q c))) ps).toNat ⟨AV.zero,AV.zero⟩).r⟩,true)
def D9(q:QM)(c:Chg)(r:CE):CE×Bool:=if q.tb=q.ot then(r,false)else(⟨DV (jnT q c (Ey r.rows)).1,r.val,r.fnd⟩,(jnT q c (Ey r.rows)).2)
theorem KE(rows:List AV):(Ey rows).length=rows.length/2:=by unfold Ey;rw [B4,cG]
theorem qY{rows:List AV}{x y:AV}(hx:rows[2*k]?=some x)(hy:rows[2*k+1]?=some y):(Ey rows)[k]?=some ⟨x,y⟩:=by
 have h:=(BE.1 hy).1;unfold Ey;rw [DO,Z1 A1,N1,My,My,hx,hy];rfl
theorem II:∀ps:List Bd,(DV ps).length=2*ps.length
 |[]=>rfl
 |p::ps=>by
  have:=II ps;unfold DV at*;rw [HL,B7,this,DG];simp;omega
variable{ps:List Bd}{p:Bd}
theorem SK(h:ps[k]?=some p):DV (ps.take (k+1))=DV (ps.take k)++[p.l,p.r]:=by
 unfold DV;rw [Bi h,N6,nh]
theorem jL(q:QM)(c:Chg)(ps:List Bd):(jnT q c ps).1.length<=ps.length+1:=by
 have g:=On (fun p=>!HV c.k p) ps;have h2:=On (fun p=>!QH c.k p) ps
 unfold jnT;split
 · split
   · simp only [B4];omega
   · simp only;omega
 · split
   · simp only;omega
   · split
     · simp only;omega
     · simp only [mK];omega
theorem xV(q:QM)(c:Chg)(m G:Option Addr)(o n:Int)(g:Nat)(x:Bd):BH prog 282 #[.agg #[I4 x.l.t,I4 x.l.k,I4 x.l.v.a,I4 x.l.v.b,I4 x.l.v.c,I4 x.r.t,I4 x.r.k,I4 x.r.v.a,I4 x.r.v.b,I4 x.r.v.c],I5 g] [[(g,.cells (q.G4 c m G o n) 257 (0,0))]] (.bool (HV c.k x)):=by
 refine Se func282 ntmps282 [0,1] ?_;intro u R;refine A0<|Ze (Bx #[I4 x.l.t,I4 x.l.k,I4 x.l.v.a,I4 x.l.v.b,I4 x.l.v.c,I4 x.r.t,I4 x.r.k,I4 x.r.v.a,I4 x.r.v.b,I4 x.r.v.c])<|AE fun I=>A3 Y<|A0<|Zh 5 US V rfl AW Y<|Zv (Ar (off:=1) FF V rfl A4 Y)<|Zl AD Y<|Zh 7 DA V rfl C1 Y<|Zv (Ar (off:=1) B8 V rfl A4 Y)<|Zl AD Y<|Zv (CP Y Y)<|A3 Y<|AJ<|AO V results282 Y (by exact ⟨V,V⟩)
theorem xU(q:QM)(c:Chg)(m G:Option Addr)(o n:Int)(g:Nat)(x:Bd):BH prog 283 #[.agg #[I4 x.l.t,I4 x.l.k,I4 x.l.v.a,I4 x.l.v.b,I4 x.l.v.c,I4 x.r.t,I4 x.r.k,I4 x.r.v.a,I4 x.r.v.b,I4 x.r.v.c],I5 g] [[(g,.cells (q.G4 c m G o n) 257 (0,0))]] (.bool (QH c.k x)):=by
 refine Se func283 ntmps283 [0,1] ?_;intro u R;refine A0<|Ze (Bx #[I4 x.l.t,I4 x.l.k,I4 x.l.v.a,I4 x.l.v.b,I4 x.l.v.c,I4 x.r.t,I4 x.r.k,I4 x.r.v.a,I4 x.r.v.b,I4 x.r.v.c])<|AE fun I=>A3 Y<|A0<|Zh 0 US V rfl AW Y<|Zv (Ar (off:=1) FF V rfl A4 Y)<|Zl AD Y<|Zh 7 DA V rfl C1 Y<|Zv (Ar (off:=1) B8 V rfl A4 Y)<|Zl AD Y<|Zv (CP Y Y)<|A3 Y<|AJ<|AO V results283 Y (by exact ⟨V,V⟩)
theorem xS(q:QM)(c:Chg)(m G:Option Addr)(o n:Int)(g:Nat)(x:Bd):BH prog 285 #[.agg #[I4 x.l.t,I4 x.l.k,I4 x.l.v.a,I4 x.l.v.b,I4 x.l.v.c,I4 x.r.t,I4 x.r.k,I4 x.r.v.a,I4 x.r.v.b,I4 x.r.v.c],I5 g] [[(g,.cells (q.G4 c m G o n) 257 (0,0))]] (.bool (HV n x)):=by
 refine Se func285 ntmps285 [0,1] ?_;intro u R;refine A0<|Ze (Bx #[I4 x.l.t,I4 x.l.k,I4 x.l.v.a,I4 x.l.v.b,I4 x.l.v.c,I4 x.r.t,I4 x.r.k,I4 x.r.v.a,I4 x.r.v.b,I4 x.r.v.c])<|AE fun I=>A3 Y<|A0<|Zh 5 US V rfl AW Y<|Zv (Ar (off:=1) FF V rfl A4 Y)<|Zl AD Y<|Zh 20 DA V rfl A4 Y<|Zl AD Y<|Zv (CP Y Y)<|A3 Y<|AJ<|AO V results285 Y (by exact ⟨V,V⟩)
theorem xR(g:Nat)(us:List Value)(I:AV->Bool)(m:∀(args:Array Value) (w:World),(callFunc g args).run prog w= .ok (.enter g args) w)(J:∀x:AV,BH prog g (.agg x.A58::us).toArray [B] (.bool (I x)))(G:Nat)(x:Bd):BH prog 287 #[.agg #[I4 x.l.t,I4 x.l.k,I4 x.l.v.a,I4 x.l.v.b,I4 x.l.v.c,I4 x.r.t,I4 x.r.k,I4 x.r.v.a,I4 x.r.v.b,I4 x.r.v.c],I5 G] [[(G,.cells #[.func (.func g) #[] us.toArray] 240 (0,0))],B] (.bool (I x.l)):=by
 refine Se func287 ntmps287 [0,1] ?_;intro u R;refine A0<|Ze (Bx #[I4 x.l.t,I4 x.l.k,I4 x.l.v.a,I4 x.l.v.b,I4 x.l.v.c,I4 x.r.t,I4 x.r.k,I4 x.r.v.a,I4 x.r.v.b,I4 x.r.v.c])<|AE fun K=>A3 Y<|A0<|Zl isAgg240 Y ?_;refine Zh 0 US V rfl AW Y<|Zo Wh (A9 (cs:=x.l.A58) CI AW Y As AN) ?_;refine Xr [_] Y (m) Y V (J x.l) ?_;refine A3 Y<|AJ<|AO V results287 Y (by exact ⟨V,V⟩)
theorem kX(m:ps[k]?=some p)(x:AV):(Ao ps).take (0+k*10+5)++Ae [x]++(Ao ps).drop (0+k*10+5+(Ae [x]).length)=Ao (ps.set k ⟨p.l,x⟩):=by
 have J:=(BE.1 m).1;have e:(Ao (ps.take k)).length=k*10:=by rw [BD,C3];omega
 have I:Ao [p]=Ae [p.l]++Ae [p.r]:=rfl;have g:∀r:AV,(Ae [r]).length=5:=fun r=>rfl
 have e1:Ao ps=(Ao (ps.take k)++Ae [p.l])++(Ae [p.r]++Ao (ps.drop (k+1))):=by
  rw [Rs m,I];simp
 have e2:(Ao (ps.take k)++Ae [p.l]).length=0+k*10+5:=by rw [B7,e,g];omega
 rw [e1,HM e2,g,<-ZD,W3 e2,W3 (g p.r),kO,AM J];have G:Ao (ps.take k++⟨p.l,x⟩::ps.drop (k+1))=Ao (ps.take k)++(Ao [⟨p.l,x⟩]++Ao (ps.drop (k+1))):=by
  rw [<-DC,<-DC];rfl
 rw [G,show Ao [⟨p.l,x⟩]=Ae [p.l]++Ae [x] from rfl];simp
theorem QX(G:C8 cur 0 (Ao ps))(U:ps[k]?=some p):cur[0+k*10+5+1]?=some (I4 p.r.k)/\0+k*10+5+5<=cur.size/\cur.extract (0+k*10+5) (0+k*10+5+5)=p.r.A58:=by
 have g:∀j u,j<10->(Ao [p])[j]?=some u->cur[k*10+j]?=some u:=fun j u J m=>by
  have:=G.get (k*10+j) u ((Iz U j J).trans m);rwa [D0]at this
 have K:=g 6 _ AH rfl;have O:=g 9 _ AH rfl
 have W:k*10+9<cur.size:=(HS.1 O).1;refine ⟨by rw [show 0+k*10+5+1=k*10+6 by omega];exact K,by omega,?_⟩;apply HD.1;apply MT;intro j;rw [HH,eM];split
 · rename_i J
   have I:j<5:=by omega
   obtain ⟨u,m⟩:∃u,(Ae [p.r])[j]?=some u:=⟨_,B3 (by rw [BF];simpa using I)⟩;have h2:=g (5+j) u A1 (by
    rw [show Ao [p]=Ae [p.l]++Ae [p.r] from rfl,SM (by rw [BF];simp),BF];rw [show 5+j - [p.l].length*5=j by simp];exact m)
   rw [show 0+k*10+5+j=k*10+(5+j) by omega,h2];exact m.symm
 · rw [Lz]
   show(Ae [p.r]).length<=j;rw [BF];simp only [E3];omega
def Np(c:Chg)(ps:List Bd)(i:Nat):List Bd:=(ps.take i).map (fun p=>if HV c.k p then⟨p.l,⟨c.t,c.k,c.n⟩⟩else p)++ps.drop i
theorem ru(c:Chg)(ps:List Bd)(i:Nat)(hi:i<=ps.length):(Np c ps i).length=ps.length:=by
 unfold Np;simp only [B7,B4,C3,C2];omega
variable{c:Chg}
theorem XI(g:ps[i]?=some p):(Np c ps i)[i]?=some p:=by
 have hi:=(BE.1 g).1;unfold Np;rw [SM (by rw [B4,C3];omega),B4,C3,Pc A1,W4,NO,Pu,g]
theorem Vl(g:ps[i]?=some p):Np c ps (i+1)=(Np c ps i).set i (if HV c.k p then⟨p.l,⟨c.t,c.k,c.n⟩⟩else p):=by
 have hi:=(BE.1 g).1;have m:((ps.take i).map (fun p=>if HV c.k p then(⟨p.l,⟨c.t,c.k,c.n⟩⟩:Bd)else p)).length=i:=by rw [B4,C3];omega
 unfold Np;rw [Bi g,BW,ki (h:=by omega),m,W4];obtain ⟨_,rfl⟩:=BE.1 g;rw [RK hi,List.set_cons_zero];simp
theorem ou(g:ps[i]?=some p):ps.set i p=ps:=by
 obtain ⟨hi,rfl⟩:=BE.1 g;exact List.set_getElem_self hi
theorem zo(g:Nat)(us:List Value)(I:AV->Bool)(G:∀(args:Array Value) (w:World),(callFunc g args).run prog w= .ok (.enter g args) w)(J:∀x:AV,BH prog g (.agg x.A58::us).toArray [B] (.bool (I x)))(m:Nat)(x:Bd):BH prog 287 (.agg #[I4 x.l.t,I4 x.l.k,I4 x.l.v.a,I4 x.l.v.b,I4 x.l.v.c,I4 x.r.t,I4 x.r.k,I4 x.r.v.a,I4 x.r.v.b,I4 x.r.v.c]::([I5 m]:List Value)).toArray [[(m,.cells #[.func (.func g) #[] us.toArray] 240 (0,0))]++B] (.bool (I x.l)):=by
 refine Gy (xR g us I G J m x) B0 ?_;rintro r H' ⟨rfl,rfl⟩;exact ⟨_,⟨V,V⟩,by simp⟩
variable{q:QM}
theorem XP{G I:Option Addr}{g:Nat}{f:Bd->Bool}{m:Nat}(h:∀x,BH prog m #[.agg #[I4 x.l.t,I4 x.l.k,I4 x.l.v.a,I4 x.l.v.b,I4 x.l.v.c,I4 x.r.t,I4 x.r.k,I4 x.r.v.a,I4 x.r.v.b,I4 x.r.v.c],I5 g] [[(g,.cells (q.G4 c G I (mQ q (bfQ q c)) (mQ q (afQ q c))) 257 (0,0))]] (.bool (f x)))(x:Bd):BH prog m (.agg #[I4 x.l.t,I4 x.l.k,I4 x.l.v.a,I4 x.l.v.b,I4 x.l.v.c,I4 x.r.t,I4 x.r.k,I4 x.r.v.a,I4 x.r.v.b,I4 x.r.v.c]::([I5 g]:List Value)).toArray [[(g,.cells (q.G4 c G I (mQ q (bfQ q c)) (mQ q (afQ q c))) 257 (0,0))]] (.bool (f x)):=h x
theorem xh(h:c.has=true):EM c c.has c.n=⟨c.t,c.k,c.n⟩:=by unfold EM;rw [AM h]
theorem ry(c:Chg)(ps:List Bd):Np c ps ps.length=ps.map fun p=>if HV c.k p then⟨p.l,⟨c.t,c.k,c.n⟩⟩else p:=by unfold Np;rw [GB,ie,DB]
variable{s2:List AA}
set_option maxHeartbeats 1000000 in
theorem fT(q:QM)(ek:0<=q.cl/\q.cl<=3)(c:Chg)(U p2:Option Addr)(e1:U.isSome=(bfQ q c).isSome)(h2:Il p2 (afQ q c) s2){sl:List AA}(hl:Bc 10 360 v ps.length (Ao ps) sl)(hn:ps.length<=100000000):Ba prog 248 #[.agg (q.G4 c U p2 (mQ q (bfQ q c)) (mQ q (afQ q c))),v] [sl,s2] (fun w H'=>∃v' s',w= .tuple #[v',.bool (jnT q c ps).2]/\Bc 10 360 v' (jnT q c ps).1.length (Ao (jnT q c ps).1) s'/\H'=[s']):=by
 have j5:=mL;obtain ⟨pl,ax,rfl⟩:=hl.form;have hU:=Nc hl A1
 have j3:(ps.filter fun p=>!QH c.k p).length<=ps.length:=On _ _;refine Se func248 ntmps248 [0,1] ?_;intro u R;refine A0<|Ze (Eu Y (cs:=(q.G4 c U p2 (mQ q (bfQ q c)) (mQ q (afQ q c)))) (GA q c U p2 (mQ q (bfQ q c)) (mQ q (afQ q c))))<|AE fun be=>Za Y<|A3 Y<|Zq<|A0<|Zh 7 DA V rfl C1 Y<|Zv (Ar (off:=0) B8 V rfl A4 Y)<|Zl AD Y<|Zh 0 DA V rfl C7 Y<|Zv (Ar (off:=6) CC V rfl A4 Y)<|Zl AD Y<|Zv (CP Y Y)<|A5<|Aq Y (fun K=>?_) (fun K=>?_);·
  refine A0<|Zh 7 DA V rfl C1 Y<|Zo Wh (A9 (cs:=c.A57) Fk C1 Y As AN)<|Xr [_] Y call126 Y V (Ob c) ?_;obtain ⟨y9,cu⟩:∃y,y=EM c c.has c.n:=⟨_,rfl⟩;rw [<-cu];refine Zm Y<|Zd Y V<|Zd Y V<|Ze (Al DS #[_,_,_,_,_])<|AE fun ic=>Xe (Xw AW y9.A58)<|AG Y<|Zn [1,2,6,7] ?_;refine Zx<|Zq<|A0<|Zm Y<|Zv (Br Y)<|A5<|AX Y (fun hh=>?_) (fun hh=>?_);·
   have af:c.has=false:=by simpa using hh
   refine Zq<|Az (n:=8) (0::0::3::0::8::24::7::127::[]) 4 A6 A6 V<|A2 0 V (AP Y)<|A2 1 V (Bg (vs:=[]) (us:=[_]) Y Y)<|A2 3 V (AB (off:=7) DA V rfl C1 Y)<|A2 4 V (Ar (off:=2) B8 V rfl CH Y)<|B2 5 V DM Y<|Zz (l:=[2])<|B1 [true] [(5,(_,_))] V rfl (Zw [_,_] Y call281 Y V (ND (B:=[(be,.cells (q.G4 c U p2 (mQ q (bfQ q c)) (mQ q (afQ q c))) 257 (0,0))]) hU A1 282 [I5 be] (HV c.k) call282 (XP fun x=>xV q c U p2 (mQ q (bfQ q c)) (mQ q (afQ q c)) be x))) ?_ Bv Ai;rintro _ _ ⟨_,⟨s9,h9,rfl⟩,rfl⟩;refine ⟨Zk (Aa),?_⟩;obtain ⟨g9,c9,rfl⟩:=h9.form;refine A2 6 V (Av Y)<|A2 7 V (Av Y)<|Ag<|Zx<|AJ<|Zt<|Zt<|Cv V fk Y Y (by
    have G:jnT q c ps=(ps.filter fun p=>!HV c.k p,c.had):=by unfold jnT;rw [AM K,AK (by rw [af];decide)]
    exact ⟨.slice g9 _ c9,s9,by rw [G],by rw [G];exact h9,rfl⟩)
  have af:c.has=true:=by simpa using hh
  rw [xh af]at cu;refine AC<|Zx<|Zq<|A0<|Zm Y<|Zv (AY G0 Y)<|Zm Y<|A5<|AR<|Zb [35,1,2,6,34] ?_;refine BA (e0:=[(35,_)]) (fun m e H=>∃(i:Nat) (sk:List AA),m=ps.length -i/\(i<=ps.length/\Bc 10 360 (.slice pl ps.length ax) ps.length (Ao (Np c ps i)) sk)/\e=[(35,I4 (i:Int))]/\H=[sk]) (by exact ⟨0,sl,V,⟨C0 _,hl⟩,V,V⟩) Wp ?_;rintro _ _ _ ⟨i,sk,rfl,⟨hi,O⟩,rfl,rfl⟩;refine A0<|Zv (Au Y Y)<|A5<|Zq<|Aq Y (fun Z=>?_) (fun Z=>?_);·
   obtain ⟨p,hp⟩:∃p,ps[i]?=some p:=⟨_,B3 Z⟩;obtain ⟨g,d9,cur,z,bn,rfl,gy,X⟩:=E8 O A1;injection bn with hv1 hv2 hv3
   subst hv1 hv3;obtain ⟨_,W,_,gF,gq⟩:=Jc O;obtain ⟨h6,gB,_⟩:=QX X (XI hp);refine AC<|Zx<|Zq<|AR<|A0<|Zm Y<|A3 Y<|Zq<|Az (n:=10) (0::0::3::7::15::31::0::64::192::511::[]) 0 A6 A6 V<|A2 0 V (AP Y)<|A2 1 V (AP Y)<|A2 2 V (Ac G0 GO Y Y A1)<|A2 3 V (Ar (off:=5) US V rfl AW Y)<|A2 4 V (Ar (off:=1) FF V rfl A4 Y)<|B2 5 V AD Y (hv:=by exact h6)<|A2 6 V (AB (off:=7) DA V rfl C1 Y)<|A2 7 V (Ar (off:=1) B8 V rfl A4 Y)<|B2 8 V AD Y<|A2 9 V (CP Y Y)<|Ag<|Zn [1,2,6,8,34,35,47] ?_;refine Zx<|Aq Y (fun hk=>?_) (fun hk=>?_);·
    have e9:Np c ps (i+1)=(Np c ps i).set i ⟨p.l,y9⟩:=by rw [Vl hp,AM (by unfold HV;simp [hk]),cu]
    have J:=BS (xs':=Ao (Np c ps (i+1))) (ES (i:=0+i*10+5) (ys:=Ae [y9]) O (by rw [BD,BF,E3,ru c ps i hi];omega)) rfl (by rw [e9];exact kX (XI hp) y9);refine Zg<|Zm Y<|Zm Y<|Zo Wh (A9 (cs:=y9.A58) CI AW Y As AN)<|Bb (Ac G0 GO Y Y A1)<|Zv (Ar (off:=5) US rfl rfl AW Y)<|Xe (BL AW Y Y HK Wu (by exact (rfl:_=EL cur (0+i*10+5) (Ae [y9]))) E6 A1 gq)<|Z0<|A8<|Zx<|Zg<|Ya (n:=1) Y Y<|Zm Y<|Z0<|Zn [35,1,2,6,34] ?_;refine Ab (e':=[(35,_)]) (by exact ⟨i+1,_,V,⟨by omega,J⟩,V,V⟩)
   have e9:Np c ps (i+1)=Np c ps i:=by rw [Vl hp,AK (by unfold HV;simp [hk]),ou (XI hp)]
   have J:=O;rw [<-e9]at J;refine AC<|A8<|Zx<|Zg<|Ya (n:=1) Y Y<|Zm Y<|Z0<|Zn [35,1,2,6,34] ?_;refine Ab (e':=[(35,_)]) (by exact ⟨i+1,_,V,⟨by omega,J⟩,V,V⟩)
  have ei:i=ps.length:=by omega
  subst ei;rw [ry]at O;refine Ay<|Zt<|Zt<|AU<|Zx<|Zq<|Az (n:=6) (0::0::2::6::1::31::[]) 0 A6 A6 V<|A2 0 V (AP Y)<|A2 1 V (AB (off:=7) DA V rfl C1 Y)<|A2 2 V (Ar (off:=2) B8 V rfl CH Y)<|B2 3 V DM Y<|A2 4 V (Av Y)<|A2 5 V (Av Y)<|Ag<|Zx<|AJ<|Zt<|Cv V fk Y Y (by
   have G:jnT q c ps=(ps.map fun p=>if HV c.k p then⟨p.l,⟨c.t,c.k,c.n⟩⟩else p,c.had):=by unfold jnT;rw [AM K,AM af]
   exact ⟨.slice pl ps.length ax,sk,by rw [G],by rw [G];exact BS O (B4 _).symm rfl,rfl⟩)
 refine AC<|Zx<|A0<|Zm Y<|Zv (Bg (vs:=[]) (us:=[_]) Y Y)<|Zc [_,_] Y call281 Y V (ND (B:=[(be,.cells (q.G4 c U p2 (mQ q (bfQ q c)) (mQ q (afQ q c))) 257 (0,0))]) hU A1 283 [I5 be] (QH c.k) call283 (XP fun x=>xU q c U p2 (mQ q (bfQ q c)) (mQ q (afQ q c)) be x)) ?_;rintro _ _ ⟨_,⟨s9,h9,rfl⟩,rfl⟩;obtain ⟨g9,c9,rfl⟩:=h9.form;refine AG Y<|Zn [1,2,9] ?_;refine Zx<|Zq<|A0<|Zh 18 DA V rfl JT Y<|Zl Mp Y<|Zv (Nl S4 Y Y)<|A5<|AX Y (fun bg=>?_) (fun bg=>?_);·
  have hy:afQ q c=none:=by have h8:=h2.some_;cases I:afQ q c with|none=>rfl|some y=>(rw [I]at h8;cases p2<;>simp at bg h8)
  refine A0<|Zm Y<|Za Y<|A3 Y<|AJ<|Zt<|Cv V fk Y Y (by
   have G:jnT q c ps=(ps.filter fun p=>!QH c.k p,true):=by unfold jnT;rw [AK K,hy]
   exact ⟨.slice g9 _ c9,s9,by rw [G],by rw [G];exact h9,rfl⟩)
 obtain ⟨y,hy⟩:∃y,afQ q c=some y:=gi.1 (by rw [<-h2.some_];cases p2<;>simp at bg⊢);rw [hy]at h2;obtain ⟨b2,rfl,rfl⟩:=h2;refine AC<|Zx<|A0<|Zm Y<|Zv (Bg (vs:=[]) (us:=[_]) Y Y)<|Xr [_,_] Y call284 Y V (M9 (B:=[(be,.cells #[I4 q.kd,I4 q.tb,I4 q.cl,I4 q.lo,I4 q.hi,I4 q.bq,I4 q.ot,I4 c.t,I4 c.k,.bool c.had,I4 c.o.a,I4 c.o.b,I4 c.o.c,.bool c.has,I4 c.n.a,I4 c.n.b,I4 c.n.c,.pointer U,I5 b2,I4 (mQ q (bfQ q c)),I4 (mQ q (afQ q c))] 257 (0,0))]) hU 285 [I5 be] (HV (mQ q (afQ q c))) call285 (XP fun x=>xS q c U (some ⟨b2,0,none⟩) (mQ q (bfQ q c)) (mQ q (afQ q c)) be x)) ?_;have W:=Td (HV (mQ q (afQ q c))) ps
 obtain ⟨z9,cO⟩:∃z,z=Gv (HV (mQ q (afQ q c))) ps:=⟨_,rfl⟩;rw [<-cO]at W⊢;refine A3 Y<|Zq<|A0<|Zm Y<|Zv (Dv Y Y)<|A5<|Aq Y (fun Z=>?_) (fun Z=>?_);·
  have G:jnT q c ps=(ps.filter fun p=>!QH c.k p,(bfQ q c).isSome&&decide (mQ q (bfQ q c)=mQ q (afQ q c))):=by unfold jnT;rw [AK K];split;rename_i I;rw [hy]at I;cases I;rw [AM (by rw [<-cO];exact Z)]
  refine Zq<|Az (n:=13) (0::0::2::6::14::30::62::30::158::510::1022::31::4095::[]) 0 A6 A6 V<|A2 0 V (AP Y)<|A2 1 V (AB (off:=17) DA V rfl JT Y)<|B2 2 V Mp Y<|A2 3 V (Er S4 Y Y)<|A2 4 V (AP Y)<|CU (t:=74) Y (fun h1=>?_) (fun h1=>?_);·
   rw [h1];refine An 5 V (AB (off:=19) DA V rfl A4 Y)<|DH 6 V Wh (BP AD Y AN)<|An 7 V (AB (off:=20) DA V rfl A4 Y)<|DH 8 V Wh (BP AD Y AN)<|An 9 V (CP Y Y)<|A2 10 V (AQ Y Y)<|A2 11 V (Av Y)<|A2 12 V (Av Y)<|Ag<|Zn [4,5] ?_;refine Zx<|AJ<|Zt<|Cv rfl fk Y Y (by exact ⟨.slice g9 _ c9,s9,by rw [G,<-e1,h1];rfl,by rw [G];exact h9,rfl⟩)
  rw [h1];refine AF 5 V<|AF 6 V<|AF 7 V<|AF 8 V<|AF 9 V<|A2 10 V (AL Y Y)<|A2 11 V (Av Y)<|A2 12 V (Av Y)<|Ag<|Zn [4,5] ?_;refine Zx<|AJ<|Zt<|Cv rfl fk Y Y (by exact ⟨.slice g9 _ c9,s9,by rw [G,<-e1,h1];rfl,by rw [G];exact h9,rfl⟩)
 rcases W with⟨I,_⟩|⟨k,p,I,hp,_,_⟩
 · exact absurd I A1
 subst I;have G:jnT q c ps=((PE (fun p=>KR q y p.l) (ps.filter fun p=>!QH c.k p) ⟨y,p.r⟩),true):=by
  unfold jnT;rw [AK K];split;· rename_i I;rw [hy]at I;cases I
  · rename_i y0 I;rw [hy]at I;injection I with I;subst I;rw [<-cO,AK A1,W0,My,hp];rfl
 have hk:=(BE.1 hp).1;obtain ⟨g,d9,cur,z,bn,rfl,gy,X⟩:=E8 hl A1;injection bn with hv1 hv2 hv3
 subst hv1 hv3;obtain ⟨_,gB,gm⟩:=QX X hp;refine AC<|Zx<|A0<|Zo Wh (A9 cP Wf Y As (BK V))<|Zc [_] Y call246 Y V (Qw q ek c U (mQ q (bfQ q c)) (mQ q (afQ q c)) y b2) ?_;rintro _ _ ⟨_,⟨b8,b9,rfl,rfl⟩,rfl⟩;refine Ze (Al zeroValue240 #[_])<|AE fun bb=>Xe (Zs sizeOf240 Y Y V (hc:=by exact (V:_=(#[.func (.func 280) #[] ([I5 b8,I5 b9]:List Value).toArray]:Array Value))) (hi:=by decide))<|Z0<|Zn [1,2,9,10,11] ?_;refine Zx<|Zq<|CK (s1:=[(bb,_)]) (s2:=_++_++[(b2,_)]) Wo Wo ?_;refine Az (n:=15) (0::0::2::6::14::0::0::96::224::480::1022::0::4095::8191::16383::[]) 4096 A6 A6 V<|A2 0 V (AP Y)<|A2 1 V (AB (off:=18) DA V rfl JT Y)<|B2 2 V Mp Y<|A2 3 V (Ap Y V)<|CQ (b:=b2) (x:= .cells y.A58 71 (0,0)) (D':=31) 4 V rfl V B0 (Pa y.A58 CI AW Y) ?_;refine A2 5 V (AP Y)<|A2 6 V (AP Y)<|A2 7 V (Ac G0 GO Y Y A1)<|A2 8 V (Ar (off:=5) US V rfl AW Y)<|E7 9 V Wh (A9 (cs:=p.r.A58) CI AW Y A1 gm)<|A2 10 V (BM (vs:=[(0,.agg y.A58),(1,.agg p.r.A58)]) (cs:=#[I4 y.t,I4 y.k,I4 y.v.a,I4 y.v.b,I4 y.v.c,I4 p.r.t,I4 p.r.k,I4 p.r.v.a,I4 p.r.v.b,I4 p.r.v.c]) Y (AZ (pl:=#[(0,5),(5,5)]) fg US (fun _=>by kernel_rfl) A6))<|A2 11 V (Bg (vs:=[]) (us:=[_]) Y Y)<|Zz (l:=[12])<|B1 [false,false,false] [] V rfl (Zw [_,_,_] Y call286 Y V (TY h9 A1 ⟨y,p.r⟩ 287 [I5 bb] (fun p=>KR q y p.l) call287 (fun x=>zo 280 ([I5 b8,I5 b9]:List Value) (KR q y) call280 (fun x=>az q ek c U (mQ q (bfQ q c)) (mQ q (afQ q c)) y b2 b8 b9 x) bb x))) ?_ Bv Ai;rintro _ _ ⟨_,⟨s5,s6,h5,rfl⟩,rfl⟩;refine ⟨Aa,?_⟩;obtain ⟨g5,c5,rfl⟩:=h5.form;refine A2 13 V (Av Y)<|A2 14 V (Av Y)<|Ag<|Zn [4,5] ?_;refine Zx<|AJ<|Cv rfl fk Y Y (by exact ⟨.slice g5 _ c5,s5,by rw [G],by rw [G];exact h5,rfl⟩)
theorem dx(q:QM)(c:Chg)(r:CE):(D9 q c r).1.val=r.val:=by unfold D9;split<;>rfl
theorem dz(q:QM)(c:Chg)(r:CE):(D9 q c r).1.rows.length<=r.rows.length+2:=by
 unfold D9;split;· exact ef _ _
 · show(DV _).length<=_
   have h:=jL q c (Ey r.rows);rw [KE]at h;rw [II];omega
theorem jS{rs:List AV}{x:AV}(g:C8 cur 0 (Ae rs))(hx:rs[k]?=some x):k*5+5<=cur.size/\cur.extract (0+k*5) (0+k*5+5)=x.A58:=aO g hx
theorem uL(g:C8 cur 0 (Ao rs))(hx:rs[k]?=some x):k*10+10<=cur.size/\cur.extract (0+k*10) (0+k*10+10)=#[I4 x.l.t,I4 x.l.k,I4 x.l.v.a,I4 x.l.v.b,I4 x.l.v.c,I4 x.r.t,I4 x.r.k,I4 x.r.v.a,I4 x.r.v.b,I4 x.r.v.c]:=Vz g hx
variable{r:CE}{rv:Value}
set_option maxHeartbeats 1000000 in
theorem dX(q:QM)(j3:0<=q.cl/\q.cl<=3)(c:Chg)(p1 p2:Option Addr)(e1:p1.isSome=(bfQ q c).isSome)(h2:Il p2 (afQ q c) s2){sr:List AA}(hr:Bc 5 71 rv r.rows.length (Ae r.rows) sr)(hn:r.rows.length<=100000000):Ba prog 208 #[.agg (q.G4 c p1 p2 (mQ q (bfQ q c)) (mQ q (afQ q c))),.agg #[rv,I4 r.val,.bool r.fnd]] [sr,s2] (fun w H'=>∃gB s',w= .tuple #[.agg #[gB,I4 (D9 q c r).1.val,.bool (D9 q c r).1.fnd],.bool (D9 q c r).2]/\Bc 5 71 gB (D9 q c r).1.rows.length (Ae (D9 q c r).1.rows) s'/\H'=[s']):=by
 have lw:=mL;obtain ⟨pv,cv,rfl⟩:=hr.form;refine Se func208 ntmps208 [0,1] ?_;intro u R;refine A0<|Ze (Eu Y (cs:=(q.G4 c p1 p2 (mQ q (bfQ q c)) (mQ q (afQ q c)))) (GA q c p1 p2 (mQ q (bfQ q c)) (mQ q (afQ q c))))<|AE fun be=>Ze (Bx #[.slice pv r.rows.length cv,I4 r.val,.bool r.fnd])<|AE fun br=>Ze (Al GC #[_,_,_])<|AE fun bo=>A3 Y<|Zq<|A0<|Zh 0 DA V rfl C7 Y<|Zv (Ar (off:=1) CC V rfl A4 Y)<|Zl AD Y ?_;refine Zh 0 DA V rfl C7 Y<|Zv (Ar (off:=6) CC V rfl A4 Y)<|Zl AD Y ?_;refine Zv (CP Y Y)<|A5<|Aq Y (fun X=>?_) (fun X=>?_);·
  refine A0<|Zo Wh (A9 (cs:=#[_,_,_]) Bk Ax Y As AN) ?_;refine Xe (Xw Ax _) ?_;refine AG Y<|Zn [4,5] ?_;refine Zx<|AJ<|Zt<|Bj V results208 Y Wh (Am Bk Ax Wn (V)) Y (by
   have e8:D9 q c r=(r,false):=by unfold D9;rw [AM X]
   exact ⟨.slice pv r.rows.length cv,sr,by rw [e8];rfl,by rw [e8];exact hr,rfl⟩)
 refine AC<|Zx<|A0<|A3 Y<|Zq<|Zq<|BU<|Zg<|AG Y<|Zn [2,3,4,6,7] ?_;refine Zx<|AR<|Zb [6,7,2,3,4] ?_;refine BA (e0:=[(6,_),(7,_)]) (fun m e H=>∃(k:Nat) (K:Option Addr) (ck:Nat) (W:List AA),m=r.rows.length -k/\(k<=r.rows.length/2/\Bc 10 360 (.slice K k ck) k (Ao ((Ey r.rows).take k)) W)/\e=[(6,.slice K k ck),(7,I4 ((2*k:Nat):Int))]/\H=[W]) (by exact ⟨0,none,0,[],V,⟨C0 _,Bf 10 _⟩,V,V⟩) Wp ?_;rintro _ _ _ ⟨k,K,ck,W,rfl,⟨hk,I⟩,rfl,rfl⟩;refine Zq<|Zq<|BU<|Zg<|Zm Y<|Ya (n:=1) Y Y<|Zh 0 CD V rfl C6 Y<|Zl F1 Y ?_;refine Zv (AY B5 Y)<|Zv (Au Y Y)<|A5<|Aq Y (fun J=>?_) (fun J=>?_);·
  obtain ⟨x,hx⟩:∃x,r.rows[2*k]?=some x:=⟨_,B3 A1⟩;obtain ⟨y,hy⟩:∃y,r.rows[2*k+1]?=some y:=⟨_,B3 A1⟩;obtain ⟨g,af,cur,z,Z,rfl,gm,G⟩:=E8 hr A1;injection Z with hv1 hv2 hv3
  subst hv1 hv3;obtain ⟨l8,cO⟩:=jS G hx;obtain ⟨l9,d9⟩:=jS G hy;refine AC<|Zx<|Zq<|AR<|Az (n:=16) (0::0::2::0::14::30::0::64::0::256::960::1984::4094::8190::16383::32767::[]) 24576 A6 A6 V<|A2 0 V (AP Y)<|A2 1 V (AB (off:=0) CD V rfl C6 Y)<|B2 2 V F1 Y ?_;refine A2 3 V (AP Y)<|A2 4 V (Ac B5 AW Y Y A1)<|E7 5 V Wh (A9 (cs:=#[_,_,_,_,_]) CI AW Y A1 cO) ?_;refine A2 6 V (AB (off:=0) CD V rfl C6 Y)<|B2 7 V F1 Y ?_;refine A2 8 V (AP Y)<|A2 9 V (EC (n:=1) Y Y A1)<|A2 10 V (Ac B5 AW Y Y A1)<|E7 11 V Wh (A9 (cs:=#[_,_,_,_,_]) CI AW Y A1 d9) ?_;refine A2 12 V (BM (vs:=[(0,.agg x.A58),(1,.agg y.A58)]) (cs:=#[I4 x.t,I4 x.k,I4 x.v.a,I4 x.v.b,I4 x.v.c,I4 y.t,I4 y.k,I4 y.v.a,I4 y.v.b,I4 y.v.c]) Y (AZ (pl:=#[(0,5),(5,5)]) fg US (fun _=>by kernel_rfl) A6))<|Yw 13 16383 V (Ah (vs:=[_]) (cs:=[_,_,_,_,_,_,_,_,_,_]) G0 GO fg Y V rfl V rfl V)<|AE fun gp=>Yw 14 32767 V (BR (by_:=80) (sz:=10) G0 (V:Tryz.prog.info? 360=some Tryz.t360) V rfl V rfl Y (I) Y (D8 10 gp 1 1 360 (0,0) (Ao [⟨x,y⟩]) V) Wo Wo (by exact Em _) A1 A1) ?_;rintro _ _ ⟨j5,O,rfl⟩;obtain ⟨ic,gF,rfl⟩:=O.form;refine A2 15 V (Av Y)<|Ag<|Zn [2,3,4,6,7] ?_;refine A8<|Zx<|BU<|Zg<|Zm Y<|Ya (n:=2) Y Y<|AG Y<|Zn [6,7,2,3,4] ?_;refine Ab (e':=[(6,_),(7,_)]) (by exact ⟨k+1,ic,gF,j5,rfl,⟨by omega,BS O rfl (by rw [Bi (qY hx hy),DC])⟩,rfl,rfl⟩)
 have ek:k=(Ey r.rows).length:=by rw [KE];omega
 have gy:=BS I ek (by rw [ek,GB]);refine Ay<|Zt<|Zt<|AU<|Zx<|A0<|Zo Wh (A9 cP Wf Y As (BK V)) ?_;refine Zm Y<|Zc [_,_] Y call248 Y rfl (fT q j3 c p1 p2 e1 h2 gy (by rw [KE];omega)) ?_;rintro _ _ ⟨_,⟨lv,s5,rfl,h5,rfl⟩,rfl⟩;have e8:D9 q c r=(⟨DV (jnT q c (Ey r.rows)).1,r.val,r.fnd⟩,(jnT q c (Ey r.rows)).2):=by unfold D9;rw [AK X]
 have bn:=jL q c (Ey r.rows);rw [KE]at bn;obtain ⟨L,hL⟩:∃L,L=(jnT q c (Ey r.rows)).1:=⟨_,rfl⟩;rw [<-hL]at h5 e8 bn;obtain ⟨g5,c5,rfl⟩:=h5.form;refine Zm Y<|Zd Y V<|Zd Y V<|Za Y<|AG Y<|Zn [3,4,6,8] ?_;refine Zx<|A0<|Zh 0 CD V rfl C6 Y<|Xe (Zs C6 Y Y V (hc:=by exact (V:_=(#[.slice none 0 0,I4 r.val,.bool r.fnd]:Array Value))) (hi:=by(simp;done))) ?_;refine A5<|Zq<|Zq<|BU<|Zg<|Zm Y<|Zv (AY G0 Y)<|Zm Y<|A5<|AR<|Zb [51,3,4,8,49,50] ?_;refine BA (e0:=[(51,_)]) (fun m e H=>∃(k:Nat) (K:Option Addr) (ck:Nat) (W:List AA),m=L.length -k/\(k<=L.length/\Bc 5 71 (.slice K (2*k) ck) (2*k) (Ae (DV (L.take k))) W)/\e=[(51,I4 (k:Int))]/\H=[[(br,.cells #[.slice K (2*k) ck,I4 r.val,.bool r.fnd] 53 (0,0))],W]) (by exact ⟨0,none,0,[],V,⟨C0 _,Bf 5 _⟩,V,V⟩) Wp ?_;rintro _ _ _ ⟨k,K,ck,W,rfl,⟨hk,I⟩,rfl,rfl⟩;refine Zq<|BU<|Zg<|Zv (Au Y Y)<|A5<|Zq<|Aq Y (fun J=>?_) (fun J=>?_);·
  obtain ⟨p,hp⟩:∃p,L[k]?=some p:=⟨_,B3 J⟩;obtain ⟨g,af,cur,z,Z,rfl,gm,G⟩:=E8 h5 A1;injection Z with hv1 hv2 hv3
  subst hv1 hv3;obtain ⟨l5,cu⟩:=uL G hp;refine AC<|Zx<|Zq<|AR<|Zq<|BU<|Zg<|Bb (Ac G0 GO Y Y A1)<|Zo Wh (A9 (cs:=#[_,_,_,_,_,_,_,_,_,_]) isAgg360 GO Y A1 cu) ?_;refine Ze (Al fg #[_,_,_,_,_,_,_,_,_,_])<|AE fun bp=>Xe (Xw GO #[I4 p.l.t,I4 p.l.k,I4 p.l.v.a,I4 p.l.v.b,I4 p.l.v.c,I4 p.r.t,I4 p.r.k,I4 p.r.v.a,I4 p.r.v.b,I4 p.r.v.c]) ?_;refine A5<|Zg<|Zh 0 CD V rfl C6 Y<|Zl F1 Y ?_;refine Zh 0 US V rfl AW Y<|Zo Wh (A9 (cs:=#[_,_,_,_,_]) CI AW Y As AN) ?_;refine Zh 5 US V rfl AW Y<|Zo Wh (A9 (cs:=#[_,_,_,_,_]) CI AW Y As AN) ?_;refine Ze (Ah (vs:=[_,_]) (cs:=[_,_,_,_,_,_,_,_,_,_]) B5 AW DS Y V rfl V rfl V)<|AE fun gq=>Ze (BR (by_:=40) (sz:=5) B5 (V:Tryz.prog.info? 71=some Tryz.t71) V rfl V rfl Y (I) Y (D8 5 gq 2 2 71 (0,0) (Ae [p.l,p.r]) V) Wo Wo (by exact CV _) A1 A1) ?_;rintro _ _ ⟨kv,U,rfl⟩;obtain ⟨bg,ax,rfl⟩:=U.form;refine Zh 0 CD V rfl C6 Y<|Xe (Zs C6 Y Y V (hc:=by exact (V:_=(#[.slice bg (2*k+2) ax,I4 r.val,.bool r.fnd]:Array Value))) (hi:=by(simp;done))) ?_;refine Z0<|Zn [3,4,8,49,50,51] ?_;refine A8<|Zx<|BU<|Zg<|Ya (n:=1) Y Y<|Zm Y<|Z0<|Zn [51,3,4,8,49,50] ?_;refine Ab (e':=[(51,_)]) (by exact ⟨k+1,bg,ax,kv,rfl,⟨by omega,BS U rfl (by rw [SK hp,Bh])⟩,rfl,rfl⟩)
 have ek:k=L.length:=by omega
 subst ek;rw [GB]at I;refine Ay<|Zt<|Zt<|AU<|Zx<|A0<|Zo Wh (A9 (cs:=#[_,_,_]) Bk Ax Y As AN) ?_;refine Zm Y<|Xe (Xw Ax _) ?_;refine A3 Y<|AJ<|Bj rfl results208 Y Wh (Am Bk Ax Wn (rfl)) Y (by exact ⟨.slice K (2*L.length) ck,W,by rw [e8];rfl,by rw [e8];exact BS I (II L).symm rfl,rfl⟩)
def Bu(q:QM)(c:Chg)(r:CE):CE×Bool:=
 if q.kd=1\/q.kd=2 then(⟨EA q c r.rows,r.val,r.fnd⟩,true)
 else if q.kd=3 then(⟨r.rows,if(afQ q c).isSome then r.val+1 else r.val -1,r.fnd⟩,true)
 else if q.kd=4 then(⟨r.rows,r.val+(mQ q (afQ q c) -mQ q (bfQ q c)),r.fnd⟩,true)
 else if q.kd=5 then Gc (fun a b=>decide (a<b)) (bfQ q c).isSome (afQ q c).isSome (mQ q (bfQ q c)) (mQ q (afQ q c)) r
 else if q.kd=6 then Gc (fun a b=>decide (b<a)) (bfQ q c).isSome (afQ q c).isSome (mQ q (bfQ q c)) (mQ q (afQ q c)) r
 else D9 q c r
theorem dw(q:QM)(c:Chg)(r:CE):(Bu q c r).1.rows.length<=r.rows.length+2:=by
 have h:=UT q c r.rows;unfold Bu;split;· exact MY h (Nat.le_succ _)
 · split
   · exact ef _ _
   · split
     · exact ef _ _
     · split
       · rw [Ms];exact ef _ _
       · split
         · rw [Ms];exact ef _ _
         · exact dz q c r
set_option maxHeartbeats 1000000 in
theorem VU(q:QM)(c:Chg)(I J:Option Addr)(o n:Int)(r:CE)(pv:Option Addr)(Z O b G:Nat)(lt:Int->Int->Bool)(g:∀(args:Array Value) (w:World),(callFunc G args).run prog w= .ok (.enter G args) w)(m:∀x y:Int,BH prog G #[I4 x,I4 y] [] (.bool (lt x y))):BH prog 247 #[.agg (q.G4 c I J o n),.agg #[.slice pv Z O,I4 r.val,.bool r.fnd],I5 b] [[(b,.cells #[.func (.func G) #[] #[]] 222 (0,0))]] (.tuple #[.agg #[.slice pv Z O,I4 (Gc lt I.isSome J.isSome o n r).1.val,.bool (Gc lt I.isSome J.isSome o n r).1.fnd],.bool (Gc lt I.isSome J.isSome o n r).2]):=by
 refine Se func247 ntmps247 [0,1,2] ?_;intro u R;refine A0<|Ze (Eu Y (cs:=(q.G4 c I J o n)) (GA q c I J o n))<|AE fun be=>Ze (Bx #[.slice pv Z O,I4 r.val,.bool r.fnd])<|AE fun br=>Ze (Al GC #[_,_,_])<|AE fun b3=>A3 Y<|Zq<|A0<|Zh 17 DA V rfl JT Y<|Zl Mp Y ?_;refine Zv (Er S4 Y Y)<|Zm Y<|Af (t:=11) Y V (fun h1=>?_) (fun h1=>?_);·
  refine Yf 2 CD V rfl CH Y<|Yl DM Y ?_;refine Yg (Br Y)<|Zf Y Y ?_;refine Af (t:=15) Y V (fun h2=>?_) (fun h2=>?_);·
   refine A7 Y V<|A7 Y V<|A7 Y V<|A7 Y V<|A7 Y V<|A7 Y V<|A7 Y V<|Yg (AQ Y Y)<|Zv (AQ Y Y)<|Z0<|Zn [2,3,4,5,24] ?_;refine Zx<|CW Y<|A0<|Zh 18 DA V rfl JT Y<|Zl Mp Y ?_;refine Zv (Er S4 Y Y)<|Zm Y<|Af (t:=28) Y V (fun h4=>?_) (fun h4=>?_);·
    refine Yf 2 CD V rfl CH Y<|Yl DM Y ?_;refine Zv (AQ Y Y)<|Zm Y<|Af (t:=32) Y V (fun K=>?_) (fun K=>?_);·
     refine Yl isAgg222 Y ?_;refine Yf 1 CD V rfl A4 Y<|Yl AD Y ?_;refine Yf 20 DA V rfl A4 Y<|Yl AD Y ?_;refine Xr [_,_] Y (g) Y V (m (r.val) (n)) ?_;refine Yg (Br Y)<|Zv (AQ Y Y)<|AG Y<|Zn [3,4,5,7] ?_;refine Zx<|A0<|Zh 20 DA V rfl A4 Y<|Zl AD Y ?_;refine Zh 1 CD V rfl A4 Y<|Xe (Zs A4 Y Y V (hi:=by(simp;done))) ?_;refine A5<|A0<|Zo Wh (A9 (cs:=#[_,_,_]) Bk Ax Y As AN) ?_;refine Zm Y<|Xe (Xw Ax _) ?_;refine A3 Y<|AJ<|Zt<|Bj V R0 Y Wh (Am Bk Ax Wn (V)) Y (by
      refine ⟨?_,V⟩;unfold Gc;simp_all<;>rfl)
    refine A7 Y V<|A7 Y V<|A7 Y V<|A7 Y V<|A7 Y V<|A7 Y V<|A7 Y V<|Zv (AL Y Y)<|AG Y<|Zn [3,4,5,7] ?_;refine Zx<|A0<|Zh 20 DA V rfl A4 Y<|Zl AD Y ?_;refine Zh 1 CD V rfl A4 Y<|Xe (Zs A4 Y Y V (hi:=by(simp;done))) ?_;refine A5<|A0<|Zo Wh (A9 (cs:=#[_,_,_]) Bk Ax Y As AN) ?_;refine Zm Y<|Xe (Xw Ax _) ?_;refine A3 Y<|AJ<|Zt<|Bj V R0 Y Wh (Am Bk Ax Wn (V)) Y (by
     refine ⟨?_,V⟩;unfold Gc;simp_all<;>rfl)
   refine A7 Y V<|A7 Y V<|Zv (AL Y Y)<|Zm Y<|A7 Y V<|A7 Y V<|A7 Y V<|A7 Y V<|A7 Y V<|A7 Y V<|A7 Y V<|Zv (AL Y Y)<|AG Y<|Zn [3,4,5,7] ?_;refine Zx<|A0<|Zh 20 DA V rfl A4 Y<|Zl AD Y ?_;refine Zh 1 CD V rfl A4 Y<|Xe (Zs A4 Y Y V (hi:=by(simp;done))) ?_;refine A5<|A0<|Zo Wh (A9 (cs:=#[_,_,_]) Bk Ax Y As AN) ?_;refine Zm Y<|Xe (Xw Ax _) ?_;refine A3 Y<|AJ<|Zt<|Bj V R0 Y Wh (Am Bk Ax Wn (V)) Y (by
    refine ⟨?_,V⟩;unfold Gc;simp_all<;>rfl)
  refine Yl isAgg222 Y ?_;refine Yf 1 CD V rfl A4 Y<|Yl AD Y ?_;refine Yf 19 DA V rfl A4 Y<|Yl AD Y ?_;refine Xr [_,_] Y (g) Y V (m (r.val) (o)) ?_;refine Yg (Br Y)<|Yg (AL Y Y)<|Zv (AQ Y Y)<|Z0<|Zn [2,3,4,5,24] ?_;refine Zx<|AX Y (fun h3=>?_) (fun h3=>?_);·
   refine A0<|Zh 18 DA V rfl JT Y<|Zl Mp Y ?_;refine Zv (Er S4 Y Y)<|Zm Y<|Af (t:=28) Y V (fun K=>?_) (fun K=>?_);·
    refine Yf 2 CD V rfl CH Y<|Yl DM Y ?_;refine Zv (AQ Y Y)<|Zm Y<|Af (t:=32) Y V (fun K=>?_) (fun K=>?_);·
     refine Yl isAgg222 Y ?_;refine Yf 1 CD V rfl A4 Y<|Yl AD Y ?_;refine Yf 20 DA V rfl A4 Y<|Yl AD Y ?_;refine Xr [_,_] Y (g) Y V (m (r.val) (n)) ?_;refine Yg (Br Y)<|Zv (AQ Y Y)<|AG Y<|Zn [3,4,5,7] ?_;refine Zx<|A0<|Zh 20 DA V rfl A4 Y<|Zl AD Y ?_;refine Zh 1 CD V rfl A4 Y<|Xe (Zs A4 Y Y V (hi:=by(simp;done))) ?_;refine A5<|A0<|Zo Wh (A9 (cs:=#[_,_,_]) Bk Ax Y As AN) ?_;refine Zm Y<|Xe (Xw Ax _) ?_;refine A3 Y<|AJ<|Zt<|Bj V R0 Y Wh (Am Bk Ax Wn (V)) Y (by
      refine ⟨?_,V⟩;unfold Gc;simp_all<;>rfl)
    refine A7 Y V<|A7 Y V<|A7 Y V<|A7 Y V<|A7 Y V<|A7 Y V<|A7 Y V<|Zv (AL Y Y)<|AG Y<|Zn [3,4,5,7] ?_;refine Zx<|A0<|Zh 20 DA V rfl A4 Y<|Zl AD Y ?_;refine Zh 1 CD V rfl A4 Y<|Xe (Zs A4 Y Y V (hi:=by(simp;done))) ?_;refine A5<|A0<|Zo Wh (A9 (cs:=#[_,_,_]) Bk Ax Y As AN) ?_;refine Zm Y<|Xe (Xw Ax _) ?_;refine A3 Y<|AJ<|Zt<|Bj V R0 Y Wh (Am Bk Ax Wn (V)) Y (by
     refine ⟨?_,V⟩;unfold Gc;simp_all<;>rfl)
   refine A7 Y V<|A7 Y V<|Zv (AL Y Y)<|Zm Y<|A7 Y V<|A7 Y V<|A7 Y V<|A7 Y V<|A7 Y V<|A7 Y V<|A7 Y V<|Zv (AL Y Y)<|AG Y<|Zn [3,4,5,7] ?_;refine Zx<|A0<|Zh 20 DA V rfl A4 Y<|Zl AD Y ?_;refine Zh 1 CD V rfl A4 Y<|Xe (Zs A4 Y Y V (hi:=by(simp;done))) ?_;refine A5<|A0<|Zo Wh (A9 (cs:=#[_,_,_]) Bk Ax Y As AN) ?_;refine Zm Y<|Xe (Xw Ax _) ?_;refine A3 Y<|AJ<|Zt<|Bj V R0 Y Wh (Am Bk Ax Wn (V)) Y (by
    refine ⟨?_,V⟩;unfold Gc;simp_all<;>rfl)
  refine AC<|Zx<|Zq<|A0<|Zh 18 DA V rfl JT Y<|Zl Mp Y ?_;refine Zv (Er S4 Y Y)<|A5<|AX Y (fun U=>?_) (fun U=>?_);·
   refine Zq<|A0<|Zh 2 CD V rfl CH Y<|Zl DM Y ?_;refine Zv (Br Y)<|Zm Y<|Af (t:=52) Y V (fun W=>?_) (fun W=>?_);·
    refine A7 Y V<|A7 Y V<|A7 Y V<|A7 Y V<|A7 Y V<|A7 Y V<|Zv (AQ Y Y)<|Z0<|Zn [3,4,5,59] ?_;refine Zx<|CW Y<|Zg<|Zh 20 DA V rfl A4 Y<|Zl AD Y ?_;refine Zh 1 CD V rfl A4 Y<|Xe (Zs A4 Y Y V (hi:=by(simp;done))) ?_;refine A5<|Zg<|Zh 2 CD V rfl CH Y<|Xe (Zs CH Y Y V (hi:=by(simp;done))) ?_;refine A5<|A0<|Zo Wh (A9 (cs:=#[_,_,_]) Bk Ax Y As AN) ?_;refine Xe (Xw Ax _) ?_;refine A3 Y<|AJ<|Bj V R0 Y Wh (Am Bk Ax Wn (V)) Y (by
     refine ⟨?_,V⟩;unfold Gc;simp_all<;>rfl)
   refine Yl isAgg222 Y ?_;refine Yf 20 DA V rfl A4 Y<|Yl AD Y ?_;refine Yf 1 CD V rfl A4 Y<|Yl AD Y ?_;refine Xr [_,_] Y (g) Y V (m (n) (r.val)) ?_;refine Zv (AL Y Y)<|Z0<|Zn [3,4,5,59] ?_;refine Zx<|AX Y (fun X=>?_) (fun X=>?_);·
    refine Zg<|Zh 20 DA V rfl A4 Y<|Zl AD Y ?_;refine Zh 1 CD V rfl A4 Y<|Xe (Zs A4 Y Y V (hi:=by(simp;done))) ?_;refine A5<|Zg<|Zh 2 CD V rfl CH Y<|Xe (Zs CH Y Y V (hi:=by(simp;done))) ?_;refine A5<|A0<|Zo Wh (A9 (cs:=#[_,_,_]) Bk Ax Y As AN) ?_;refine Xe (Xw Ax _) ?_;refine A3 Y<|AJ<|Bj V R0 Y Wh (Am Bk Ax Wn (V)) Y (by
     refine ⟨?_,V⟩;unfold Gc;simp_all<;>rfl)
   refine AC<|Zx<|Zg<|Zh 2 CD V rfl CH Y<|Xe (Zs CH Y Y V (hi:=by(simp;done))) ?_;refine A5<|A0<|Zo Wh (A9 (cs:=#[_,_,_]) Bk Ax Y As AN) ?_;refine Xe (Xw Ax _) ?_;refine A3 Y<|AJ<|Bj V R0 Y Wh (Am Bk Ax Wn (V)) Y (by
    refine ⟨?_,V⟩;unfold Gc;simp_all<;>rfl)
  refine AC<|Zx<|A0<|Zo Wh (A9 (cs:=#[_,_,_]) Bk Ax Y As AN) ?_;refine Xe (Xw Ax _) ?_;refine A3 Y<|AJ<|Bj V R0 Y Wh (Am Bk Ax Wn (V)) Y (by
   refine ⟨?_,V⟩;unfold Gc;simp_all<;>rfl)
 refine A7 Y V<|A7 Y V<|A7 Y V<|A7 Y V<|A7 Y V<|A7 Y V<|A7 Y V<|A7 Y V<|A7 Y V<|A7 Y V<|A7 Y V<|A7 Y V<|Zv (AL Y Y)<|Z0<|Zn [2,3,4,5,24] ?_;refine Zx<|DI Y<|AC<|Zx<|Zq<|A0<|Zh 18 DA V rfl JT Y<|Zl Mp Y ?_;refine Zv (Er S4 Y Y)<|A5<|AX Y (fun U=>?_) (fun U=>?_);·
  refine Zq<|A0<|Zh 2 CD V rfl CH Y<|Zl DM Y ?_;refine Zv (Br Y)<|Zm Y<|Af (t:=52) Y V (fun W=>?_) (fun W=>?_);·
   refine A7 Y V<|A7 Y V<|A7 Y V<|A7 Y V<|A7 Y V<|A7 Y V<|Zv (AQ Y Y)<|Z0<|Zn [3,4,5,59] ?_;refine Zx<|CW Y<|Zg<|Zh 20 DA V rfl A4 Y<|Zl AD Y ?_;refine Zh 1 CD V rfl A4 Y<|Xe (Zs A4 Y Y V (hi:=by(simp;done))) ?_;refine A5<|Zg<|Zh 2 CD V rfl CH Y<|Xe (Zs CH Y Y V (hi:=by(simp;done))) ?_;refine A5<|A0<|Zo Wh (A9 (cs:=#[_,_,_]) Bk Ax Y As AN) ?_;refine Xe (Xw Ax _) ?_;refine A3 Y<|AJ<|Bj V R0 Y Wh (Am Bk Ax Wn (V)) Y (by
    refine ⟨?_,V⟩;unfold Gc;simp_all<;>rfl)
  refine Yl isAgg222 Y ?_;refine Yf 20 DA V rfl A4 Y<|Yl AD Y ?_;refine Yf 1 CD V rfl A4 Y<|Yl AD Y ?_;refine Xr [_,_] Y (g) Y V (m (n) (r.val)) ?_;refine Zv (AL Y Y)<|Z0<|Zn [3,4,5,59] ?_;refine Zx<|AX Y (fun X=>?_) (fun X=>?_);·
   refine Zg<|Zh 20 DA V rfl A4 Y<|Zl AD Y ?_;refine Zh 1 CD V rfl A4 Y<|Xe (Zs A4 Y Y V (hi:=by(simp;done))) ?_;refine A5<|Zg<|Zh 2 CD V rfl CH Y<|Xe (Zs CH Y Y V (hi:=by(simp;done))) ?_;refine A5<|A0<|Zo Wh (A9 (cs:=#[_,_,_]) Bk Ax Y As AN) ?_;refine Xe (Xw Ax _) ?_;refine A3 Y<|AJ<|Bj V R0 Y Wh (Am Bk Ax Wn (V)) Y (by
    refine ⟨?_,V⟩;unfold Gc;simp_all<;>rfl)
  refine AC<|Zx<|Zg<|Zh 2 CD V rfl CH Y<|Xe (Zs CH Y Y V (hi:=by(simp;done))) ?_;refine A5<|A0<|Zo Wh (A9 (cs:=#[_,_,_]) Bk Ax Y As AN) ?_;refine Xe (Xw Ax _) ?_;refine A3 Y<|AJ<|Bj V R0 Y Wh (Am Bk Ax Wn (V)) Y (by
   refine ⟨?_,V⟩;unfold Gc;simp_all<;>rfl)
 refine AC<|Zx<|A0<|Zo Wh (A9 (cs:=#[_,_,_]) Bk Ax Y As AN) ?_;refine Xe (Xw Ax _) ?_;refine A3 Y<|AJ<|Bj V R0 Y Wh (Am Bk Ax Wn (V)) Y (by
  refine ⟨?_,V⟩;unfold Gc;simp_all<;>rfl)
theorem sS(x y:Int):BH prog 204 #[I4 x,I4 y] [] (.bool (decide (x<y))):=by
 refine Se func204 ntmps204 [0,1] ?_;intro u R;refine A0<|A3 Y<|A0<|Zm Y<|Zm Y<|Zv (Dv Y Y)<|A3 Y<|AJ<|AO V results204 Y (by exact ⟨V,V⟩)
theorem sV(x y:Int):BH prog 206 #[I4 x,I4 y] [] (.bool (decide (y<x))):=by
 refine Se func206 ntmps206 [0,1] ?_;intro u R;refine A0<|A3 Y<|A0<|Zm Y<|Zm Y<|Zv (Ev Y Y)<|A3 Y<|AJ<|AO V results206 Y (by exact ⟨V,V⟩)
def Gb(k:Int):Nat:=if k=1 then 197 else if k=2 then 197 else if k=3 then 199 else if k=4 then 201 else if k=5 then 247 else if k=6 then 247 else 208
def Ij(b5 b6:Nat)(k:Int):List Value:=if k=5 then [I5 b5]else if k=6 then [I5 b6]else []
theorem Vp{lm:List (Int×Value)}{g m:Nat}(h:∀p,p∈lm↔p∈M8 g m)(hn:(lm.map (·.1)).Nodup){k:Int}(G:1<=k/\k<=7):EI k lm=some (.agg #[.func (.func (Hg k)) #[] #[],.func (.func (Gb k)) #[] (Ij g m k).toArray]):=by
 obtain h9|h9|h9|h9|h9|h9|h9:k=1\/k=2\/k=3\/k=4\/k=5\/k=6\/k=7:=by omega
 all_goals subst h9
 all_goals exact ZE h hn (by simp [M8,Hg,Gb,Ij])
theorem Kh{k:Int}(g:1<=k/\k<=7):∀(args:Array Value) (w:World),(callFunc (Gb k) args).run prog w= .ok (.enter (Gb k) args) w:=by
 obtain h|h|h|h|h|h|h:k=1\/k=2\/k=3\/k=4\/k=5\/k=6\/k=7:=by omega
 all_goals (subst h;simp only [Gb];first|exact call197|exact call199|exact call201|exact call247|exact call208)
theorem IB{P:Program}{f:FuncId}{args:Array Value}{H H1:Hp}{Q G:Value->Hp->Prop}(h:Ba P f args H Q)(F:Hp)(O:H1.flatten.Perm (H++F).flatten)(U:∀v H',Q v H'->∃g E,G v g/\(H'.flatten++F.flatten).Perm (g.flatten++E)):Ba P f args H1 G:=fun u R w W=>
 Calls.mono (h u (F++R) w (W.perm (by rw [Ge,<-Cd,Ge (L₁:=H++F)];exact O.append_right _))) fun e X K=>by
  rcases K with⟨v,H',rfl,m,h2⟩|⟨ch,H',rfl,m,h2⟩
  · obtain ⟨g,E,I,J⟩:=U v H' m
    refine .inl ⟨v,g,V,I,h2.sub ⟨E,?_⟩⟩;rw [Ge,Ge,Ge,<-Cd];refine (J.append_right _).trans ?_;rw [Cd,Cd];exact Ly.append_left _
  · exact m.elim
def MIn(q:QM)(c:Chg):Prop:=(-1000000000<=mQ q (bfQ q c)/\mQ q (bfQ q c)<=1000000000)/\-1000000000<=mQ q (afQ q c)/\mQ q (afQ q c)<=1000000000
theorem yc{b:Bool}{x:AV}(h:b=true->x.ok):-1000000000<=mQ q (Hy q b x)/\mQ q (Hy q b x)<=1000000000:=by
 unfold Hy;split
 · rename_i h9
   rw [F2]at h9;exact Wd (h h9.1) q.bq
 · exact ⟨by show(-1000000000:Int)<=0;decide,by show(0:Int)<=1000000000;decide⟩
theorem sD(q:QM)(h:c.ok):MIn q c:=by
 obtain ⟨_,h2,_⟩:=h;refine ⟨yc fun g=>?_,yc fun g=>?_⟩
 · rw [PU g]at h2
   exact HI.1 fun m=>h2 (.inl ⟨g,m⟩)
 · rw [L9 g]at h2
   exact HI.1 fun m=>h2 (.inr ⟨g,m⟩)
theorem Kq(q:QM)(c:Chg)(hq:BJ q)(hm:MIn q c){O U:Option Addr}{s1:List AA}(ax:Il O (bfQ q c) s1)(W:Il U (afQ q c) s2)(g m:Nat)(r:CE)(pv:Option Addr)(X:Nat)(I:List AA)(Z:Bc 5 71 (.slice pv r.rows.length X) r.rows.length (Ae r.rows) I)(hn:r.rows.length<=100000000)(hv:-4000000000000000000<=r.val/\r.val<=4000000000000000000):
 Ba prog (Gb q.kd) (.agg (q.G4 c O U (mQ q (bfQ q c)) (mQ q (afQ q c))):: .agg #[.slice pv r.rows.length X,I4 r.val,.bool r.fnd]::Ij g m q.kd).toArray [I,s2,[(g,.cells #[.func (.func 204) #[] #[]] 222 (0,0))],[(m,.cells #[.func (.func 206) #[] #[]] 222 (0,0))]] (fun w H'=>∃G K,w= .tuple #[.agg #[G,I4 (Bu q c r).1.val,.bool (Bu q c r).1.fnd],.bool (Bu q c r).2]/\Bc 5 71 G (Bu q c r).1.rows.length (Ae (Bu q c r).1.rows) K/\H'=[K]):=by
 have e1:=ax.some_;have e2:=W.some_
 have af:=hq.2.1;have hk:q.kd=1\/q.kd=2\/q.kd=3\/q.kd=4\/q.kd=5\/q.kd=6\/q.kd=7:=by have:=hq.2.2.2;omega
 have J:(q.kd=1\/q.kd=2)->Bu q c r=(⟨EA q c r.rows,r.val,r.fnd⟩,true):=fun h=>by unfold Bu;rw [AM h]
 have P1:=dQ q c O U (mQ q (bfQ q c)) (mQ q (afQ q c)) af Z hn W;have P7:=dX q af c O U e1 W Z hn
 have P3:=Ym q c O U (mQ q (bfQ q c)) (mQ q (afQ q c)) pv r.rows.length X hv;have P4:=kW q c O U (mQ q (bfQ q c)) (mQ q (afQ q c)) pv r.rows.length X hv hm
 have P5:=VU q c O U (mQ q (bfQ q c)) (mQ q (afQ q c)) r pv r.rows.length X g 204 (fun a b=>decide (a<b)) call204 sS;have P6:=VU q c O U (mQ q (bfQ q c)) (mQ q (afQ q c)) r pv r.rows.length X m 206 (fun a b=>decide (b<a)) call206 sV
 rw [e2]at P3;rw [e1,e2]at P5 P6;rcases hk with h|h|h|h|h|h|h
 · rw [show Gb q.kd=197 by rw [h];rfl,show Ij g m q.kd=[] by rw [h];rfl,J (.inl h)]
   refine IB P1 [[(g,.cells #[.func (.func 204) #[] #[]] 222 (0,0))],[(m,.cells #[.func (.func 206) #[] #[]] 222 (0,0))]] B0 ?_;rintro w H' ⟨G,K,rfl,h3,rfl⟩;exact ⟨[K],_,⟨G,K,V,h3,V⟩,by simp;exact .refl _⟩
 · rw [show Gb q.kd=197 by rw [h];rfl,show Ij g m q.kd=[] by rw [h];rfl,J (.inr h)]
   refine IB P1 [[(g,.cells #[.func (.func 204) #[] #[]] 222 (0,0))],[(m,.cells #[.func (.func 206) #[] #[]] 222 (0,0))]] B0 ?_;rintro w H' ⟨G,K,rfl,h3,rfl⟩;exact ⟨[K],_,⟨G,K,V,h3,V⟩,by simp;exact .refl _⟩
 · rw [show Gb q.kd=199 by rw [h];rfl,show Ij g m q.kd=[] by rw [h];rfl,show Bu q c r=(⟨r.rows,if(afQ q c).isSome then r.val+1 else r.val -1,r.fnd⟩,true) by unfold Bu;rw [AK A1,AM h]]
   refine IB P3 [I,s2,[(g,.cells #[.func (.func 204) #[] #[]] 222 (0,0))],[(m,.cells #[.func (.func 206) #[] #[]] 222 (0,0))]] B0 ?_;rintro w H' ⟨rfl,rfl⟩;exact ⟨[I],_,⟨_,I,V,Z,V⟩,by simp;exact .refl _⟩
 · rw [show Gb q.kd=201 by rw [h];rfl,show Ij g m q.kd=[] by rw [h];rfl,show Bu q c r=(⟨r.rows,r.val+(mQ q (afQ q c) -mQ q (bfQ q c)),r.fnd⟩,true) by unfold Bu;rw [AK A1,AK A1,AM h]]
   refine IB P4 [I,s2,[(g,.cells #[.func (.func 204) #[] #[]] 222 (0,0))],[(m,.cells #[.func (.func 206) #[] #[]] 222 (0,0))]] B0 ?_;rintro w H' ⟨rfl,rfl⟩;exact ⟨[I],_,⟨_,I,V,Z,V⟩,by simp;exact .refl _⟩
 · have e9:Bu q c r=Gc (fun a b=>decide (a<b)) (bfQ q c).isSome (afQ q c).isSome (mQ q (bfQ q c)) (mQ q (afQ q c)) r:=by unfold Bu;rw [AK A1,AK A1,AK A1,AM h]
   have e8:(Bu q c r).1.rows=r.rows:=by rw [e9,Ms]
   rw [show Gb q.kd=247 by rw [h];rfl,show Ij g m q.kd=[I5 g] by rw [h];rfl];rw [<-e9]at P5;refine IB P5 [I,s2,[(m,.cells #[.func (.func 206) #[] #[]] 222 (0,0))]] (by simp;rw [<-Cd,<-Cd];exact Rg) ?_;rintro w H' ⟨rfl,rfl⟩;exact ⟨[I],[(g,_)]++s2++_,⟨_,I,rfl,by rw [e8];exact Z,rfl⟩,by simp;exact Rg.symm⟩
 · have e9:Bu q c r=Gc (fun a b=>decide (b<a)) (bfQ q c).isSome (afQ q c).isSome (mQ q (bfQ q c)) (mQ q (afQ q c)) r:=by unfold Bu;rw [AK A1,AK A1,AK A1,AK A1,AM h]
   have e8:(Bu q c r).1.rows=r.rows:=by rw [e9,Ms]
   rw [show Gb q.kd=247 by rw [h];rfl,show Ij g m q.kd=[I5 m] by rw [h];rfl];rw [<-e9]at P6;refine IB P6 [I,s2,[(g,.cells #[.func (.func 204) #[] #[]] 222 (0,0))]] (by simp;rw [<-Cd,<-Cd];exact ((List.Perm.swap _ _ []).append_left _).trans Rg) ?_;rintro w H' ⟨rfl,rfl⟩;exact ⟨[I],[(m,_)]++s2++_,⟨_,I,rfl,by rw [e8];exact Z,rfl⟩,by simp;exact Rg.symm⟩
 · rw [show Gb q.kd=208 by rw [h];rfl,show Ij g m q.kd=[] by rw [h];rfl,show Bu q c r=D9 q c r by unfold Bu;rw [AK A1,AK A1,AK A1,AK A1,AK A1]]
   refine IB P7 [[(g,.cells #[.func (.func 204) #[] #[]] 222 (0,0))],[(m,.cells #[.func (.func 206) #[] #[]] 222 (0,0))]] B0 ?_;rintro w H' ⟨G,K,rfl,h3,rfl⟩;exact ⟨[K],_,⟨G,K,V,h3,V⟩,by simp;exact .refl _⟩
def Dh(q:QM)(c:Chg):Bool:=decide c.ok&&Cq q c
def D6(q:QM)(c:Chg)(r:CE):CE×Bool:=if Dh q c then(if(Bu q c r).2 then((Bu q c r).1,true)else(CE.none,false))else(r,true)
def Hr(q:QM)(r:CE):List Chg->Option CE
 |[]=>some r
 |c::cs=>if(D6 q c r).2 then Hr q (D6 q c r).1 cs else none
theorem SG(q:QM):∀(a:List Chg) (r:CE) (b:List Chg),Hr q r (a++b)=(Hr q r a).bind fun g=>Hr q g b
 |[],_,_=>rfl
 |c::a,r,b=>by
  show(if(D6 q c r).2 then Hr q (D6 q c r).1 (a++b)else none)=(if(D6 q c r).2 then Hr q (D6 q c r).1 a else none).bind fun g=>Hr q g b;split;· exact SG q a _ b
  · rfl
def BX(q:QM)(r:CE)(cs:List Chg):CE×Bool×Bool:=match Hr q r cs with
 |some r'=>(r',cs.any (Dh q),true)
 |none=>(CE.none,true,false)
theorem jw(q:QM)(c:Chg)(r:CE):(D6 q c r).1.rows.length<=r.rows.length+2:=by
 have h:=dw q c r;unfold D6;split
 · split
   · exact h
   · exact C0 _
 · exact ef _ _
theorem dm(g:MIn q c){B:Int}(h:-B<=r.val/\r.val<=B)(h0:0<=B):-(B+2000000000)<=(Bu q c r).1.val/\(Bu q c r).1.val<=B+2000000000:=by
 obtain ⟨⟨m,h2⟩,G,I⟩:=g;have hx:∀lt b a,-(B+2000000000)<=(Gc lt b a (mQ q (bfQ q c)) (mQ q (afQ q c)) r).1.val/\(Gc lt b a (mQ q (bfQ q c)) (mQ q (afQ q c)) r).1.val<=B+2000000000:=fun lt b a=>by
  unfold Gc;split;· constructor<;>(simp only;omega)
  · split
    · simp only
      split<;>(constructor<;>omega)
    · constructor<;>(simp only;omega)
 unfold Bu;split;· constructor<;>(simp only;omega)
 · split
   · simp only
     split<;>(constructor<;>omega)
   · split
     · constructor<;>(simp only;omega)
     · split
       · exact hx _ _ _
       · split
         · exact hx _ _ _
         · rw [dx];constructor<;>omega
theorem jv{B:Int}(h:-B<=r.val/\r.val<=B)(h0:0<=B):-(B+2000000000)<=(D6 q c r).1.val/\(D6 q c r).1.val<=B+2000000000:=by
 unfold D6;split
 · rename_i h9
   unfold Dh at h9;rw [F2]at h9;split;· exact dm (sD q (Hb h9.1)) h h0
   · constructor<;>(simp only [CE.none];omega)
 · constructor<;>(simp only;omega)
variable{cs:List Chg}
theorem K5{g:CE}{x:Chg}(h:Hr q r (cs.take k)=some g)(hx:cs[k]?=some x):Hr q r (cs.take (k+1))=if(D6 q x g).2 then some (D6 q x g).1 else none:=by
 rw [Bi hx,SG,h];show Hr q g [x]=_
 unfold Hr Hr;rfl
theorem Pt(h:Hr q r (cs.take k)=none):Hr q r cs=none:=by
 rw [<-Iv k cs,SG,h];rfl
theorem WI{x:Chg}(f:Chg->Bool)(hx:cs[k]?=some x):(cs.take (k+1)).any f=((cs.take k).any f||f x):=by
 rw [Bi hx,List.any_append,lz,mB,el]
theorem Wv{q:QM}:∀(cs:List Chg) (r r':CE) (B:Int) (n:Nat),Hr q r cs=some r'->(-B<=r.val/\r.val<=B)->0<=B->r.rows.length<=n->(-(B+2000000000*(cs.length:Int))<=r'.val/\r'.val<=B+2000000000*(cs.length:Int))/\r'.rows.length<=n+2*cs.length
 |[],r,r',B,n,h,h1,h2,h3=>by
  unfold Hr at h;injection h with h
  subst h;simp only [KK];exact ⟨⟨by omega,by omega⟩,h3⟩
 |c::cs,r,r',B,n,h,h1,h2,h3=>by
  unfold Hr at h;split at h
  · have g:=jv (q:=q) (c:=c) h1 h2
    have G:=jw q c r;have m:=Wv cs _ r' (B+2000000000) (n+2) h g A1 A1
    rw [DG];obtain ⟨⟨I,J⟩,K⟩:=m;refine ⟨⟨?_,?_⟩,by omega⟩<;>(push_cast;omega)
  · cases h
set_option maxHeartbeats 1000000 in
theorem Sq(q:QM)(g:BJ q)(c:Chg)(hr:Db A rv r.rows)(hn:r.rows.length<=100000000)(hv:-4000000000000000000<=r.val/\r.val<=4000000000000000000):Ba prog 92 #[.agg q.A59,.agg #[rv,I4 r.val,.bool r.fnd],.agg c.A57] [A] (fun w H'=>∃bg s',w= .tuple #[.agg #[bg,I4 (D6 q c r).1.val,.bool (D6 q c r).1.fnd],.bool (D6 q c r).2]/\Bc 5 71 bg (D6 q c r).1.rows.length (Ae (D6 q c r).1.rows) s'/\H'=[s',A]):=by
 have cO:=mL;obtain ⟨pv,cv,rfl,_⟩:=id hr;refine Se func92 ntmps92 [0,1,2] ?_;intro u R;refine A0<|Ze (Bx q.A59)<|AE fun bq=>Ze (Bx #[.slice pv r.rows.length cv,I4 r.val,.bool r.fnd])<|AE fun br=>Ze (Bx c.A57)<|AE fun bc=>Ze (Al GC #[_,_,_])<|AE fun bo=>A3 Y<|A0<|Zh 0 CD V rfl C6 Y<|Zl F1 Y<|Zc [_] Y call90 Y V (Gj hr A1) ?_;rintro _ _ ⟨_,⟨s1,h1,rfl⟩,rfl⟩;obtain ⟨g1,c1,rfl⟩:=h1.form;refine Zh 0 CD V rfl C6 Y<|Xe (Zs C6 Y Y V (hi:=by(simp;done)))<|A5<|Zq<|A0<|Zo Wh (A9 (cs:=#[_,_,_,_,_,_,_]) Dd C7 Y As AN)<|Zo Wh (A9 (cs:=#[_,_,_,_,_,_,_,_,_,_]) Fk C1 Y As AN)<|Xr [_,_] Y call91 Y V (KZ q c) ?_;rw [show(decide (BJ q)&&(decide c.ok&&Cq q c))=Dh q c by rw [Cp g];rfl];refine Zv (Br Y)<|Z0<|Zn [3,4,5,6,17] ?_;refine Zx<|AX Y (fun ht=>?_) (fun ht=>?_);·
  have I:Dh q c=false:=by simpa using ht
  refine A0<|Zo Wh (A9 (cs:=#[_,_,_]) Bk Ax Y As AN)<|Xe (Xw Ax _)<|A3 Y<|AJ<|Zt<|Bj V results92 Y Wh (Am Bk Ax Wn (V)) Y (by
   have e9:D6 q c r=(r,true):=by unfold D6;rw [I];rfl
   exact ⟨.slice g1 r.rows.length c1,s1,by rw [e9];rfl,by rw [e9];exact h1,rfl⟩)
 have I:Dh q c=true:=by simpa using ht
 have Z:c.ok:=by unfold Dh at I;rw [F2]at I;exact Hb I.1
 refine AC<|Zx<|Zb [3,4,5,6] ?_;refine DJ (e0:=[(3,_),(4,_),(5,_)]) (H0:=[s1]) (fun e H=>∃(W:Nat) (G:Option Addr) (m:Nat) (U:List AA),(Bc 5 71 (.slice G (Bu q c r).1.rows.length m) (Bu q c r).1.rows.length (Ae (Bu q c r).1.rows) U)/\e=[(8,I5 W),(9,.bool (Bu q c r).2)]/\H=[[(W,.cells #[.slice G (Bu q c r).1.rows.length m,I4 (Bu q c r).1.val,.bool (Bu q c r).1.fnd] 53 (0,0))],U]) Wp ?hx_2 ?hy_2
 case hx_2=>
  refine Az (n:=16) (0::0::2::7::15::0::0::97::0::511::1023::2047::2047::0::12287::32767::[]) 25217 A6 A6 V<|A2 1 V (AB (off:=0) CC V rfl A4 Y)<|B2 2 V AD Y<|E7 5 V Wh (A9 (cs:=#[_,_,_,_,_,_,_]) Dd C7 Y As AN)<|E7 6 V Wh (A9 (cs:=#[_,_,_,_,_,_,_,_,_,_]) Fk C1 Y As AN)<|E7 8 V Wh (A9 (cs:=#[_,_,_]) Bk Ax Y As AN)<|Zz (l:=[0,13])<|B1 [true,true,true,true] [(8,(_,_)),(6,(_,_)),(5,(_,_)),(2,(_,_))] V rfl (Zw [] Y call143 Y V (Ns)) ?_ Bv ?_;·
   rintro _ _ ⟨_,⟨mb,es,ck,lm,b5,b6,rfl,hm,hp,rfl⟩,rfl⟩;refine ⟨Zk (Zk (Zk (Zk (Aa)))),?_⟩;have X:=Vp hp hm.keys g.kind
   refine E7 3 rfl Wh (De I7 W8 Wa hm (fun _ _=>trivial) (trivial) ((by rw [X];exact rfl:_=Value.agg #[.func (.func (Hg q.kd)) #[] #[],.func (.func (Gb q.kd)) #[] (Ij b5 b6 q.kd).toArray])) Y Y)<|A2 4 rfl (XD W7 rfl isAgg250 Y rfl)<|Zz (l:=[7,13])<|B1 [true,true,false,false,true] [(3,(_,_)),(8,(_,_)),(2,(_,_))] rfl rfl (Zw [_,_] Y call144 Y rfl (Jk q g.2.1 (by have:=g.2.2.2;omega) c)) ?_ Bv ?_;·
    rintro _ _ ⟨_,⟨p1,p2,bn,cu,rfl,K,O,rfl⟩,rfl⟩;refine B6<|Zz (l:=[9,13])<|B1 [false,false,false] [] V rfl (Zw [_,_] Y (Kh g.kind) Y V (Kq q c g (sD q Z) K O b5 b6 r g1 c1 s1 h1 hn hv)) ?_ Bv ?_;·
     rintro _ _ ⟨_,⟨ax,U,rfl,J,rfl⟩,rfl⟩;refine ⟨Aa,?_⟩;obtain ⟨G,m,rfl⟩:=J.form;refine A2 10 V (AP Y)<|A2 11 V (Bz Y V)<|A2 12 V (Bz Y V)<|Zz (l:=[13])<|B1 [] [] V rfl (Al GC #[_,_,_]) ?_ (fun _ _ h=>h.elim) Ai;rintro _ _ ⟨W,rfl,rfl⟩;refine B6<|Yw 14 32767 V (Xw Ax #[.slice G (Bu q c r).1.rows.length m,I4 (Bu q c r).1.val,.bool (Bu q c r).1.fnd])<|CT<|A2 15 V (Av Y)<|Ag<|Zn [8,9,6] ?_;refine BO (e':=[(8,_),(9,_)]) (by exact ⟨W,G,m,U,J,V,V⟩)
    refine B1 [true,true,true] [(3,(_,_)),(8,(_,_)),(2,(_,_))] V rfl (Al GC #[_,_,_]) ?_ (fun _ _ h=>h.elim) Ai;rintro _ _ ⟨W,rfl,rfl⟩;refine B6<|Zz (l:=[9])<|B1 [false,false,false] [] V rfl (Zw [_,_] Y (Kh g.kind) Y V (Kq q c g (sD q Z) K O b5 b6 r g1 c1 s1 h1 hn hv)) ?_ Bv Ai;rintro _ _ ⟨_,⟨ax,U,rfl,J,rfl⟩,rfl⟩;refine ⟨Aa,?_⟩;obtain ⟨G,m,rfl⟩:=J.form;refine A2 10 V (AP Y)<|A2 11 V (Bz Y V)<|A2 12 V (Bz Y V)<|Zz (l:=[14])<|B1 [] [] V rfl (Xw Ax #[.slice G (Bu q c r).1.rows.length m,I4 (Bu q c r).1.val,.bool (Bu q c r).1.fnd]) ?_ (fun _ _ h=>h.elim) Ai;rintro _ _ ⟨rfl,rfl⟩;refine B6<|A2 15 V (Av Y)<|Ag<|Zn [8,9,6] ?_;refine BO (e':=[(8,_),(9,_)]) (by exact ⟨W,G,m,U,J,V,V⟩)
   refine B1 [true,true,true,true,true] [(3,(_,_)),(8,(_,_)),(6,(_,_)),(5,(_,_)),(2,(_,_))] V rfl (Al GC #[_,_,_]) ?_ (fun _ _ h=>h.elim) Ai;rintro _ _ ⟨W,rfl,rfl⟩;refine B6<|Zz (l:=[7])<|B1 [true,true,false,false,true] [(3,(_,_)),(8,(_,_)),(2,(_,_))] V rfl (Zw [_,_] Y call144 Y V (Jk q g.2.1 (by have:=g.2.2.2;omega) c)) ?_ Bv Ai;rintro _ _ ⟨_,⟨p1,p2,bn,cu,rfl,K,O,rfl⟩,rfl⟩;refine B6<|Zz (l:=[9])<|B1 [false,false,false] [] V rfl (Zw [_,_] Y (Kh g.kind) Y V (Kq q c g (sD q Z) K O b5 b6 r g1 c1 s1 h1 hn hv)) ?_ Bv Ai;rintro _ _ ⟨_,⟨ax,U,rfl,J,rfl⟩,rfl⟩;refine ⟨Aa,?_⟩;obtain ⟨G,m,rfl⟩:=J.form;refine A2 10 V (AP Y)<|A2 11 V (Bz Y V)<|A2 12 V (Bz Y V)<|Zz (l:=[14])<|B1 [] [] V rfl (Xw Ax #[.slice G (Bu q c r).1.rows.length m,I4 (Bu q c r).1.val,.bool (Bu q c r).1.fnd]) ?_ (fun _ _ h=>h.elim) Ai;rintro _ _ ⟨rfl,rfl⟩;refine B6<|A2 15 V (Av Y)<|Ag<|Zn [8,9,6] ?_;refine BO (e':=[(8,_),(9,_)]) (by exact ⟨W,G,m,U,J,V,V⟩)
  refine B1 [true,true,true,true] [(8,(_,_)),(6,(_,_)),(5,(_,_)),(2,(_,_))] V rfl (Al GC #[_,_,_]) ?_ (fun _ _ h=>h.elim) Ai;rintro _ _ ⟨W,rfl,rfl⟩;refine B6<|Zz (l:=[0])<|B1 [true,true,true,true] [(8,(_,_)),(6,(_,_)),(5,(_,_)),(2,(_,_))] V rfl (Zw [] Y call143 Y V (Ns)) ?_ Bv Ai;rintro _ _ ⟨_,⟨mb,es,ck,lm,b5,b6,rfl,hm,hp,rfl⟩,rfl⟩;refine ⟨Zk (Zk (Zk (Zk (Aa)))),?_⟩;have X:=Vp hp hm.keys g.kind
  refine E7 3 rfl Wh (De I7 W8 Wa hm (fun _ _=>trivial) (trivial) ((by rw [X];exact rfl:_=Value.agg #[.func (.func (Hg q.kd)) #[] #[],.func (.func (Gb q.kd)) #[] (Ij b5 b6 q.kd).toArray])) Y Y)<|A2 4 rfl (XD W7 rfl isAgg250 Y rfl)<|Zz (l:=[7])<|B1 [true,true,false,false,true] [(3,(_,_)),(8,(_,_)),(2,(_,_))] rfl rfl (Zw [_,_] Y call144 Y rfl (Jk q g.2.1 (by have:=g.2.2.2;omega) c)) ?_ Bv Ai;rintro _ _ ⟨_,⟨p1,p2,bn,cu,rfl,K,O,rfl⟩,rfl⟩;refine B6<|Zz (l:=[9])<|B1 [false,false,false] [] V rfl (Zw [_,_] Y (Kh g.kind) Y V (Kq q c g (sD q Z) K O b5 b6 r g1 c1 s1 h1 hn hv)) ?_ Bv Ai;rintro _ _ ⟨_,⟨ax,U,rfl,J,rfl⟩,rfl⟩;refine ⟨Aa,?_⟩;obtain ⟨G,m,rfl⟩:=J.form;refine A2 10 V (AP Y)<|A2 11 V (Bz Y V)<|A2 12 V (Bz Y V)<|Zz (l:=[14])<|B1 [] [] V rfl (Xw Ax #[.slice G (Bu q c r).1.rows.length m,I4 (Bu q c r).1.val,.bool (Bu q c r).1.fnd]) ?_ (fun _ _ h=>h.elim) Ai;rintro _ _ ⟨rfl,rfl⟩;refine B6<|A2 15 V (Av Y)<|Ag<|Zn [8,9,6] ?_;refine BO (e':=[(8,_),(9,_)]) (by exact ⟨W,G,m,U,J,V,V⟩)
 rintro _ _ ⟨W,G,m,U,J,rfl,rfl⟩;refine Zq<|A0<|Zm Y<|Zv (Br Y)<|A5<|AX Y (fun hk=>?_) (fun hk=>?_);·
  have af:(Bu q c r).2=false:=by simpa using hk
  refine Zq<|BU<|Zg<|Zv (BM (vs:=[]) (cs:=#[_,_,_]) Y (AZ (pl:=#[(0,1),(1,1),(2,1)]) GC CD (fun _=>by kernel_rfl) V))<|Xe (Xw Ax _)<|A3 Y<|AJ<|Zt<|Bj V results92 Y Wh (Am Bk Ax Wn (V)) Y (by
   have e9:D6 q c r=(CE.none,false):=by unfold D6;rw [I,AM rfl,af];rfl
   exact ⟨.slice none 0 0,[],by rw [e9];rfl,by rw [e9];exact Bf 5 _,rfl⟩)
 have af:(Bu q c r).2=true:=by simpa using hk
 refine AC<|Zx<|A0<|Zo Wh (A9 (cs:=#[_,_,_]) Bk Ax Y As AN)<|Xe (Xw Ax _)<|A3 Y<|AJ<|Bj V results92 Y Wh (Am Bk Ax Wn (V)) Y (by
  have e9:D6 q c r=((Bu q c r).1,true):=by unfold D6;rw [I,AM rfl,af];rfl
  exact ⟨.slice G _ m,U,by rw [e9];rfl,by rw [e9];exact J,rfl⟩)
set_option maxHeartbeats 1000000 in
theorem JO(q:QM)(hq:BJ q)(p:Int)(qa:Option Addr)(cap:Nat)(cs:List Chg){MC:List AA}(hC:Ck MC (.slice qa cs.length cap) cs)(l5:cs.length<=1000)(hr:Db A rv r.rows)(hn:r.rows.length<=10000000)(hv:-2000000000000000000<=r.val/\r.val<=2000000000000000000):Ba prog 43 #[.agg q.A59,.agg #[rv,I4 r.val,.bool r.fnd],.agg #[I4 p,.slice qa cs.length cap]] [A,MC] (fun w H'=>∃cu s',w= .tuple #[.agg #[cu,I4 (BX q r cs).1.val,.bool (BX q r cs).1.fnd],.bool (BX q r cs).2.1,.bool (BX q r cs).2.2]/\Bc 5 71 cu (BX q r cs).1.rows.length (Ae (BX q r cs).1.rows) s'/\H'=[s',A,MC]):=by
 have l9:=mL;obtain ⟨pv,cv,rfl,_⟩:=id hr;obtain ⟨pc,j3,gB,l8,cO⟩:=id hC;injection gB with hv1 hv2 hv3
 subst hv1 hv3;refine Se func43 ntmps43 [0,1,2] ?_;intro u R;refine A0<|Ze (Bx q.A59)<|AE fun bq=>Ze (Bx #[.slice pv r.rows.length cv,I4 r.val,.bool r.fnd])<|AE fun br=>Ze (Bx #[I4 p,.slice qa cs.length cap])<|AE fun bc=>Ze (Al GC #[_,_,_])<|AE fun bo=>Za Y<|A3 Y<|A0<|A3 Y<|A0<|Zh 0 CD V rfl C6 Y<|Zl F1 Y<|Zc [_] Y call90 Y V (Gj hr A1) ?_;rintro _ _ ⟨_,⟨s1,h1,rfl⟩,rfl⟩;obtain ⟨g1,c1,rfl⟩:=h1.form;refine Zh 0 CD V rfl C6 Y<|Xe (Zs C6 Y Y V (hi:=by(simp;done)))<|A5<|Zq<|A0<|Zh 1 G3 V rfl IH Y<|Zl LL Y<|Zv (AY G1 Y)<|Zm Y<|Z0<|Zn [3,4,6,9,18,19,20] ?_;refine Zx<|AR<|Zb [9,20,3,4,6,18,19] ?_;refine BA (e0:=[(9,_),(20,_)]) (fun m e H=>∃(k:Nat) (g:CE) (gk:Option Addr) (ck:Nat) (sk:List AA),m=cs.length -k/\(k<=cs.length/\Hr q r (cs.take k)=some g/\Bc 5 71 (.slice gk g.rows.length ck) g.rows.length (Ae g.rows) sk)/\e=[(9,.bool ((cs.take k).any (Dh q))),(20,I4 (k:Int))]/\H=[[(br,.cells #[.slice gk g.rows.length ck,I4 g.val,.bool g.fnd] 53 (0,0))],sk]) (by exact ⟨0,r,g1,c1,s1,rfl,⟨C0 _,by rw [ID];rfl,h1⟩,rfl,rfl⟩) Wp ?_;rintro _ _ _ ⟨k,g,gk,ck,sk,rfl,⟨hk,J,bn⟩,rfl,rfl⟩;obtain ⟨gq,gm⟩:=Wv (cs.take k) r g 2000000000000000000 10000000 J hv A1 hn;have d9:(cs.take k).length=k:=by rw [C3];omega
 rw [d9]at gq gm;have af:=DU bn A1
 refine A0<|Zv (Au Y Y)<|A5<|Zq<|Aq Y (fun bg=>?_) (fun bg=>?_);·
  obtain ⟨y,hy⟩:∃y,cs[k]?=some y:=⟨_,B3 bg⟩;obtain ⟨g2,kv,W,T2,ic,rfl,gy,j5,ax⟩:=cO k y hy;refine AC<|Zx<|Zq<|AR<|A0<|Bb (Ac G1 C1 Y Y A1)<|CS (cs:=[(g2,.cells W T2 ic)]) (by simp [gy]) (A9 (cs:=y.A57) Fk C1 Y A1 ax) V rfl<|Ze (Al Ln #[_,_,_,_,_,_,_,_,_,_])<|AE fun bx=>Xe (Xw C1 y.A57)<|A5<|A0<|Zm Y<|Zm Y<|Af (t:=25) Y V (fun O=>?_) (fun O=>?_);·
   have e9:(cs.take (k+1)).any (Dh q)=true:=by rw [WI _ hy,O];rfl
   refine A7 Y V<|A7 Y V<|A7 Y V<|Zv (AQ Y Y)<|A3 Y<|A0<|AG Y<|Zn [3,4,6,9,11,18,19,20] ?_;refine Zx<|A0<|Zo Wh (A9 (cs:=#[_,_,_,_,_,_,_]) Dd C7 Y As AN)<|Zo Wh (A9 (cs:=#[_,_,_]) Bk Ax Y As AN)<|Zo Wh (A9 (cs:=#[_,_,_,_,_,_,_,_,_,_]) Fk C1 Y As AN)<|Zc [_,_,_] Y call92 Y V (Sq q hq y af A1 A1) ?_;rintro _ _ ⟨_,⟨gF,s3,rfl,Z,rfl⟩,rfl⟩;obtain ⟨X,U,rfl⟩:=Z.form;refine Zm Y<|Zd Y rfl<|Zd Y rfl<|Xe (BL Ax Y Y HK Wu (by exact (rfl:_=(#[.slice X (D6 q y g).1.rows.length U,I4 (D6 q y g).1.val,.bool (D6 q y g).1.fnd]:Array Value))) E6 As (by exact BB _))<|A3 Y<|A0<|Zm Y<|Zv (Br Y)<|A5<|AX Y (fun I=>?_) (fun I=>?_);·
    have G:(D6 q y g).2=false:=by simpa using I
    have K:BX q r cs=(CE.none,true,false):=by unfold BX;rw [Pt (k:=k+1) (by rw [K5 J hy,G];rfl)]
    refine Zq<|BU<|Zg<|Zv (BM (vs:=[]) (cs:=#[_,_,_]) Y (AZ (pl:=#[(0,1),(1,1),(2,1)]) GC CD (fun _=>by kernel_rfl) V))<|Xe (Xw Ax _)<|Za Y<|AG Y<|Zn [6,7,8] ?_;refine Zx<|AJ<|Ad<|Zt<|Zt<|Ad<|Zt<|Hz rfl results43 Y Wh (Am Bk Ax Wn (rfl)) Y Y (by exact ⟨.slice none 0 0,[],by rw [K];rfl,by rw [K];exact Bf 5 _,rfl⟩)
   have G:(D6 q y g).2=true:=by simpa using I
   refine AC<|A8<|Zx<|Zg<|Ya (n:=1) Y Y<|Zm Y<|Z0<|Zn [9,20,3,4,6,18,19] ?_;refine Ab (e':=[(9,_),(20,_)]) (by exact ⟨k+1,(D6 q y g).1,X,U,s3,rfl,⟨by omega,by rw [K5 J hy,AM G],Z⟩,by rw [e9],rfl⟩)
  have e9:(cs.take (k+1)).any (Dh q)=Dh q y:=by rw [WI _ hy,O];rfl
  refine Dx Y Wh (A9 (cs:=#[_,_,_,_,_,_,_]) Dd C7 Y As AN) V rfl<|Dx Y Wh (A9 (cs:=#[_,_,_,_,_,_,_,_,_,_]) Fk C1 Y As AN) V rfl<|Xr [_,_] Y call91 Y V (KZ q y) ?_;rw [show(decide (BJ q)&&(decide y.ok&&Cq q y))=Dh q y by rw [Cp hq];rfl];refine Zv (AL Y Y)<|A3 Y<|A0<|AG Y<|Zn [3,4,6,9,11,18,19,20] ?_;refine Zx<|A0<|Zo Wh (A9 (cs:=#[_,_,_,_,_,_,_]) Dd C7 Y As AN)<|Zo Wh (A9 (cs:=#[_,_,_]) Bk Ax Y As AN)<|Zo Wh (A9 (cs:=#[_,_,_,_,_,_,_,_,_,_]) Fk C1 Y As AN)<|Zc [_,_,_] Y call92 Y V (Sq q hq y af A1 A1) ?_;rintro _ _ ⟨_,⟨gF,s3,rfl,Z,rfl⟩,rfl⟩;obtain ⟨X,U,rfl⟩:=Z.form;refine Zm Y<|Zd Y rfl<|Zd Y rfl<|Xe (BL Ax Y Y HK Wu (by exact (rfl:_=(#[.slice X (D6 q y g).1.rows.length U,I4 (D6 q y g).1.val,.bool (D6 q y g).1.fnd]:Array Value))) E6 As (by exact BB _))<|A3 Y<|A0<|Zm Y<|Zv (Br Y)<|A5<|AX Y (fun I=>?_) (fun I=>?_);·
   have G:(D6 q y g).2=false:=by simpa using I
   have K:BX q r cs=(CE.none,true,false):=by unfold BX;rw [Pt (k:=k+1) (by rw [K5 J hy,G];rfl)]
   refine Zq<|BU<|Zg<|Zv (BM (vs:=[]) (cs:=#[_,_,_]) Y (AZ (pl:=#[(0,1),(1,1),(2,1)]) GC CD (fun _=>by kernel_rfl) V))<|Xe (Xw Ax _)<|Za Y<|AG Y<|Zn [6,7,8] ?_;refine Zx<|AJ<|Ad<|Zt<|Zt<|Ad<|Zt<|Hz rfl results43 Y Wh (Am Bk Ax Wn (rfl)) Y Y (by exact ⟨.slice none 0 0,[],by rw [K];rfl,by rw [K];exact Bf 5 _,rfl⟩)
  have G:(D6 q y g).2=true:=by simpa using I
  refine AC<|A8<|Zx<|Zg<|Ya (n:=1) Y Y<|Zm Y<|Z0<|Zn [9,20,3,4,6,18,19] ?_;refine Ab (e':=[(9,_),(20,_)]) (by exact ⟨k+1,(D6 q y g).1,X,U,s3,rfl,⟨by omega,by rw [K5 J hy,AM G],Z⟩,by rw [e9],rfl⟩)
 have ek:k=cs.length:=by omega
 subst ek;rw [GB]at J⊢;have K:BX q r cs=(g,cs.any (Dh q),true):=by unfold BX;rw [J]
 refine Ay<|Zt<|Zt<|AU<|Zx<|A0<|Zo Wh (A9 (cs:=#[_,_,_]) Bk Ax Y As AN)<|Zm Y<|Xe (Xw Ax _)<|Za Y<|A3 Y<|AJ<|Hz rfl results43 Y Wh (Am Bk Ax Wn (rfl)) Y Y (by exact ⟨.slice gk _ ck,sk,by rw [K];rfl,by rw [K];exact bn,rfl⟩)
end Go.Proofs.YtfhjaegddfehhaaGreatDoor
