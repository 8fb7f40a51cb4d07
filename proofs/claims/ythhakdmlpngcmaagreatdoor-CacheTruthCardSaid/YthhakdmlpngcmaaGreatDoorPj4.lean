/- Pairs of rows in memory; slices.Clone, IndexFunc, DeleteFunc, Insert at pairs. -/
import Derived.Test.YthhakdmlpngcmaaGreatDoorPr3
set_option linter.unusedVariables false
set_option linter.unusedSimpArgs false
namespace Go.Proofs.YthhakdmlpngcmaaGreatDoor
open Go.Proofs.Tryz
open Go Go.RowKit Gw
set_option maxRecDepth 100000
attribute [local irreducible] Gw.At Gw.Nx Gw.Ops
structure Bd where
 l:AU
 r:AU
deriving DecidableEq
def Am(ps:List Bd):List A4:=ps.flatMap fun p=>[I0 p.l.t,I0 p.l.k,I0 p.l.v.a,I0 p.l.v.b,I0 p.l.v.c,I0 p.r.t,I0 p.r.k,I0 p.r.v.a,I0 p.r.v.b,I0 p.r.v.c]
theorem DK(a b:List Bd):Am (a++b)=Am a++Am b:=by unfold Am;rw [PB]
theorem BG:∀(rs:List Bd),(Am rs).length=rs.length*10
 |[]=>rfl
 |r::rs=>by
  have:=BG rs;unfold Am at*;rw [HW,BW,this,E4];simp;omega
theorem Fs(rs:List Bd)(k:Nat):(Am rs).take (k*10)=Am (rs.take k):=by
 rcases FA rs.length k with h|h
 · rw [Hx (by rw [BG];omega),Hx A0]
 · have e:Am rs=Am (rs.take k)++Am (rs.drop k):=by rw [<-DK,K1]
   rw [e,Hb (by rw [BG,CD];omega)]
theorem Lh(rs:List Bd)(k:Nat):(Am rs).drop (k*10)=Am (rs.drop k):=by
 rcases FA rs.length k with h|h
 · rw [Sp (by rw [BG];omega),Sp A0];rfl
 · have e:Am rs=Am (rs.take k)++Am (rs.drop k):=by rw [<-DK,K1]
   rw [e,X1 (by rw [BG,CD];omega)]
theorem Et(rs:List Bd):∀u∈Am rs,u.oneCell'=true:=by
 intro u g;unfold Am at g;obtain ⟨r,_,h⟩:=S4.1 g;simp only [DB,Pr,P0]at h;rcases h with rfl|rfl|rfl|rfl|rfl|rfl|rfl|rfl|rfl|rfl<;>rfl
def UQ(M:List A9)(v:A4)(rs:List Bd):Prop:=∃p cap,v= .slice p rs.length cap/\(rs.length<=maxLen/\rs.length<=cap)/\∀(i:Nat) (x:Bd),rs[i]?=some x->∃g off cur T zz,p=some ⟨g,off,none⟩/\(g,Obj.cells cur T zz)∈M/\off+i*10+10<=cur.size/\cur.extract (off+i*10) (off+i*10+10)=#[I0 x.l.t,I0 x.l.k,I0 x.l.v.a,I0 x.l.v.b,I0 x.l.v.c,I0 x.r.t,I0 x.r.k,I0 x.r.v.a,I0 x.r.v.b,I0 x.r.v.c]
variable{v:A4}{rs:List Bd}{s:List A9}
theorem Na{e:AK}(h:Bc 10 e v rs.length (Am rs) s)(J:rs.length<=maxLen):UQ s v rs:=by
 obtain ⟨b,cap,rfl⟩:=h.form;refine ⟨b,cap,V,⟨J,F5 h⟩,fun i x I=>?_⟩;obtain ⟨g,G,cur,z,hv,rfl,K,m⟩:=K8 h i (C4.1 I).1;injection hv with hv1 hv2 hv3
 refine ⟨g,0,cur,e,z,hv1,by simp,by omega,?_⟩;unfold Am at m;rw [J3 _ 10 (fun _=>rfl) rs i x I]at m;rw [D4];exact HX.1 m
variable{k:Nat}
theorem SA{r:Bd}(h:rs[k]?=some r):Am rs=Am (rs.take k)++(Am [r]++Am (rs.drop (k+1))):=by
 rw [<-DK,<-DK];congr 1;obtain ⟨g,rfl⟩:=C4.1 h;rw [My,<-RW g,K1]
theorem Iw{r:Bd}(h:rs[k]?=some r)(j:Nat)(g:j<10):(Am rs)[k*10+j]?=(Am [r])[j]?:=by
 have m:=(C4.1 h).1;have e:(Am (rs.take k)).length=k*10:=by rw [BG,CD];omega
 rw [SA h,RT A0,Wa (by rw [e,BG];simp;omega),e,Nat.add_sub_cancel_left]
variable{n:Nat}
theorem XC{M:List A9}{p:B8}{cap:Nat}(h:UQ M (.slice p n cap) rs):FP M p (Am rs):=by
 obtain ⟨p',J,e,Z,W⟩:=h;injection e with e1 e2 e3
 subst e1;intro j u K;have G:=(C4.1 K).1
 rw [BG]at G;obtain ⟨x,O⟩:∃x,rs[j/10]?=some x:=⟨_,BT A0⟩;obtain ⟨g,off,cur,T,zz,rfl,X,I,m⟩:=W (j/10) x O;refine ⟨g,off,cur,T,zz,V,X,?_⟩;have U:=PO m I (j%10) A0
 have h2:=Iw O (j%10) A0;rw [show j/10*10+j%10=j by omega,K]at h2;rw [show off+j=off+j/10*10+j%10 by omega,U,h2,<-HR];rfl
theorem XI{M:List A9}(hv:UQ M v rs)(hb:rs.length<=1000000000000):BS prog 309 #[v] [M] (fun r H'=>∃O,Bc 10 361 r rs.length (Am rs) O/\H'=[O,M]):=by
 have Z:=mL;obtain ⟨p,cap,rfl,⟨hl,X⟩,W⟩:=id hv;have G:FP M p (Am rs):=XC hv
 refine Se func309 ntmps309 [0] ?_;intro u R;refine A1<|A5 Y<|Zq<|A1<|Zm Y<|Zv (Dr GO Y Y)<|A6<|AQ Y (fun K=>?_) (fun K=>?_);·
  have I:p=none:=by cases p with
   |none=>rfl
   |some x=>cases K
  have h0:rs=[]:=by
   cases rs with
   |nil=>rfl
   |cons x l=>obtain ⟨g,off,cur,T,zz,J,_⟩:=W 0 x rfl;rw [I]at J;cases J
  refine Zq<|Be<|Zg<|A5 Y<|AJ<|Zt<|AP rfl results309 Y (by exact ⟨[],by rw [h0];exact Bi 10 _,rfl⟩)
 refine AC<|Zx<|A1<|Ze (EQ GO H3)<|AG fun U=>Zm Y<|Ze (Hl (by_:=80) (sz:=10) GO (V:Tryz.prog.info? 361=some Tryz.t361) V rfl V rfl Y (IV 10 361 U 0 [] V B0) Y (G) (by exact BG _) B0 Wo Wo (by exact Et _) A0 A0) ?_;rintro _ _ ⟨af,m,rfl⟩;replace m:=Ba m (D4 _) (LN _);refine A5 Y<|AJ<|AP V results309 Y (by exact ⟨_,m,V⟩)
def Gy(pd:Bd->Bool)(rows:List Bd):Int:=(rows.findIdx? pd).elim (-1) fun i=>(i:Int)
variable{rows:List Bd}{i:Nat}{x:Bd}
theorem ni{g:Bd->Bool}(h:∀(j:Nat) (y:Bd),j<i->rows[j]?=some y->g y=false)(I:rows[i]?=some x)(G:g x=true):Gy g rows=(i:Int):=by
 obtain ⟨hi,rfl⟩:=C4.1 I;unfold Gy;rw [aq.2 ⟨hi,G,fun j m=>by simp [h j _ m (BT A0)]⟩];rfl
theorem nk{m:Bd->Bool}(h:∀(j:Nat) (y:Bd),j<rows.length->rows[j]?=some y->m y=false):Gy m rows=-1:=by
 unfold Gy;rw [dp.2 fun y G=>by
  obtain ⟨j,g⟩:=HB G;exact h j y (C4.1 g).1 g]
 rfl
theorem Tt(g:Bd->Bool)(rows:List Bd):(Gy g rows=-1/\∀y∈rows,g y=false)\/∃(i:Nat) (x:Bd),Gy g rows=(i:Int)/\rows[i]?=some x/\g x=true/\∀(j:Nat) (y:Bd),j<i->rows[j]?=some y->g y=false:=by
 unfold Gy;cases h:rows.findIdx? g with
 |none=>exact .inl ⟨rfl,dp.1 h⟩
 |some i=>
  obtain ⟨m,h2,G⟩:=aq.1 h;refine .inr ⟨i,_,V,BT m,h2,fun j y I J=>?_⟩;obtain ⟨K,rfl⟩:=C4.1 J;simpa using G j I
theorem mF(g:k<rs.length)(x:Bd):(Am rs).take (k*10)++Am [x]++(Am rs).drop (k*10+(Am [x]).length)=Am (rs.set k x):=by
 rw [show k*10+(Am [x]).length=(k+1)*10 by rw [BG];simp;omega,Fs,Lh,<-DK,<-DK,lR,As g];simp
variable{cur:AM}
theorem WL(g:Bw cur 0 (Am rs))(G:rs[k]?=some x):k*10+10<=cur.size/\cur.extract (0+k*10) (0+k*10+10)=(Am [x]).toArray:=by
 have W:=(C4.1 G).1;have U:k*10+10<=cur.size:=by
  have K:=Iw G 9 B0;have O:=g.get (k*10+9) _ (K.trans Ax)
  have:=(HU.1 O).1;omega
 refine ⟨U,?_⟩;apply HX.1;apply MD;intro j;rw [HR,dq];split
 · rename_i hj
   have m:j<10:=by omega
   have I:=Iw G j m;obtain ⟨u,J⟩:∃u,(Am [x])[j]?=some u:=⟨_,BT (by rw [BG];simpa using m)⟩;rw [J]at I;have h2:=g.get _ _ I
   rw [D4]at h2;rw [D4,h2];exact J.symm
 · rw [Lq]
   show(Am [x]).length<=j;rw [BG];simp only [F2];omega
theorem Kz{j:Nat}(f:Bd->Bool)(g:rows[j]?=some x):(rows.take (j+1)).filter f=(rows.take j).filter f++(if f x then [x]else []):=by
 rw [Bl g,Hj];congr 1;rw [Wr,mw]
theorem MH{f:Bd->Bool}(h:∀(j:Nat) (y:Bd),rows[j]?=some y->f y=true):rows.filter f=rows:=cT.2 fun y m=>by
 obtain ⟨j,g⟩:=HB m;exact h j y g
variable{B:List A9}
theorem M8{A:List A9}(hv:UQ A v rows)(G:Nat)(us:List A4)(Z:Bd->Bool)(U:∀(args:AM) (w:AD),(callFunc G args).run prog w= .ok (.enter G args) w)(hf:∀x:Bd,BJ prog G (.agg #[I0 x.l.t,I0 x.l.k,I0 x.l.v.a,I0 x.l.v.b,I0 x.l.v.c,I0 x.r.t,I0 x.r.k,I0 x.r.v.a,I0 x.r.v.b,I0 x.r.v.c]::us).toArray [B] (.bool (Z x))):BJ prog 283 #[v,.func (.func G) #[] us.toArray] [A,B] (I0 (Gy Z rows)):=by
 have bn:=mL;obtain ⟨p,cap,rfl,⟨hl,ax⟩,hg⟩:=id hv;refine Se func283 ntmps283 [0,1] ?_;intro u R;refine A1<|A5 Y<|Zq<|A1<|Zm Y<|Zv (Ab GO Y)<|Zm Y<|A6<|AR<|Zb [8,0,1,7] ?_;refine BF (e0:=[(8,_)]) (fun m e H=>∃(i:Nat),m=rows.length -i/\(i<=rows.length/\∀(j:Nat) (y:Bd),j<i->rows[j]?=some y->Z y=false)/\e=[(8,I0 (i:Int))]/\H=[]) (by exact ⟨0,V,⟨C7 _,fun j y h=>by omega⟩,V,V⟩) Wp ?_;rintro _ _ _ ⟨i,rfl,⟨hi,I⟩,rfl,rfl⟩;refine A1<|Zv (Ay Y Y)<|A6<|Zq<|Av Y (fun O=>?_) (fun O=>?_);·
  obtain ⟨x,X⟩:∃x,rows[i]?=some x:=⟨_,BT O⟩;obtain ⟨g,off,cur,T,zz,rfl,W,af,K⟩:=hg i x X;refine AC<|Zx<|Zq<|AR<|A1<|Zm Y<|A5 Y<|A1<|Zm Y<|Zm Y<|Zm Y<|BZ (Ad GO H3 Y Y A0)<|CS (cs:=[(g,.cells cur T zz)]) (by simp [W]) (AB (cs:=#[_,_,_,_,_,_,_,_,_,_]) isAgg361 H3 Y A0 K) V rfl<|Xr [_] Y (U) Y V (hf x)<|A6<|AQ Y (fun J=>?_) (fun J=>?_);·
   refine A1<|Zm Y<|A5 Y<|AJ<|Ac<|Zt<|Zt<|Ac<|Zt<|AP V results283 Y (by exact ⟨congrArg (Value.int .i64) (ni I X J).symm,V⟩)
  refine AC<|A8<|Zx<|Zg<|Ya (n:=1) Y Y<|Zm Y<|Z0<|Zn [8,0,1,7] ?_;refine Aa (e':=[(8,_)]) (by exact ⟨i+1,rfl,⟨by omega,fun j y h1 h2=>by rcases FA j i with h9|h9;exact I j y h9 h2;obtain rfl:j=i:=A0;rw [X]at h2;injection h2 with h2;subst h2;exact J⟩,rfl,rfl⟩)
 have ei:i=rows.length:=by omega
 subst ei;refine Az<|Zt<|Zt<|AV<|Zx<|A1<|A5 Y<|AJ<|AP V results283 Y (by exact ⟨congrArg (Value.int .i64) (nk I).symm,V⟩)
set_option maxHeartbeats 1000000 in
theorem Xo(G:Bc 10 361 v rows.length (Am rows) s)(hn:rows.length<=1000000000)(J:Nat)(us:List A4)(U:Bd->Bool)(bn:∀(args:AM) (w:AD),(callFunc J args).run prog w= .ok (.enter J args) w)(hf:∀x:Bd,BJ prog J (.agg #[I0 x.l.t,I0 x.l.k,I0 x.l.v.a,I0 x.l.v.b,I0 x.l.v.c,I0 x.r.t,I0 x.r.k,I0 x.r.v.a,I0 x.r.v.b,I0 x.r.v.c]::us).toArray [B] (.bool (U x))):BS prog 308 #[v,.func (.func J) #[] us.toArray] [s,B] (fun r H'=>∃s',Bc 10 361 r (rows.filter fun x=>!U x).length (Am (rows.filter fun x=>!U x)) s'/\H'=[s',B]):=by
 have o9:=mL;obtain ⟨p,cap,rfl⟩:=G.form;have hU:=Na G A0
 refine Se func308 ntmps308 [0,1] ?_;intro u R;refine A1<|A5 Y<|A1<|Zm Y<|Zm Y<|Xr [_,_] Y call283 Y V (M8 hU J us U bn hf) ?_;rcases Tt U rows with⟨e9,X⟩|⟨k,x0,e9,hx0,hp0,hno⟩
 ·
  rw [e9];refine A5 Y<|Zq<|A1<|Zm Y<|Zv (CO Y Y)<|A6<|Av Y (fun h1=>?_) (fun h1=>?_);·
   refine A1<|Zm Y<|A5 Y<|AJ<|Zt<|AP rfl results308 Y (by exact ⟨_,Ba G (congrArg List.length (MH fun j y hy=>by rw [X y (DO hy)];rfl).symm) (congrArg Am (MH fun j y hy=>by rw [X y (DO hy)];rfl).symm),rfl⟩)
  exact absurd V h1
 rw [e9];have o8:=(C4.1 hx0).1
 obtain ⟨g,ic,cur,z,gy,rfl,kv,j5⟩:=E5 G A0;injection gy with hv1 hv2 hv3
 subst hv1 hv3;refine A5 Y<|Zq<|A1<|Zm Y<|Zv (CO Y Y)<|A6<|Av Y (fun h2=>by omega)<|fun h2=>AC<|Zx<|Zq<|A1<|Zm Y<|Ya (n:=1) Y Y<|A5 Y<|AR<|Zb [5,6,0,1] ?_;refine BF (e0:=[(5,_),(6,_)]) (fun m e H=>∃(i j:Nat) (W:List Bd) (cur:AM),m=rows.length -j/\((i<j/\j<=rows.length)/\W.length=rows.length/\Bc 10 361 (I2 g rows.length cap) rows.length (Am W) [(g,.cells cur 361 z)]/\W.take i=(rows.take j).filter (fun x=>!U x)/\∀t,j<=t->W[t]?=rows[t]?)/\e=[(5,I0 (i:Int)),(6,I0 (j:Int))]/\H=[[(g,.cells cur 361 z)]]) (by exact ⟨k,k+1,rows,cur,rfl,⟨⟨by omega,by omega⟩,rfl,G,by rw [Kz _ hx0,hp0];simp only [S7,Mz,HP,DA];exact (MH (fun j y hy=>by rw [HH]at hy;split at hy;rw [hno j y fN hy];rfl;cases hy)).symm,fun t _=>rfl⟩,rfl,rfl⟩) Wp ?_;rintro _ _ _ ⟨i,j,W,cur,rfl,⟨l9,ax,O,K,af⟩,rfl,rfl⟩;obtain ⟨d9,cu,l5,j3,Z⟩:=Ja O;refine Zq<|A1<|Zm Y<|Zm Y<|Zv (Ab GO Y)<|Zv (Ay Y Y)<|A6<|Av Y (fun dn=>?_) (fun dn=>?_);·
  obtain ⟨x,hx⟩:∃x,rows[j]?=some x:=⟨_,BT dn⟩;obtain ⟨l8,cO⟩:=WL d9 ((af j (CT _)).trans hx);refine AC<|Zx<|Zq<|AR<|A1<|Zm Y<|Zm Y<|BZ (Ad GO H3 Y Y A0)<|Zo Wh (AB (cs:=#[_,_,_,_,_,_,_,_,_,_]) isAgg361 H3 Y A0 cO)<|Ze (Al i7 #[_,_,_,_,_,_,_,_,_,_])<|AG fun bx=>Xe (Xw H3 #[I0 x.l.t,I0 x.l.k,I0 x.l.v.a,I0 x.l.v.b,I0 x.l.v.c,I0 x.r.t,I0 x.r.k,I0 x.r.v.a,I0 x.r.v.b,I0 x.r.v.c])<|A6<|A1<|Zm Y<|Zo Wh (AB (cs:=#[_,_,_,_,_,_,_,_,_,_]) isAgg361 H3 Y B5 Ax)<|Xr [_] Y (bn) Y V (hf x)<|Zv (Br Y)<|Z0<|Zn [0,1,5,6,7,29] ?_;refine Zx<|AQ Y (fun I=>?_) (fun I=>?_);·
   have I:U x=false:=by simpa using I
   have ek:=Ba (xs':=Am (W.set i x)) (ET (i:=0+i*10) (ys:=Am [x]) O (by rw [BG,BG,F2];omega)) rfl (by rw [D4];exact mF A0 x);refine A1<|Zm Y<|Zm Y<|Zo Wh (AB (cs:=#[_,_,_,_,_,_,_,_,_,_]) isAgg361 H3 Y B5 Ax)<|BZ (Ad GO H3 Y Y A0)<|Xe (BL H3 Y Y Hi Wu (by exact (rfl:_=EM cur (0+i*10) (Am [x]))) Fi A0 Z)<|A6<|Zg<|Zm Y<|Ya (n:=1) Y Y<|AW Y<|A8<|Zx<|Zg<|Zm Y<|Ya (n:=1) Y Y<|AW Y<|Zn [5,6,0,1] ?_;refine Aa (e':=[(5,_),(6,_)]) (by exact ⟨i+1,j+1,W.set i x,_,rfl,⟨by omega,by rw [eC];exact ax,ek,by rw [YR A0,K,Kz _ hx];simp [I],fun t ht=>by rw [List.getElem?_set_ne A0];exact af t A0⟩,rfl,rfl⟩)
  have I:U x=true:=by simpa using I
  refine AC<|A8<|Zx<|Zg<|Zm Y<|Ya (n:=1) Y Y<|AW Y<|Zn [5,6,0,1] ?_;refine Aa (e':=[(5,_),(6,_)]) (by exact ⟨i,j+1,W,cur,rfl,⟨by omega,ax,O,by rw [K,Kz _ hx];simp [I],fun t ht=>af t A0⟩,rfl,rfl⟩)
 have ej:j=rows.length:=by omega
 subst ej;rw [GC]at K;have gq:(rows.filter fun x=>!U x).length=i:=by rw [<-K,CD];omega
 refine Az<|Zt<|Zt<|AV<|Zx<|A1<|Zm Y<|Zm Y<|BZ (C8 GO H3 Y Y A0)<|Ze (OE GO (V:Tryz.prog.info? 361=some Tryz.t361) V rfl (by simp [Value.cells,Value.oneCell']) Y A0 cu Z Wo) ?_;rintro _ _ rfl;have gm:=VV (ET (i:=i*10) (ys:=(Builtin.zeroCells (Value.agg #[I0 0,I0 0,I0 0,I0 0,I0 0,I0 0,I0 0,I0 0,I0 0,I0 0]).cells (rows.length -i)).toList) O (by rw [Sx,size_zeroCells,BG];show i*10+(rows.length -i)*10<=_;omega)) i A0
 refine A6<|A1<|Zm Y<|Zm Y<|BZ (Bt GO H3 Y Y A0)<|A5 Y<|AJ<|AP V results308 Y (by
  refine ⟨_,Ba gm gq.symm ?_,V⟩;rw [Cd,Hb (by rw [CD,BG];omega),Fs,K])
theorem nY{A Y D:List A4}(g:A.length=(n+1)*10)(hi:i<=n)(G:Y.length=10)(m:D.length=(n -i)*10):(A.take (0+i*10)++Y++A.drop (0+i*10+Y.length)).take (0+(i+1)*10)++D++(A.take (0+i*10)++Y++A.drop (0+i*10+Y.length)).drop (0+(i+1)*10+D.length)=A.take (i*10)++Y++D:=by
 rw [D4,D4,Hb (by rw [BW,CD];omega),Sp (by simp only [BW,CD,CH];omega),DA]
theorem gX{A Y D:List A4}(g:A.length=(n+1)*10)(hi:i<=n)(G:Y.length=10)(m:D.length=(n -i)*10):(A.take (0+(i+1)*10)++D++A.drop (0+(i+1)*10+D.length)).take (0+i*10)++Y++(A.take (0+(i+1)*10)++D++A.drop (0+(i+1)*10+D.length)).drop (0+i*10+Y.length)=A.take (i*10)++Y++D:=by
 rw [D4,D4,Sp (l:=A) A0,DA,cQ (by rw [CD];omega),V2,Pu A0,X1 (by rw [CD];omega)]
theorem VT(rows:List Bd)(i:Nat)(y:Bd):(Am rows).take (i*10)++Am [y]++Am (rows.drop i)=Am (rows.take i++[y]++rows.drop i):=by
 rw [Fs,DK,DK]
theorem Qz{c:AM}(h:Bw c 0 (Am rows))(i:Nat)(hi:i<=rows.length):Bw c (0+i*10) (Am (rows.drop i)):=by
 have g:=J6 h (i*10) ((rows.length -i)*10) (by rw [BG];omega);rw [Lh,Hx (by rw [BG,CH];omega)]at g;exact g
theorem bO{c:AM}(h:Bw c 0 (Am rows))(i:Nat)(hi:i<=rows.length):Bw c 0 (Am (rows.take i)):=by
 have g:=J6 h 0 (i*10) (by rw [BG];omega);rw [Q1,Fs]at g;exact g
theorem Tn(rows:List Bd)(i:Nat)(hi:i<=rows.length)(y:Bd):(rows.take i++[y]++rows.drop i).length=rows.length+1:=by
 simp only [BW,CD,CH,F2];omega
set_option maxHeartbeats 1000000 in
theorem Xf(m:Bc 10 361 v rows.length (Am rows) s)(hn:rows.length<=1000000000)(i:Nat)(hi:i<=rows.length)(y:Bd)(U:Nat):BS prog 310 #[v,I0 (i:Int),I2 U 1 1] [s,[(U,.cells #[I0 y.l.t,I0 y.l.k,I0 y.l.v.a,I0 y.l.v.b,I0 y.l.v.c,I0 y.r.t,I0 y.r.k,I0 y.r.v.a,I0 y.r.v.b,I0 y.r.v.c] 361 (0,0))]] (fun r H'=>∃s' s2,Bc 10 361 r (rows.take i++[y]++rows.drop i).length (Am (rows.take i++[y]++rows.drop i)) s'/\H'=[s',s2,[(U,.cells #[I0 y.l.t,I0 y.l.k,I0 y.l.v.a,I0 y.l.v.b,I0 y.l.v.c,I0 y.r.t,I0 y.r.k,I0 y.r.v.a,I0 y.r.v.b,I0 y.r.v.c] 361 (0,0))]]):=by
 have l9:=mL;obtain ⟨p,cap,rfl⟩:=m.form;have l8:=F5 m
 refine Se func310 ntmps310 [0,1,2] ?_;intro u R;refine A1<|A5 Y<|Zq<|Be<|Zg<|Zm Y<|Zm Y<|BZ (C8 GO H3 Y Y A0)<|A6<|A1<|Zm Y<|Zv (Ab GO Y)<|A5 Y<|Zq<|A1<|Zm Y<|Zv (Cj (n:=0) Y Y)<|A6<|Av Y (fun h0=>by cases h0)<|fun h0=>AC<|Zx<|A1<|Zm Y<|Zv (Ab GO Y)<|A5 Y<|Zq<|A1<|Zm Y<|Zm Y<|Zv (Cj Y Y)<|Z0<|Zn [0,1,2,7,8,22] ?_;refine Zx<|Av Y (fun W=>?_) (fun W=>?_);·
  refine A1<|Zm Y<|Zm Y<|Ze (BV (by_:=80) (sz:=10) GO (V:Tryz.prog.info? 361=some Tryz.t361) V rfl V rfl Y (m) Y (Db 10 U 1 1 361 (0,0) (Am [y]) V) Wo Wo (by exact Et _) A0 A0) ?_;rintro _ _ ⟨o8,O,rfl⟩;obtain ⟨j5,j3,rfl⟩:=O.form;refine A5 Y<|AJ<|Zt<|AP V results310 Y (by
   have W:i=rows.length:=by omega
   subst W;exact ⟨_,[],Ba O (Tn rows _ (CT _) y).symm (by rw [GC,k8,DA,DK]),rfl⟩)
 obtain ⟨g,d9,cur,z,cu,rfl,ic,I⟩:=E5 m A0;injection cu with hv1 hv2 hv3
 subst hv1 hv3;obtain ⟨_,l5,_,kv,Z⟩:=Ja m;refine AC<|Zx<|Zq<|A1<|Zm Y<|Zm Y<|Ya Y Y<|Zm Y<|Zv (Qq GO Y)<|Zv (DN Y Y)<|A6<|Av Y (fun hg=>?_) (fun hg=>?_);·
  refine A1<|Zm Y<|Zm Y<|BZ (Bt GO H3 Y Y A0)<|Zm Y<|Zm Y<|Ya Y Y<|Zm Y<|Yb Y Y ?_;refine Ze (LU (by_:=80) (sz:=10) (xs:=Am (rows.take i)) GO DE (rfl:Tryz.prog.info? 361=some Tryz.t361) rfl rfl rfl rfl Y Y Wh (bO I i hi) (by rw [BG,CD];omega) A0 B0 A0 A0 A0) ?_;rintro _ _ ⟨s9,J,rfl⟩;rw [show i+(rows.length+1 -i)=rows.length+1 by omega]at J;have G:=J.1
  obtain ⟨g3,cO,dn,z3,rfl,rfl,gy,gq⟩:=E5 J A0;obtain ⟨_,gm,_,ek,K⟩:=Ja J;refine AW Y<|Zn [0,1,2,7,9] ?_;refine Zx<|A1<|Zm Y<|Zm Y ?_
  (refine BZ (Bq GO H3 Y Y ?_ ?_) ?_;(focus (omega));(focus (omega)))
  refine Zm Y<|Xe (JU (cs:=Am [y]) GO H3 Y Y Wh Wo ((rfl:Bw (#[I0 y.l.t,I0 y.l.k,I0 y.l.v.a,I0 y.l.v.b,I0 y.l.v.c,I0 y.r.t,I0 y.r.k,I0 y.r.v.a,I0 y.r.v.b,I0 y.r.v.c]:AM) 0 (Am [y]))) (by rw [BG,F2];omega) (by rw [BG,F2];omega) (K) (Et _)) ?_;refine A6<|Zq<|Aw (n:=9) (0::0::0::6::15::0::0::96::255::[]) 256 AF AF V<|A3 0 V (AO Y)<|A3 1 V (AO Y)<|A3 2 V (AO Y)<|A3 3 V (Df Y Y A0) ?_
  (refine Dn (D':=31) 4 (Bq GO H3 Y Y ?_ ?_) ?_;(focus (omega));(focus (omega)))
  refine A3 5 V (AO Y)<|A3 6 V (AO Y) ?_
  (refine Dn (D':=255) 7 (Bq GO H3 Y Y ?_ ?_) ?_;(focus (omega));(focus (omega)))
  refine Yw 8 511 rfl (JU (cs:=Am (rows.drop i)) GO H3 Y Y Wh Wo (Qz I i hi) (by rw [BG,CH];omega) (by rw [BG,CH,GX (by rw [BG,F2];omega)];omega) (by rw [GX (by rw [BG,F2];omega)];exact K) (Et _))<|D0<|Ag<|Zn [9] ?_;refine Zx<|A1<|Zm Y<|A5 Y<|AJ<|Zt<|AP V results310 Y (by
   refine ⟨_,[(g,.cells cur 361 z)],Ba (ET (i:=0+(i+1)*10) (ys:=Am (rows.drop i)) (ET (i:=0+i*10) (ys:=Am [y]) J (by rw [G,BG,F2];omega)) ?_) (Tn rows i hi y).symm ?_,rfl⟩;· simp only [BW,CD,CH,G,BG,F2];omega
   · rw [nY G hi (by rw [BG];rfl) (by rw [BG,CH]),Hb (by rw [BG,CD];omega),<-Fs,VT])
 refine AC<|Zx<|Zq ?_;obtain ⟨o9,bn,ax⟩:=VU m (rows.length+1) A0 A0;have G:=ax.1
 refine Zg<|Zm Y<|Zm Y<|Zm Y<|Ya Y Y ?_;refine BZ (Bt GO H3 Y Y A0)<|A5 Y<|Zq<|Zq<|pZ (s1:=[(U,_)]) (s2:=[(g,_)]) (a:=U) (b:=g) Wo Wo (C5.2 V) (C5.2 V) (fun af=>?_);refine Zg<|Zm Y<|Zm Y<|Zm Y<|Zm Y<|Ya Y Y ?_
 (refine BZ (Bq GO H3 Y Y ?_ ?_) ?_;(focus (omega));(focus (omega)))
 refine CS (cs:=[(U,.cells #[I0 y.l.t,I0 y.l.k,I0 y.l.v.a,I0 y.l.v.b,I0 y.l.v.c,I0 y.r.t,I0 y.r.k,I0 y.r.v.a,I0 y.r.v.b,I0 y.r.v.c] 361 (0,0)),(g,.cells cur 361 z)]) B4 (TK (tR:=4) func319 AF AF AF AF GO H3 Y af A0) V rfl ?_;refine Zv (Br Y)<|Z0<|Zn [0,1,2,7,8,68] ?_;refine Zx<|AQ Y (fun X=>?_) (fun X=>?_);·
  refine Zq<|Aw (n:=9) (0::0::0::6::15::0::0::96::255::[]) 256 AF AF V<|A3 0 V (AO Y)<|A3 1 V (AO Y)<|A3 2 V (AO Y)<|A3 3 V (Df Y Y A0) ?_
  (refine Dn (D':=31) 4 (Bq GO H3 Y Y ?_ ?_) ?_;(focus (omega));(focus (omega)))
  refine A3 5 V (AO Y)<|A3 6 V (AO Y) ?_
  (refine Dn (D':=255) 7 (Bq GO H3 Y Y ?_ ?_) ?_;(focus (omega));(focus (omega)))
  refine Yw 8 511 rfl (JU (cs:=Am (rows.drop i)) GO H3 Y Y Wh Wo (Qz I i hi) (by rw [BG,CH];omega) (by rw [BG,CH];omega) (Z) (Et _))<|D0<|Ag<|Zx<|A1<|Zm Y<|Zm Y ?_
  (refine BZ (Bq GO H3 Y Y ?_ ?_) ?_;(focus (omega));(focus (omega)))
  refine Zm Y<|Xe (JU (cs:=Am [y]) GO H3 Y Y Wh Wo ((rfl:Bw (#[I0 y.l.t,I0 y.l.k,I0 y.l.v.a,I0 y.l.v.b,I0 y.l.v.c,I0 y.r.t,I0 y.r.k,I0 y.r.v.a,I0 y.r.v.b,I0 y.r.v.c]:AM) 0 (Am [y]))) (by rw [BG,F2];omega) (by rw [BG,F2,GX (by rw [BG,CH];omega)];omega) (by rw [GX (by rw [BG,CH];omega)];exact Z) (Et _)) ?_;refine Z0<|Zn [0] ?_;refine Zx<|A1<|Zm Y<|A5 Y<|AJ<|Zt<|AP V results310 Y (by
   refine ⟨_,[],Ba (ET (i:=0+i*10) (ys:=Am [y]) (ET (i:=0+(i+1)*10) (ys:=Am (rows.drop i)) ax (by rw [G,BG,CH];omega)) ?_) (Tn rows i hi y).symm ?_,rfl⟩;· simp only [BW,CD,CH,BG,bn,F2];omega
   · rw [gX G hi (by rw [BG];rfl) (by rw [BG,CH]),cQ (by rw [BG];omega),VT])
 cases X
def PI(pd:Bd->Bool)(rows:List Bd)(y:Bd):List Bd:=rows.take ((rows.findIdx? pd).getD rows.length)++[y]++rows.drop ((rows.findIdx? pd).getD rows.length)
theorem nZ(g:Bd->Bool)(rows:List Bd)(y:Bd):(PI g rows y).length=rows.length+1:=by
 unfold PI;simp only [BW,CD,CH,F2];omega
theorem ul(g:Bd->Bool)(rows:List Bd):(Gy g rows<0/\(rows.findIdx? g).getD rows.length=rows.length)\/∃i:Nat,i<=rows.length/\Gy g rows=(i:Int)/\(rows.findIdx? g).getD rows.length=i:=by
 unfold Gy;cases h:rows.findIdx? g with
 |none=>exact .inl ⟨by simp,rfl⟩
 |some i=>
  obtain ⟨m,_,_⟩:=aq.1 h;exact .inr ⟨i,by omega,V,V⟩
theorem ND{A:List A9}(hv:UQ A v rows)(K:rows.length<=1000000000)(g:Nat)(us:List A4)(m:Bd->Bool)(G:∀(args:AM) (w:AD),(callFunc g args).run prog w= .ok (.enter g args) w)(J:∀x:Bd,BJ prog g (.agg #[I0 x.l.t,I0 x.l.k,I0 x.l.v.a,I0 x.l.v.b,I0 x.l.v.c,I0 x.r.t,I0 x.r.k,I0 x.r.v.a,I0 x.r.v.b,I0 x.r.v.c]::us).toArray [B] (.bool (m x))):BS prog 280 #[v,.func (.func g) #[] us.toArray] [A,B] (fun r H'=>∃s,Bc 10 361 r (rows.filter fun x=>!m x).length (Am (rows.filter fun x=>!m x)) s/\H'=[s,A,B]):=by
 obtain ⟨p,cap,rfl,_⟩:=id hv;refine Se func280 ntmps280 [0,1] ?_;intro u R;refine A1<|A5 Y<|A1<|Zm Y<|Zc [_] Y call309 Y V (XI hv A0) ?_;rintro _ _ ⟨_,⟨s1,I,rfl⟩,rfl⟩;obtain ⟨W,O,rfl⟩:=I.form;refine Zm Y<|Zc [_,_] Y call308 Y V (Xo I K g us m G J) ?_;rintro _ _ ⟨_,⟨s2,h2,rfl⟩,rfl⟩;obtain ⟨X,U,rfl⟩:=h2.form;refine A5 Y<|AJ<|AP V results280 Y (by exact ⟨_,h2,V⟩)
theorem Tk(G:Bc 10 361 v rows.length (Am rows) s)(hn:rows.length<=1000000000)(y:Bd)(g:Nat)(us:List A4)(I:Bd->Bool)(U:∀(args:AM) (w:AD),(callFunc g args).run prog w= .ok (.enter g args) w)(hf:∀x:Bd,BJ prog g (.agg #[I0 x.l.t,I0 x.l.k,I0 x.l.v.a,I0 x.l.v.b,I0 x.l.v.c,I0 x.r.t,I0 x.r.k,I0 x.r.v.a,I0 x.r.v.b,I0 x.r.v.c]::us).toArray [B] (.bool (I x))):BS prog 285 #[v,.agg #[I0 y.l.t,I0 y.l.k,I0 y.l.v.a,I0 y.l.v.b,I0 y.l.v.c,I0 y.r.t,I0 y.r.k,I0 y.r.v.a,I0 y.r.v.b,I0 y.r.v.c],.func (.func g) #[] us.toArray] [s,B] (fun r H'=>∃X s2,Bc 10 361 r (PI I rows y).length (Am (PI I rows y)) X/\H'=[X,s2,B]):=by
 have af:=mL;obtain ⟨p,cap,rfl⟩:=G.form;have hU:=Na G A0
 refine Se func285 ntmps285 [0,1,2] ?_;intro u R;refine A1<|Ze (Bx #[_,_,_,_,_,_,_,_,_,_])<|AG fun bx=>A5 Y<|A1<|Zm Y<|Zm Y<|Xr [_,_] Y call283 Y V (M8 hU g us I U hf) ?_;obtain ⟨z9,O⟩:∃z,z=Gy I rows:=⟨_,rfl⟩;rw [<-O];have m:=ul I rows
 rw [<-O]at m;refine A5 Y<|Zb [7,0,4] ?_;refine Ch (e0:=[(7,_)]) (H0:=[]) (fun e H=>∃(i:Nat),(i<=rows.length/\(rows.findIdx? I).getD rows.length=i)/\e=[(7,I0 (i:Int))]/\H=[]) Wp ?hx_1 ?hy_1
 case hx_1=>
  refine A1<|Zm Y<|Zv (EI Y Y)<|A6<|Av Y (fun K=>?_) (fun K=>?_);·
   refine Zg<|Zm Y<|Zv (Ab GO Y)<|AW Y<|Zn [7,0,4] ?_;refine BB (e':=[(7,_)]) (by exact ⟨rows.length,⟨CT _,by rcases m with⟨_,h⟩|⟨i,h1,h2,J⟩;exact h;omega⟩,rfl,rfl⟩)
  rcases m with⟨h9,_⟩|⟨i,h1,h2,J⟩
  · exact absurd h9 K
  subst h2;refine AC<|Zn [7,0,4] ?_;refine BB (e':=[(7,_)]) (by exact ⟨i,⟨h1,J⟩,V,V⟩)
 rintro _ _ ⟨i,⟨hi,W⟩,rfl,rfl⟩;refine A1<|Zm Y<|Zm Y<|Zo Wh (Pa #[_,_,_,_,_,_,_,_,_,_] isAgg361 H3 Y)<|Ze (Ai (vs:=[_]) (cs:=[_,_,_,_,_,_,_,_,_,_]) GO H3 i7 Y V rfl V rfl V)<|AG fun Z=>Zc [_,_,_] Y call310 Y V (Xf G hn i hi y Z) ?_;rintro _ _ ⟨_,⟨s3,s4,J,rfl⟩,rfl⟩;obtain ⟨g3,c3,rfl⟩:=J.form;refine A5 Y<|AJ<|AP rfl results285 Y (by exact ⟨_,s4,by unfold PI;rw [W];exact J,rfl⟩)
def HY(k:Int)(p:Bd):Bool:=decide (p.r.k=k)
def QL(k:Int)(p:Bd):Bool:=decide (p.l.k=k)
def F6(rows:List AU):List Bd:=(List.range (rows.length/2)).map fun k=>⟨rows.getD (2*k) AU.zero,rows.getD (2*k+1) AU.zero⟩
def DW(ps:List Bd):List AU:=ps.flatMap fun p=>[p.l,p.r]
def jnT(q:QM)(c:Chg)(ps:List Bd):List Bd×Bool:=
 if c.t=q.ot then
  (if c.has then(ps.map fun p=>if HY c.k p then⟨p.l,⟨c.t,c.k,c.n⟩⟩else p,c.had)else(ps.filter fun p=>!HY c.k p,c.had))
 else match afQ q c with
  |none=>(ps.filter fun p=>!QL c.k p,true)
  |some y=>if Gy (HY (mQ q (afQ q c))) ps<0 then(ps.filter fun p=>!QL c.k p,(bfQ q c).isSome&&decide (mQ q (bfQ q c)=mQ q (afQ q c)))
   else(PI (fun p=>KV q y p.l) (ps.filter fun p=>!QL c.k p) ⟨y,(ps.getD (Gy (HY (mQ q (afQ q c))) ps).toNat ⟨AU.zero,AU.zero⟩).r⟩,true)
def DJ(q:QM)(c:Chg)(r:C9):C9×Bool:=if q.tb=q.ot then(r,false)else(⟨DW (jnT q c (F6 r.rows)).1,r.val,r.fnd⟩,(jnT q c (F6 r.rows)).2)
theorem KF(rows:List AU):(F6 rows).length=rows.length/2:=by unfold F6;rw [B6,Wg]
theorem sV{rows:List AU}{x y:AU}(m:rows[2*k]?=some x)(g:rows[2*k+1]?=some y):(F6 rows)[k]?=some ⟨x,y⟩:=by
 have h:=(C4.1 g).1;unfold F6;rw [DQ,T0 A0,O2,N5,N5,m,g];rfl
theorem IK:∀ps:List Bd,(DW ps).length=2*ps.length
 |[]=>rfl
 |p::ps=>by
  have:=IK ps;unfold DW at*;rw [HW,BW,this,E4];simp;omega
variable{ps:List Bd}{p:Bd}
theorem Sb(h:ps[k]?=some p):DW (ps.take (k+1))=DW (ps.take k)++[p.l,p.r]:=by
 unfold DW;rw [Bl h,PB,oA]
theorem jy(q:QM)(c:Chg)(ps:List Bd):(jnT q c ps).1.length<=ps.length+1:=by
 have g:=NO (fun p=>!HY c.k p) ps;have h2:=NO (fun p=>!QL c.k p) ps
 unfold jnT;split
 · split
   · simp only [B6];omega
   · simp only;omega
 · split
   · simp only;omega
   · split
     · simp only;omega
     · simp only [nZ];omega
theorem yS(q:QM)(c:Chg)(m G:B8)(o n:Int)(g:Nat)(x:Bd):BJ prog 281 #[.agg #[I0 x.l.t,I0 x.l.k,I0 x.l.v.a,I0 x.l.v.b,I0 x.l.v.c,I0 x.r.t,I0 x.r.k,I0 x.r.v.a,I0 x.r.v.b,I0 x.r.v.c],I1 g] [[(g,.cells (q.GW c m G o n) 265 (0,0))]] (.bool (HY c.k x)):=by
 refine Se func281 ntmps281 [0,1] ?_;intro u R;refine A1<|Ze (Bx #[I0 x.l.t,I0 x.l.k,I0 x.l.v.a,I0 x.l.v.b,I0 x.l.v.c,I0 x.r.t,I0 x.r.k,I0 x.r.v.a,I0 x.r.v.b,I0 x.r.v.c])<|AG fun I=>A5 Y<|A1<|Zh 5 W3 V rfl B3 Y<|Zv (Ap (off:=1) Fo V rfl AE Y)<|Zl AH Y<|Zh 7 F0 V rfl CA Y<|Zv (Ap (off:=1) C3 V rfl AE Y)<|Zl AH Y<|Zv (CO Y Y)<|A5 Y<|AJ<|AP V results281 Y (by exact ⟨V,V⟩)
theorem yR(q:QM)(c:Chg)(m G:B8)(o n:Int)(g:Nat)(x:Bd):BJ prog 282 #[.agg #[I0 x.l.t,I0 x.l.k,I0 x.l.v.a,I0 x.l.v.b,I0 x.l.v.c,I0 x.r.t,I0 x.r.k,I0 x.r.v.a,I0 x.r.v.b,I0 x.r.v.c],I1 g] [[(g,.cells (q.GW c m G o n) 265 (0,0))]] (.bool (QL c.k x)):=by
 refine Se func282 ntmps282 [0,1] ?_;intro u R;refine A1<|Ze (Bx #[I0 x.l.t,I0 x.l.k,I0 x.l.v.a,I0 x.l.v.b,I0 x.l.v.c,I0 x.r.t,I0 x.r.k,I0 x.r.v.a,I0 x.r.v.b,I0 x.r.v.c])<|AG fun I=>A5 Y<|A1<|Zh 0 W3 V rfl B3 Y<|Zv (Ap (off:=1) Fo V rfl AE Y)<|Zl AH Y<|Zh 7 F0 V rfl CA Y<|Zv (Ap (off:=1) C3 V rfl AE Y)<|Zl AH Y<|Zv (CO Y Y)<|A5 Y<|AJ<|AP V results282 Y (by exact ⟨V,V⟩)
theorem yQ(q:QM)(c:Chg)(m G:B8)(o n:Int)(g:Nat)(x:Bd):BJ prog 284 #[.agg #[I0 x.l.t,I0 x.l.k,I0 x.l.v.a,I0 x.l.v.b,I0 x.l.v.c,I0 x.r.t,I0 x.r.k,I0 x.r.v.a,I0 x.r.v.b,I0 x.r.v.c],I1 g] [[(g,.cells (q.GW c m G o n) 265 (0,0))]] (.bool (HY n x)):=by
 refine Se func284 ntmps284 [0,1] ?_;intro u R;refine A1<|Ze (Bx #[I0 x.l.t,I0 x.l.k,I0 x.l.v.a,I0 x.l.v.b,I0 x.l.v.c,I0 x.r.t,I0 x.r.k,I0 x.r.v.a,I0 x.r.v.b,I0 x.r.v.c])<|AG fun I=>A5 Y<|A1<|Zh 5 W3 V rfl B3 Y<|Zv (Ap (off:=1) Fo V rfl AE Y)<|Zl AH Y<|Zh 20 F0 V rfl AE Y<|Zl AH Y<|Zv (CO Y Y)<|A5 Y<|AJ<|AP V results284 Y (by exact ⟨V,V⟩)
theorem yP(g:Nat)(us:List A4)(I:AU->Bool)(m:∀(args:AM) (w:AD),(callFunc g args).run prog w= .ok (.enter g args) w)(J:∀x:AU,BJ prog g (.agg x.A94::us).toArray [B] (.bool (I x)))(G:Nat)(x:Bd):BJ prog 286 #[.agg #[I0 x.l.t,I0 x.l.k,I0 x.l.v.a,I0 x.l.v.b,I0 x.l.v.c,I0 x.r.t,I0 x.r.k,I0 x.r.v.a,I0 x.r.v.b,I0 x.r.v.c],I1 G] [[(G,.cells #[.func (.func g) #[] us.toArray] 228 (0,0))],B] (.bool (I x.l)):=by
 refine Se func286 ntmps286 [0,1] ?_;intro u R;refine A1<|Ze (Bx #[I0 x.l.t,I0 x.l.k,I0 x.l.v.a,I0 x.l.v.b,I0 x.l.v.c,I0 x.r.t,I0 x.r.k,I0 x.r.v.a,I0 x.r.v.b,I0 x.r.v.c])<|AG fun K=>A5 Y<|A1<|Zl isAgg228 Y ?_;refine Zh 0 W3 V rfl B3 Y<|Zo Wh (AB (cs:=x.l.A94) Cp B3 Y B5 Ax) ?_;refine Xr [_] Y (m) Y V (J x.l) ?_;refine A5 Y<|AJ<|AP V results286 Y (by exact ⟨V,V⟩)
theorem mD(m:ps[k]?=some p)(x:AU):(Am ps).take (0+k*10+5)++Ae [x]++(Am ps).drop (0+k*10+5+(Ae [x]).length)=Am (ps.set k ⟨p.l,x⟩):=by
 have J:=(C4.1 m).1;have e:(Am (ps.take k)).length=k*10:=by rw [BG,CD];omega
 have I:Am [p]=Ae [p.l]++Ae [p.r]:=rfl;have g:∀r:AU,(Ae [r]).length=5:=fun r=>rfl
 have e1:Am ps=(Am (ps.take k)++Ae [p.l])++(Ae [p.r]++Am (ps.drop (k+1))):=by
  rw [SA m,I];simp
 have e2:(Am (ps.take k)++Ae [p.l]).length=0+k*10+5:=by rw [BW,e,g];omega
 rw [e1,Hb e2,g,<-cE,X1 e2,X1 (g p.r),lR,As J];have G:Am (ps.take k++⟨p.l,x⟩::ps.drop (k+1))=Am (ps.take k)++(Am [⟨p.l,x⟩]++Am (ps.drop (k+1))):=by
  rw [<-DK,<-DK];rfl
 rw [G,show Am [⟨p.l,x⟩]=Ae [p.l]++Ae [x] from rfl];simp
theorem Qh(G:Bw cur 0 (Am ps))(U:ps[k]?=some p):cur[0+k*10+5+1]?=some (I0 p.r.k)/\0+k*10+5+5<=cur.size/\cur.extract (0+k*10+5) (0+k*10+5+5)=p.r.A94:=by
 have g:∀j u,j<10->(Am [p])[j]?=some u->cur[k*10+j]?=some u:=fun j u J m=>by
  have:=G.get (k*10+j) u ((Iw U j J).trans m);rwa [D4]at this
 have K:=g 6 _ B0 rfl;have O:=g 9 _ B0 rfl
 have W:k*10+9<cur.size:=(HU.1 O).1;refine ⟨by rw [show 0+k*10+5+1=k*10+6 by omega];exact K,by omega,?_⟩;apply HX.1;apply MD;intro j;rw [HR,dq];split
 · rename_i J
   have I:j<5:=by omega
   obtain ⟨u,m⟩:∃u,(Ae [p.r])[j]?=some u:=⟨_,BT (by rw [BH];simpa using I)⟩;have h2:=g (5+j) u A0 (by
    rw [show Am [p]=Ae [p.l]++Ae [p.r] from rfl,RT (by rw [BH];simp),BH];rw [show 5+j - [p.l].length*5=j by simp];exact m)
   rw [show 0+k*10+5+j=k*10+(5+j) by omega,h2];exact m.symm
 · rw [Lq]
   show(Ae [p.r]).length<=j;rw [BH];simp only [F2];omega
def Nn(c:Chg)(ps:List Bd)(i:Nat):List Bd:=(ps.take i).map (fun p=>if HY c.k p then⟨p.l,⟨c.t,c.k,c.n⟩⟩else p)++ps.drop i
theorem uI(c:Chg)(ps:List Bd)(i:Nat)(hi:i<=ps.length):(Nn c ps i).length=ps.length:=by
 unfold Nn;simp only [BW,B6,CD,CH];omega
variable{c:Chg}
theorem XW(g:ps[i]?=some p):(Nn c ps i)[i]?=some p:=by
 have hi:=(C4.1 g).1;unfold Nn;rw [RT (by rw [B6,CD];omega),B6,CD,Pu A0,T7,S1,Q2,g]
theorem Vu(g:ps[i]?=some p):Nn c ps (i+1)=(Nn c ps i).set i (if HY c.k p then⟨p.l,⟨c.t,c.k,c.n⟩⟩else p):=by
 have hi:=(C4.1 g).1;have m:((ps.take i).map (fun p=>if HY c.k p then(⟨p.l,⟨c.t,c.k,c.n⟩⟩:Bd)else p)).length=i:=by rw [B6,CD];omega
 unfold Nn;rw [Bl g,C0,lx (h:=by omega),m,T7];obtain ⟨_,rfl⟩:=C4.1 g;rw [RW hi,List.set_cons_zero];simp
theorem qg(g:ps[i]?=some p):ps.set i p=ps:=by
 obtain ⟨hi,rfl⟩:=C4.1 g;exact List.set_getElem_self hi
theorem tz(g:Nat)(us:List A4)(I:AU->Bool)(G:∀(args:AM) (w:AD),(callFunc g args).run prog w= .ok (.enter g args) w)(J:∀x:AU,BJ prog g (.agg x.A94::us).toArray [B] (.bool (I x)))(m:Nat)(x:Bd):BJ prog 286 (.agg #[I0 x.l.t,I0 x.l.k,I0 x.l.v.a,I0 x.l.v.b,I0 x.l.v.c,I0 x.r.t,I0 x.r.k,I0 x.r.v.a,I0 x.r.v.b,I0 x.r.v.c]::([I1 m]:List A4)).toArray [[(m,.cells #[.func (.func g) #[] us.toArray] 228 (0,0))]++B] (.bool (I x.l)):=by
 refine Ga (yP g us I G J m x) B4 ?_;rintro r H' ⟨rfl,rfl⟩;exact ⟨_,⟨V,V⟩,by simp⟩
theorem Xc{q:QM}{G I:B8}{g:Nat}{f:Bd->Bool}{m:Nat}(h:∀x,BJ prog m #[.agg #[I0 x.l.t,I0 x.l.k,I0 x.l.v.a,I0 x.l.v.b,I0 x.l.v.c,I0 x.r.t,I0 x.r.k,I0 x.r.v.a,I0 x.r.v.b,I0 x.r.v.c],I1 g] [[(g,.cells (q.GW c G I (mQ q (bfQ q c)) (mQ q (afQ q c))) 265 (0,0))]] (.bool (f x)))(x:Bd):BJ prog m (.agg #[I0 x.l.t,I0 x.l.k,I0 x.l.v.a,I0 x.l.v.b,I0 x.l.v.c,I0 x.r.t,I0 x.r.k,I0 x.r.v.a,I0 x.r.v.b,I0 x.r.v.c]::([I1 g]:List A4)).toArray [[(g,.cells (q.GW c G I (mQ q (bfQ q c)) (mQ q (afQ q c))) 265 (0,0))]] (.bool (f x)):=h x
theorem yf(h:c.has=true):EO c c.has c.n=⟨c.t,c.k,c.n⟩:=by unfold EO;rw [As h]
theorem uJ(c:Chg)(ps:List Bd):Nn c ps ps.length=ps.map fun p=>if HY c.k p then⟨p.l,⟨c.t,c.k,c.n⟩⟩else p:=by unfold Nn;rw [GC,k8,DA]
set_option maxHeartbeats 1000000 in
theorem gV(q:QM)(ek:0<=q.cl/\q.cl<=3)(c:Chg)(U p2:B8){s2:List A9}(e1:U.isSome=(bfQ q c).isSome)(h2:Il p2 (afQ q c) s2){sl:List A9}(hl:Bc 10 361 v ps.length (Am ps) sl)(hn:ps.length<=100000000):BS prog 247 #[.agg (q.GW c U p2 (mQ q (bfQ q c)) (mQ q (afQ q c))),v] [sl,s2] (fun w H'=>∃v' s',w= .tuple #[v',.bool (jnT q c ps).2]/\Bc 10 361 v' (jnT q c ps).1.length (Am (jnT q c ps).1) s'/\H'=[s']):=by
 have l5:=mL;obtain ⟨pl,ax,rfl⟩:=hl.form;have hU:=Na hl A0
 have kv:(ps.filter fun p=>!QL c.k p).length<=ps.length:=NO _ _;refine Se func247 ntmps247 [0,1] ?_;intro u R;refine A1<|Ze (F8 Y (cs:=(q.GW c U p2 (mQ q (bfQ q c)) (mQ q (afQ q c)))) (GK q c U p2 (mQ q (bfQ q c)) (mQ q (afQ q c))))<|AG fun be=>Za Y<|A5 Y<|Zq<|A1<|Zh 7 F0 V rfl CA Y<|Zv (Ap (off:=0) C3 V rfl AE Y)<|Zl AH Y<|Zh 0 F0 V rfl CM Y<|Zv (Ap (off:=6) CI V rfl AE Y)<|Zl AH Y<|Zv (CO Y Y)<|A6<|Av Y (fun K=>?_) (fun K=>?_);·
  refine A1<|Zh 7 F0 V rfl CA Y<|Zo Wh (AB (cs:=c.A93) GP CA Y B5 Ax)<|Xr [_] Y call109 Y V (Oa c) ?_;obtain ⟨y9,cO⟩:∃y,y=EO c c.has c.n:=⟨_,rfl⟩;rw [<-cO];refine Zm Y<|Zd Y V<|Zd Y V<|Ze (Al EV #[_,_,_,_,_])<|AG fun j5=>Xe (Xw B3 y9.A94)<|AW Y<|Zn [1,2,6,7] ?_;refine Zx<|Zq<|A1<|Zm Y<|Zv (Br Y)<|A6<|AQ Y (fun hh=>?_) (fun hh=>?_);·
   have af:c.has=false:=by simpa using hh
   refine Zq<|Aw (n:=8) (0::0::3::0::8::24::7::127::[]) 4 AF AF V<|A3 0 V (AO Y)<|A3 1 V (Bf (vs:=[]) (us:=[_]) Y Y)<|A3 3 V (AA (off:=7) F0 V rfl CA Y)<|A3 4 V (Ap (off:=2) C3 V rfl DM Y)<|BE 5 V Fc Y<|Zz (l:=[2])<|B7 [true] [(5,(_,_))] V rfl (Zw [_,_] Y call280 Y V (ND (B:=[(be,.cells (q.GW c U p2 (mQ q (bfQ q c)) (mQ q (afQ q c))) 265 (0,0))]) hU A0 281 [I1 be] (HY c.k) call281 (Xc fun x=>yS q c U p2 (mQ q (bfQ q c)) (mQ q (afQ q c)) be x))) ?_ Bp Ah;rintro _ _ ⟨_,⟨s9,h9,rfl⟩,rfl⟩;refine ⟨Zk (AY),?_⟩;obtain ⟨g9,c9,rfl⟩:=h9.form;refine A3 6 V (Aq Y)<|A3 7 V (Aq Y)<|Ag<|Zx<|AJ<|Zt<|Zt<|DF V ee Y Y (by
    have G:jnT q c ps=(ps.filter fun p=>!HY c.k p,c.had):=by unfold jnT;rw [As K,An (by rw [af];decide)]
    exact ⟨.slice g9 _ c9,s9,by rw [G],by rw [G];exact h9,rfl⟩)
  have af:c.has=true:=by simpa using hh
  rw [yf af]at cO;refine AC<|Zx<|Zq<|A1<|Zm Y<|Zv (Ab GO Y)<|Zm Y<|A6<|AR<|Zb [35,1,2,6,34] ?_;refine BF (e0:=[(35,_)]) (fun m e H=>∃(i:Nat) (sk:List A9),m=ps.length -i/\(i<=ps.length/\Bc 10 361 (.slice pl ps.length ax) ps.length (Am (Nn c ps i)) sk)/\e=[(35,I0 (i:Int))]/\H=[sk]) (by exact ⟨0,sl,V,⟨C7 _,hl⟩,V,V⟩) Wp ?_;rintro _ _ _ ⟨i,sk,rfl,⟨hi,O⟩,rfl,rfl⟩;refine A1<|Zv (Ay Y Y)<|A6<|Zq<|Av Y (fun Z=>?_) (fun Z=>?_);·
   obtain ⟨p,hp⟩:∃p,ps[i]?=some p:=⟨_,BT Z⟩;obtain ⟨g,dn,cur,z,cu,rfl,gy,X⟩:=E5 O A0;injection cu with hv1 hv2 hv3
   subst hv1 hv3;obtain ⟨_,W,_,j3,gq⟩:=Ja O;obtain ⟨h6,ic,_⟩:=Qh X (XW hp);refine AC<|Zx<|Zq<|AR<|A1<|Zm Y<|A5 Y<|Zq<|Aw (n:=10) (0::0::3::7::15::31::0::64::192::511::[]) 0 AF AF V<|A3 0 V (AO Y)<|A3 1 V (AO Y)<|A3 2 V (Ad GO H3 Y Y A0)<|A3 3 V (Ap (off:=5) W3 V rfl B3 Y)<|A3 4 V (Ap (off:=1) Fo V rfl AE Y)<|BE 5 V AH Y (hv:=by exact h6)<|A3 6 V (AA (off:=7) F0 V rfl CA Y)<|A3 7 V (Ap (off:=1) C3 V rfl AE Y)<|BE 8 V AH Y<|A3 9 V (CO Y Y)<|Ag<|Zn [1,2,6,8,34,35,47] ?_;refine Zx<|Av Y (fun hk=>?_) (fun hk=>?_);·
    have e9:Nn c ps (i+1)=(Nn c ps i).set i ⟨p.l,y9⟩:=by rw [Vu hp,As (by unfold HY;simp [hk]),cO]
    have J:=Ba (xs':=Am (Nn c ps (i+1))) (ET (i:=0+i*10+5) (ys:=Ae [y9]) O (by rw [BG,BH,F2,uI c ps i hi];omega)) rfl (by rw [e9];exact mD (XW hp) y9);refine Zg<|Zm Y<|Zm Y<|Zo Wh (AB (cs:=y9.A94) Cp B3 Y B5 Ax)<|BZ (Ad GO H3 Y Y A0)<|Zv (Ap (off:=5) W3 rfl rfl B3 Y)<|Xe (BL B3 Y Y Hi Wu (by exact (rfl:_=EM cur (0+i*10+5) (Ae [y9]))) Fi A0 gq)<|Z0<|A8<|Zx<|Zg<|Ya (n:=1) Y Y<|Zm Y<|Z0<|Zn [35,1,2,6,34] ?_;refine Aa (e':=[(35,_)]) (by exact ⟨i+1,_,V,⟨by omega,J⟩,V,V⟩)
   have e9:Nn c ps (i+1)=Nn c ps i:=by rw [Vu hp,An (by unfold HY;simp [hk]),qg (XW hp)]
   have J:=O;rw [<-e9]at J;refine AC<|A8<|Zx<|Zg<|Ya (n:=1) Y Y<|Zm Y<|Z0<|Zn [35,1,2,6,34] ?_;refine Aa (e':=[(35,_)]) (by exact ⟨i+1,_,V,⟨by omega,J⟩,V,V⟩)
  have ei:i=ps.length:=by omega
  subst ei;rw [uJ]at O;refine Az<|Zt<|Zt<|AV<|Zx<|Zq<|Aw (n:=6) (0::0::2::6::1::31::[]) 0 AF AF V<|A3 0 V (AO Y)<|A3 1 V (AA (off:=7) F0 V rfl CA Y)<|A3 2 V (Ap (off:=2) C3 V rfl DM Y)<|BE 3 V Fc Y<|A3 4 V (Aq Y)<|A3 5 V (Aq Y)<|Ag<|Zx<|AJ<|Zt<|DF V ee Y Y (by
   have G:jnT q c ps=(ps.map fun p=>if HY c.k p then⟨p.l,⟨c.t,c.k,c.n⟩⟩else p,c.had):=by unfold jnT;rw [As K,As af]
   exact ⟨.slice pl ps.length ax,sk,by rw [G],by rw [G];exact Ba O (B6 _).symm rfl,rfl⟩)
 refine AC<|Zx<|A1<|Zm Y<|Zv (Bf (vs:=[]) (us:=[_]) Y Y)<|Zc [_,_] Y call280 Y V (ND (B:=[(be,.cells (q.GW c U p2 (mQ q (bfQ q c)) (mQ q (afQ q c))) 265 (0,0))]) hU A0 282 [I1 be] (QL c.k) call282 (Xc fun x=>yR q c U p2 (mQ q (bfQ q c)) (mQ q (afQ q c)) be x)) ?_;rintro _ _ ⟨_,⟨s9,h9,rfl⟩,rfl⟩;obtain ⟨g9,c9,rfl⟩:=h9.form;refine AW Y<|Zn [1,2,9] ?_;refine Zx<|Zq<|A1<|Zh 18 F0 V rfl LR Y<|Zl Of Y<|Zv (Nj W1 Y Y)<|A6<|AQ Y (fun bn=>?_) (fun bn=>?_);·
  have hy:afQ q c=none:=by have h8:=h2.some_;cases I:afQ q c with|none=>rfl|some y=>(rw [I]at h8;cases p2<;>simp at bn h8)
  refine A1<|Zm Y<|Za Y<|A5 Y<|AJ<|Zt<|DF V ee Y Y (by
   have G:jnT q c ps=(ps.filter fun p=>!QL c.k p,true):=by unfold jnT;rw [An K,hy]
   exact ⟨.slice g9 _ c9,s9,by rw [G],by rw [G];exact h9,rfl⟩)
 obtain ⟨y,hy⟩:∃y,afQ q c=some y:=jj.1 (by rw [<-h2.some_];cases p2<;>simp at bn⊢);rw [hy]at h2;obtain ⟨b2,rfl,rfl⟩:=h2;refine AC<|Zx<|A1<|Zm Y<|Zv (Bf (vs:=[]) (us:=[_]) Y Y)<|Xr [_,_] Y call283 Y V (M8 (B:=[(be,.cells #[I0 q.kd,I0 q.tb,I0 q.cl,I0 q.lo,I0 q.hi,I0 q.bq,I0 q.ot,I0 c.t,I0 c.k,.bool c.had,I0 c.o.a,I0 c.o.b,I0 c.o.c,.bool c.has,I0 c.n.a,I0 c.n.b,I0 c.n.c,.pointer U,I1 b2,I0 (mQ q (bfQ q c)),I0 (mQ q (afQ q c))] 265 (0,0))]) hU 284 [I1 be] (HY (mQ q (afQ q c))) call284 (Xc fun x=>yQ q c U (some ⟨b2,0,none⟩) (mQ q (bfQ q c)) (mQ q (afQ q c)) be x)) ?_;have W:=Tt (HY (mQ q (afQ q c))) ps
 obtain ⟨z9,d9⟩:∃z,z=Gy (HY (mQ q (afQ q c))) ps:=⟨_,rfl⟩;rw [<-d9]at W⊢;refine A5 Y<|Zq<|A1<|Zm Y<|Zv (EI Y Y)<|A6<|Av Y (fun Z=>?_) (fun Z=>?_);·
  have G:jnT q c ps=(ps.filter fun p=>!QL c.k p,(bfQ q c).isSome&&decide (mQ q (bfQ q c)=mQ q (afQ q c))):=by unfold jnT;rw [An K];split;rename_i I;rw [hy]at I;cases I;rw [As (by rw [<-d9];exact Z)]
  refine Zq<|Aw (n:=13) (0::0::2::6::14::30::62::30::158::510::1022::31::4095::[]) 0 AF AF V<|A3 0 V (AO Y)<|A3 1 V (AA (off:=17) F0 V rfl LR Y)<|BE 2 V Of Y<|A3 3 V (Fv W1 Y Y)<|A3 4 V (AO Y)<|Ce (t:=74) Y (fun h1=>?_) (fun h1=>?_);·
   rw [h1];refine B1 5 V (AA (off:=19) F0 V rfl AE Y)<|DP 6 V Wh (BD AH Y Ax)<|B1 7 V (AA (off:=20) F0 V rfl AE Y)<|DP 8 V Wh (BD AH Y Ax)<|B1 9 V (CO Y Y)<|A3 10 V (AX Y Y)<|A3 11 V (Aq Y)<|A3 12 V (Aq Y)<|Ag<|Zn [4,5] ?_;refine Zx<|AJ<|Zt<|DF rfl ee Y Y (by exact ⟨.slice g9 _ c9,s9,by rw [G,<-e1,h1];rfl,by rw [G];exact h9,rfl⟩)
  rw [h1];refine AN 5 V<|AN 6 V<|AN 7 V<|AN 8 V<|AN 9 V<|A3 10 V (AL Y Y)<|A3 11 V (Aq Y)<|A3 12 V (Aq Y)<|Ag<|Zn [4,5] ?_;refine Zx<|AJ<|Zt<|DF rfl ee Y Y (by exact ⟨.slice g9 _ c9,s9,by rw [G,<-e1,h1];rfl,by rw [G];exact h9,rfl⟩)
 rcases W with⟨I,_⟩|⟨k,p,I,hp,_,_⟩
 · exact absurd I A0
 subst I;have G:jnT q c ps=((PI (fun p=>KV q y p.l) (ps.filter fun p=>!QL c.k p) ⟨y,p.r⟩),true):=by
  unfold jnT;rw [An K];split;· rename_i I;rw [hy]at I;cases I
  · rename_i y0 I;rw [hy]at I;injection I with I;subst I;rw [<-d9,An A0,Up,N5,hp];rfl
 have hk:=(C4.1 hp).1;obtain ⟨g,dn,cur,z,cu,rfl,gy,X⟩:=E5 hl A0;injection cu with hv1 hv2 hv3
 subst hv1 hv3;obtain ⟨_,ic,gm⟩:=Qh X hp;refine AC<|Zx<|A1<|Zo Wh (AB cN aE Y B5 (BO V))<|Zc [_] Y call245 Y V (R7 q ek c U (mQ q (bfQ q c)) (mQ q (afQ q c)) y b2) ?_;rintro _ _ ⟨_,⟨b8,b9,rfl,rfl⟩,rfl⟩;refine Ze (Al zeroValue228 #[_])<|AG fun bb=>Xe (Zs sizeOf228 Y Y V (hc:=by exact (V:_=(#[.func (.func 279) #[] ([I1 b8,I1 b9]:List A4).toArray]:AM))) (hi:=by decide))<|Z0<|Zn [1,2,9,10,11] ?_;refine Zx<|Zq<|Cb (s1:=[(bb,_)]) (s2:=_++_++[(b2,_)]) Wo Wo ?_;refine Aw (n:=15) (0::0::2::6::14::0::0::96::224::480::1022::0::4095::8191::16383::[]) 4096 AF AF V<|A3 0 V (AO Y)<|A3 1 V (AA (off:=18) F0 V rfl LR Y)<|BE 2 V Of Y<|A3 3 V (Ak Y V)<|CV (b:=b2) (x:= .cells y.A94 80 (0,0)) (D':=31) 4 V rfl V B4 (Pa y.A94 Cp B3 Y) ?_;refine A3 5 V (AO Y)<|A3 6 V (AO Y)<|A3 7 V (Ad GO H3 Y Y A0)<|A3 8 V (Ap (off:=5) W3 V rfl B3 Y)<|FF 9 V Wh (AB (cs:=p.r.A94) Cp B3 Y A0 gm)<|A3 10 V (BM (vs:=[(0,.agg y.A94),(1,.agg p.r.A94)]) (cs:=#[I0 y.t,I0 y.k,I0 y.v.a,I0 y.v.b,I0 y.v.c,I0 p.r.t,I0 p.r.k,I0 p.r.v.a,I0 p.r.v.b,I0 p.r.v.c]) Y (AZ (pl:=#[(0,5),(5,5)]) i7 W3 (fun _=>by kernel_rfl) AF))<|A3 11 V (Bf (vs:=[]) (us:=[_]) Y Y)<|Zz (l:=[12])<|B7 [false,false,false] [] V rfl (Zw [_,_,_] Y call285 Y V (Tk h9 A0 ⟨y,p.r⟩ 286 [I1 bb] (fun p=>KV q y p.l) call286 (fun x=>tz 279 ([I1 b8,I1 b9]:List A4) (KV q y) call279 (fun x=>bT q ek c U (mQ q (bfQ q c)) (mQ q (afQ q c)) y b2 b8 b9 x) bb x))) ?_ Bp Ah;rintro _ _ ⟨_,⟨s5,s6,h5,rfl⟩,rfl⟩;refine ⟨AY,?_⟩;obtain ⟨g5,c5,rfl⟩:=h5.form;refine A3 13 V (Aq Y)<|A3 14 V (Aq Y)<|Ag<|Zn [4,5] ?_;refine Zx<|AJ<|DF rfl ee Y Y (by exact ⟨.slice g5 _ c5,s5,by rw [G],by rw [G];exact h5,rfl⟩)
theorem fH(q:QM)(c:Chg)(r:C9):(DJ q c r).1.val=r.val:=by unfold DJ;split<;>rfl
theorem fI(q:QM)(c:Chg)(r:C9):(DJ q c r).1.rows.length<=r.rows.length+2:=by
 unfold DJ;split;· exact fj _ _
 · show(DW _).length<=_
   have h:=jy q c (F6 r.rows);rw [KF]at h;rw [IK];omega
theorem kI{rs:List AU}{x:AU}(g:Bw cur 0 (Ae rs))(m:rs[k]?=some x):k*5+5<=cur.size/\cur.extract (0+k*5) (0+k*5+5)=x.A94:=au g m
theorem vK(g:Bw cur 0 (Am rs))(m:rs[k]?=some x):k*10+10<=cur.size/\cur.extract (0+k*10) (0+k*10+10)=#[I0 x.l.t,I0 x.l.k,I0 x.l.v.a,I0 x.l.v.b,I0 x.l.v.c,I0 x.r.t,I0 x.r.k,I0 x.r.v.a,I0 x.r.v.b,I0 x.r.v.c]:=WL g m
set_option maxHeartbeats 1000000 in
theorem eu(q:QM)(kv:0<=q.cl/\q.cl<=3)(c:Chg)(p1 p2:B8){s2:List A9}(e1:p1.isSome=(bfQ q c).isSome)(h2:Il p2 (afQ q c) s2){r:C9}{rv:A4}{sr:List A9}(hr:Bc 5 80 rv r.rows.length (Ae r.rows) sr)(hn:r.rows.length<=100000000):BS prog 208 #[.agg (q.GW c p1 p2 (mQ q (bfQ q c)) (mQ q (afQ q c))),.agg #[rv,I0 r.val,.bool r.fnd]] [sr,s2] (fun w H'=>∃ic s',w= .tuple #[.agg #[ic,I0 (DJ q c r).1.val,.bool (DJ q c r).1.fnd],.bool (DJ q c r).2]/\Bc 5 80 ic (DJ q c r).1.rows.length (Ae (DJ q c r).1.rows) s'/\H'=[s']):=by
 have p8:=mL;obtain ⟨pv,cv,rfl⟩:=hr.form;refine Se func208 ntmps208 [0,1] ?_;intro u R;refine A1<|Ze (F8 Y (cs:=(q.GW c p1 p2 (mQ q (bfQ q c)) (mQ q (afQ q c)))) (GK q c p1 p2 (mQ q (bfQ q c)) (mQ q (afQ q c))))<|AG fun be=>Ze (Bx #[.slice pv r.rows.length cv,I0 r.val,.bool r.fnd])<|AG fun br=>Ze (Al GS #[_,_,_])<|AG fun bo=>A5 Y<|Zq<|A1<|Zh 0 F0 V rfl CM Y<|Zv (Ap (off:=1) CI V rfl AE Y)<|Zl AH Y ?_;refine Zh 0 F0 V rfl CM Y<|Zv (Ap (off:=6) CI V rfl AE Y)<|Zl AH Y ?_;refine Zv (CO Y Y)<|A6<|Av Y (fun X=>?_) (fun X=>?_);·
  refine A1<|Zo Wh (AB (cs:=#[_,_,_]) CN B9 Y B5 Ax) ?_;refine Xe (Xw B9 _) ?_;refine AW Y<|Zn [4,5] ?_;refine Zx<|AJ<|Zt<|CP V results208 Y Wh (Au CN B9 Wn (V)) Y (by
   have e8:DJ q c r=(r,false):=by unfold DJ;rw [As X]
   exact ⟨.slice pv r.rows.length cv,sr,by rw [e8];rfl,by rw [e8];exact hr,rfl⟩)
 refine AC<|Zx<|A1<|A5 Y<|Zq<|Zq<|Be<|Zg<|AW Y<|Zn [2,3,4,6,7] ?_;refine Zx<|AR<|Zb [6,7,2,3,4] ?_;refine BF (e0:=[(6,_),(7,_)]) (fun m e H=>∃(k:Nat) (K:B8) (ck:Nat) (W:List A9),m=r.rows.length -k/\(k<=r.rows.length/2/\Bc 10 361 (.slice K k ck) k (Am ((F6 r.rows).take k)) W)/\e=[(6,.slice K k ck),(7,I0 ((2*k:Nat):Int))]/\H=[W]) (by exact ⟨0,none,0,[],V,⟨C7 _,Bi 10 _⟩,V,V⟩) Wp ?_;rintro _ _ _ ⟨k,K,ck,W,rfl,⟨hk,I⟩,rfl,rfl⟩;refine Zq<|Zq<|Be<|Zg<|Zm Y<|Ya (n:=1) Y Y<|Zh 0 DS V rfl D3 Y<|Zl GF Y ?_;refine Zv (Ab C1 Y)<|Zv (Ay Y Y)<|A6<|Av Y (fun J=>?_) (fun J=>?_);·
  obtain ⟨x,hx⟩:∃x,r.rows[2*k]?=some x:=⟨_,BT A0⟩;obtain ⟨y,hy⟩:∃y,r.rows[2*k+1]?=some y:=⟨_,BT A0⟩;obtain ⟨g,af,cur,z,Z,rfl,gm,G⟩:=E5 hr A0;injection Z with hv1 hv2 hv3
  subst hv1 hv3;obtain ⟨o8,d9⟩:=kI G hx;obtain ⟨o9,dn⟩:=kI G hy;refine AC<|Zx<|Zq<|AR<|Aw (n:=16) (0::0::2::0::14::30::0::64::0::256::960::1984::4094::8190::16383::32767::[]) 24576 AF AF V<|A3 0 V (AO Y)<|A3 1 V (AA (off:=0) DS V rfl D3 Y)<|BE 2 V GF Y ?_;refine A3 3 V (AO Y)<|A3 4 V (Ad C1 B3 Y Y A0)<|FF 5 V Wh (AB (cs:=#[_,_,_,_,_]) Cp B3 Y A0 d9) ?_;refine A3 6 V (AA (off:=0) DS V rfl D3 Y)<|BE 7 V GF Y ?_;refine A3 8 V (AO Y)<|A3 9 V (Df (n:=1) Y Y A0)<|A3 10 V (Ad C1 B3 Y Y A0)<|FF 11 V Wh (AB (cs:=#[_,_,_,_,_]) Cp B3 Y A0 dn) ?_;refine A3 12 V (BM (vs:=[(0,.agg x.A94),(1,.agg y.A94)]) (cs:=#[I0 x.t,I0 x.k,I0 x.v.a,I0 x.v.b,I0 x.v.c,I0 y.t,I0 y.k,I0 y.v.a,I0 y.v.b,I0 y.v.c]) Y (AZ (pl:=#[(0,5),(5,5)]) i7 W3 (fun _=>by kernel_rfl) AF))<|Yw 13 16383 V (Ai (vs:=[_]) (cs:=[_,_,_,_,_,_,_,_,_,_]) GO H3 i7 Y V rfl V rfl V)<|AG fun gp=>Yw 14 32767 V (BV (by_:=80) (sz:=10) GO (V:Tryz.prog.info? 361=some Tryz.t361) V rfl V rfl Y (I) Y (Db 10 gp 1 1 361 (0,0) (Am [⟨x,y⟩]) V) Wo Wo (by exact Et _) A0 A0) ?_;rintro _ _ ⟨l5,O,rfl⟩;obtain ⟨j5,j3,rfl⟩:=O.form;refine A3 15 V (Aq Y)<|Ag<|Zn [2,3,4,6,7] ?_;refine A8<|Zx<|Be<|Zg<|Zm Y<|Ya (n:=2) Y Y<|AW Y<|Zn [6,7,2,3,4] ?_;refine Aa (e':=[(6,_),(7,_)]) (by exact ⟨k+1,j5,j3,l5,rfl,⟨by omega,Ba O rfl (by rw [Bl (sV hx hy),DK])⟩,rfl,rfl⟩)
 have ek:k=(F6 r.rows).length:=by rw [KF];omega
 have gy:=Ba I ek (by rw [ek,GC]);refine Az<|Zt<|Zt<|AV<|Zx<|A1<|Zo Wh (AB cN aE Y B5 (BO V)) ?_;refine Zm Y<|Zc [_,_] Y call247 Y rfl (gV q kv c p1 p2 e1 h2 gy (by rw [KF];omega)) ?_;rintro _ _ ⟨_,⟨lv,s5,rfl,h5,rfl⟩,rfl⟩;have e8:DJ q c r=(⟨DW (jnT q c (F6 r.rows)).1,r.val,r.fnd⟩,(jnT q c (F6 r.rows)).2):=by unfold DJ;rw [An X]
 have cu:=jy q c (F6 r.rows);rw [KF]at cu;obtain ⟨L,hL⟩:∃L,L=(jnT q c (F6 r.rows)).1:=⟨_,rfl⟩;rw [<-hL]at h5 e8 cu;obtain ⟨g5,c5,rfl⟩:=h5.form;refine Zm Y<|Zd Y V<|Zd Y V<|Za Y<|AW Y<|Zn [3,4,6,8] ?_;refine Zx<|A1<|Zh 0 DS V rfl D3 Y<|Xe (Zs D3 Y Y V (hc:=by exact (V:_=(#[.slice none 0 0,I0 r.val,.bool r.fnd]:AM))) (hi:=by(simp;done))) ?_;refine A6<|Zq<|Zq<|Be<|Zg<|Zm Y<|Zv (Ab GO Y)<|Zm Y<|A6<|AR<|Zb [51,3,4,8,49,50] ?_;refine BF (e0:=[(51,_)]) (fun m e H=>∃(k:Nat) (K:B8) (ck:Nat) (W:List A9),m=L.length -k/\(k<=L.length/\Bc 5 80 (.slice K (2*k) ck) (2*k) (Ae (DW (L.take k))) W)/\e=[(51,I0 (k:Int))]/\H=[[(br,.cells #[.slice K (2*k) ck,I0 r.val,.bool r.fnd] 61 (0,0))],W]) (by exact ⟨0,none,0,[],V,⟨C7 _,Bi 5 _⟩,V,V⟩) Wp ?_;rintro _ _ _ ⟨k,K,ck,W,rfl,⟨hk,I⟩,rfl,rfl⟩;refine Zq<|Be<|Zg<|Zv (Ay Y Y)<|A6<|Zq<|Av Y (fun J=>?_) (fun J=>?_);·
  obtain ⟨p,hp⟩:∃p,L[k]?=some p:=⟨_,BT J⟩;obtain ⟨g,af,cur,z,Z,rfl,gm,G⟩:=E5 h5 A0;injection Z with hv1 hv2 hv3
  subst hv1 hv3;obtain ⟨l9,cO⟩:=vK G hp;refine AC<|Zx<|Zq<|AR<|Zq<|Be<|Zg<|BZ (Ad GO H3 Y Y A0)<|Zo Wh (AB (cs:=#[_,_,_,_,_,_,_,_,_,_]) isAgg361 H3 Y A0 cO) ?_;refine Ze (Al i7 #[_,_,_,_,_,_,_,_,_,_])<|AG fun bp=>Xe (Xw H3 #[I0 p.l.t,I0 p.l.k,I0 p.l.v.a,I0 p.l.v.b,I0 p.l.v.c,I0 p.r.t,I0 p.r.k,I0 p.r.v.a,I0 p.r.v.b,I0 p.r.v.c]) ?_;refine A6<|Zg<|Zh 0 DS V rfl D3 Y<|Zl GF Y ?_;refine Zh 0 W3 V rfl B3 Y<|Zo Wh (AB (cs:=#[_,_,_,_,_]) Cp B3 Y B5 Ax) ?_;refine Zh 5 W3 V rfl B3 Y<|Zo Wh (AB (cs:=#[_,_,_,_,_]) Cp B3 Y B5 Ax) ?_;refine Ze (Ai (vs:=[_,_]) (cs:=[_,_,_,_,_,_,_,_,_,_]) C1 B3 EV Y V rfl V rfl V)<|AG fun gq=>Ze (BV (by_:=40) (sz:=5) C1 (V:Tryz.prog.info? 80=some Tryz.t80) V rfl V rfl Y (I) Y (Db 5 gq 2 2 80 (0,0) (Ae [p.l,p.r]) V) Wo Wo (by exact CW _) A0 A0) ?_;rintro _ _ ⟨l8,U,rfl⟩;obtain ⟨bn,ax,rfl⟩:=U.form;refine Zh 0 DS V rfl D3 Y<|Xe (Zs D3 Y Y V (hc:=by exact (V:_=(#[.slice bn (2*k+2) ax,I0 r.val,.bool r.fnd]:AM))) (hi:=by(simp;done))) ?_;refine Z0<|Zn [3,4,8,49,50,51] ?_;refine A8<|Zx<|Be<|Zg<|Ya (n:=1) Y Y<|Zm Y<|Z0<|Zn [51,3,4,8,49,50] ?_;refine Aa (e':=[(51,_)]) (by exact ⟨k+1,bn,ax,l8,rfl,⟨by omega,Ba U rfl (by rw [Sb hp,Bo])⟩,rfl,rfl⟩)
 have ek:k=L.length:=by omega
 subst ek;rw [GC]at I;refine Az<|Zt<|Zt<|AV<|Zx<|A1<|Zo Wh (AB (cs:=#[_,_,_]) CN B9 Y B5 Ax) ?_;refine Zm Y<|Xe (Xw B9 _) ?_;refine A5 Y<|AJ<|CP rfl results208 Y Wh (Au CN B9 Wn (rfl)) Y (by exact ⟨.slice K (2*L.length) ck,W,by rw [e8];rfl,by rw [e8];exact Ba I (IK L).symm rfl,rfl⟩)
end Go.Proofs.YthhakdmlpngcmaaGreatDoor
