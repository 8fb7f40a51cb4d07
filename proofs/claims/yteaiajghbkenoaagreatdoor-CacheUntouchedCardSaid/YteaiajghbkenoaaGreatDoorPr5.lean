/- Pairs of rows in memory; slices.Clone, IndexFunc, DeleteFunc, Insert at pairs. -/
/- predicate.without, inserted at pairs. -/
/- The pairs of a join: plain words, the closures. -/
/- effect.join. -/
/- effect.join. -/
/- predicate.patchJoin. -/
/- The patches of least and greatest values; the patch of a kind. -/
/- predicate.Patch, Apply. -/
import Derived.Test.YteaiajghbkenoaaGreatDoorEz
import Derived.Test.YteaiajghbkenoaaGreatDoorPr3
import Derived.Test.YteaiajghbkenoaaGreatDoorEx5
set_option linter.unusedVariables false
set_option linter.unusedSimpArgs false
namespace Go.Proofs.YteaiajghbkenoaaGreatDoor
open Go.Proofs.Tryz
open Go Go.RowKit Gw
set_option maxRecDepth 100000
attribute [local irreducible] Gw.At Gw.Nx Gw.Ops
structure Bc where
 l:AU
 r:AU
deriving DecidableEq
def Ao(ps:List Bc):List Value:=ps.flatMap fun p=>[I4 p.l.t,I4 p.l.k,I4 p.l.v.a,I4 p.l.v.b,I4 p.l.v.c,I4 p.r.t,I4 p.r.k,I4 p.r.v.a,I4 p.r.v.b,I4 p.r.v.c]
theorem DF(a b:List Bc):Ao (a++b)=Ao a++Ao b:=by unfold Ao;rw [N1]
theorem BD:∀(rs:List Bc),(Ao rs).length=rs.length*10
 |[]=>rfl
 |r::rs=>by
  have:=BD rs;unfold Ao at*;rw [HL,B7,this,DH];simp;omega
theorem Fb(rs:List Bc)(k:Nat):(Ao rs).take (k*10)=Ao (rs.take k):=by
 rcases Dg rs.length k with h|h
 · rw [Hv (by rw [BD];omega),Hv A1]
 · have e:Ao rs=Ao (rs.take k)++Ao (rs.drop k):=by rw [<-DF,I3]
   rw [e,HM (by rw [BD,C1];omega)]
theorem LY(rs:List Bc)(k:Nat):(Ao rs).drop (k*10)=Ao (rs.drop k):=by
 rcases Dg rs.length k with h|h
 · rw [SO (by rw [BD];omega),SO A1];rfl
 · have e:Ao rs=Ao (rs.take k)++Ao (rs.drop k):=by rw [<-DF,I3]
   rw [e,W3 (by rw [BD,C1];omega)]
theorem Eh(rs:List Bc):∀u∈Ao rs,u.oneCell'=true:=by
 intro u g;unfold Ao at g;obtain ⟨r,_,h⟩:=Rg.1 g;simp only [D2,RT,RC]at h;rcases h with rfl|rfl|rfl|rfl|rfl|rfl|rfl|rfl|rfl|rfl<;>rfl
def UC(M:List A9)(v:Value)(rs:List Bc):Prop:=∃p cap,v= .slice p rs.length cap/\(rs.length<=maxLen/\rs.length<=cap)/\∀(i:Nat) (x:Bc),rs[i]?=some x->∃g off cur T zz,p=some ⟨g,off,none⟩/\(g,Obj.cells cur T zz)∈M/\off+i*10+10<=cur.size/\cur.extract (off+i*10) (off+i*10+10)=#[I4 x.l.t,I4 x.l.k,I4 x.l.v.a,I4 x.l.v.b,I4 x.l.v.c,I4 x.r.t,I4 x.r.k,I4 x.r.v.a,I4 x.r.v.b,I4 x.r.v.c]
variable{v:Value}{rs:List Bc}{s:List A9}
theorem NQ{e:TypeId}(h:Bb 10 e v rs.length (Ao rs) s)(J:rs.length<=maxLen):UC s v rs:=by
 obtain ⟨b,cap,rfl⟩:=h.form;refine ⟨b,cap,V,⟨J,Et h⟩,fun i x I=>?_⟩;obtain ⟨g,G,cur,z,hv,rfl,K,m⟩:=J7 h i (B9.1 I).1;injection hv with hv1 hv2 hv3
 refine ⟨g,0,cur,e,z,hv1,by simp,by omega,?_⟩;unfold Ao at m;rw [IG _ 10 (fun _=>rfl) rs i x I]at m;rw [Cl];exact HC.1 m
variable{k:Nat}
theorem Rp{r:Bc}(h:rs[k]?=some r):Ao rs=Ao (rs.take k)++(Ao [r]++Ao (rs.drop (k+1))):=by
 rw [<-DF,<-DF];congr 1;obtain ⟨g,rfl⟩:=B9.1 h;rw [MA,<-RE g,I3]
theorem Iq{r:Bc}(h:rs[k]?=some r)(j:Nat)(g:j<10):(Ao rs)[k*10+j]?=(Ao [r])[j]?:=by
 have m:=(B9.1 h).1;have e:(Ao (rs.take k)).length=k*10:=by rw [BD,C1];omega
 rw [Rp h,OS A1,Wr (by rw [e,BD];simp;omega),e,Nat.add_sub_cancel_left]
variable{n:Nat}
theorem Ws{M:List A9}{p:Option Addr}{cap:Nat}(h:UC M (.slice p n cap) rs):FJ M p (Ao rs):=by
 obtain ⟨p',J,e,Z,W⟩:=h;injection e with e1 e2 e3
 subst e1;intro j u K;have G:=(B9.1 K).1
 rw [BD]at G;obtain ⟨x,O⟩:∃x,rs[j/10]?=some x:=⟨_,B4 A1⟩;obtain ⟨g,off,cur,T,zz,rfl,X,I,m⟩:=W (j/10) x O;refine ⟨g,off,cur,T,zz,V,X,?_⟩;have U:=PI m I (j%10) A1
 have h2:=Iq O (j%10) A1;rw [show j/10*10+j%10=j by omega,K]at h2;rw [show off+j=off+j/10*10+j%10 by omega,U,h2,<-HG];rfl
theorem X4{M:List A9}(hv:UC M v rs)(hb:rs.length<=1000000000000):BZ prog 297 #[v] [M] (fun r H'=>∃O,Bb 10 310 r rs.length (Ao rs) O/\H'=[O,M]):=by
 have Z:=mL;obtain ⟨p,cap,rfl,⟨hl,X⟩,W⟩:=id hv;have G:FJ M p (Ao rs):=Ws hv
 refine Se func297 ntmps297 [0] ?_;intro u R;refine A0<|A3 Y<|Zq<|A0<|Zm Y<|Zv (Dn Fo Y Y)<|A4<|AX Y (fun K=>?_) (fun K=>?_)
 ·
  have I:p=none:=by cases p with
   |none=>rfl
   |some x=>cases K
  have h0:rs=[]:=by
   cases rs with
   |nil=>rfl
   |cons x l=>obtain ⟨g,off,cur,T,zz,J,_⟩:=W 0 x rfl;rw [I]at J;cases J
  refine Zq<|BV<|Zg<|A3 Y<|AJ<|Zt<|AP rfl results297 Y (by exact ⟨[],by rw [h0];exact Bf 10 _,rfl⟩)
 refine AC<|Zx<|A0<|Ze (EM Fo GB)<|AD fun U=>Zm Y<|Ze (Ha (by_:=80) (sz:=10) Fo (V:Tryz.prog.info? 310=some Tryz.t310) V rfl V rfl Y (IP 10 310 U 0 [] V AW) Y (G) (by exact BD _) AW Wo Wo (by exact Eh _) A1 A1) ?_;rintro _ _ ⟨af,m,rfl⟩;replace m:=BS m (Cl _) (Ks _);refine A3 Y<|AJ<|AP V results297 Y (by exact ⟨_,m,V⟩)
def Gt(pd:Bc->Bool)(rows:List Bc):Int:=(rows.findIdx? pd).elim (-1) fun i=>(i:Int)
variable{rows:List Bc}{i:Nat}{x:Bc}
theorem lq{g:Bc->Bool}(h:∀(j:Nat) (y:Bc),j<i->rows[j]?=some y->g y=false)(I:rows[i]?=some x)(G:g x=true):Gt g rows=(i:Int):=by
 obtain ⟨hi,rfl⟩:=B9.1 I;unfold Gt;rw [Wg.2 ⟨hi,G,fun j m=>by simp [h j _ m (B4 A1)]⟩];rfl
theorem lu{m:Bc->Bool}(h:∀(j:Nat) (y:Bc),j<rows.length->rows[j]?=some y->m y=false):Gt m rows=-1:=by
 unfold Gt;rw [cM.2 fun y G=>by
  obtain ⟨j,g⟩:=GW G;exact h j y (B9.1 g).1 g]
 rfl
theorem TY(g:Bc->Bool)(rows:List Bc):(Gt g rows=-1/\∀y∈rows,g y=false)\/∃(i:Nat) (x:Bc),Gt g rows=(i:Int)/\rows[i]?=some x/\g x=true/\∀(j:Nat) (y:Bc),j<i->rows[j]?=some y->g y=false:=by
 unfold Gt;cases h:rows.findIdx? g with
 |none=>exact .inl ⟨rfl,cM.1 h⟩
 |some i=>
  obtain ⟨m,h2,G⟩:=Wg.1 h;refine .inr ⟨i,_,V,B4 m,h2,fun j y I J=>?_⟩;obtain ⟨K,rfl⟩:=B9.1 J;simpa using G j I
theorem kP(g:k<rs.length)(x:Bc):(Ao rs).take (k*10)++Ao [x]++(Ao rs).drop (k*10+(Ao [x]).length)=Ao (rs.set k x):=by
 rw [show k*10+(Ao [x]).length=(k+1)*10 by rw [BD];simp;omega,Fb,LY,<-DF,<-DF,iu,AM g];simp
variable{cur:Array Value}
theorem Vv(g:C9 cur 0 (Ao rs))(G:rs[k]?=some x):k*10+10<=cur.size/\cur.extract (0+k*10) (0+k*10+10)=(Ao [x]).toArray:=by
 have W:=(B9.1 G).1;have U:k*10+10<=cur.size:=by
  have K:=Iq G 9 AW;have O:=g.get (k*10+9) _ (K.trans AN)
  have:=(HK.1 O).1;omega
 refine ⟨U,?_⟩;apply HC.1;apply Ln;intro j;rw [HG,al];split
 · rename_i hj
   have m:j<10:=by omega
   have I:=Iq G j m;obtain ⟨u,J⟩:∃u,(Ao [x])[j]?=some u:=⟨_,B4 (by rw [BD];simpa using m)⟩;rw [J]at I;have h2:=g.get _ _ I
   rw [Cl]at h2;rw [Cl,h2];exact J.symm
 · rw [LS]
   show(Ao [x]).length<=j;rw [BD];simp only [E7];omega
theorem Km{j:Nat}(f:Bc->Bool)(g:rows[j]?=some x):(rows.take (j+1)).filter f=(rows.take j).filter f++(if f x then [x]else []):=by
 rw [Bn g,Hh];congr 1;rw [bj,kh]
theorem M4{f:Bc->Bool}(h:∀(j:Nat) (y:Bc),rows[j]?=some y->f y=true):rows.filter f=rows:=jt.2 fun y m=>by
 obtain ⟨j,g⟩:=GW m;exact h j y g
variable{B A:List A9}
theorem Lx(hv:UC A v rows)(G:Nat)(us:List Value)(Z:Bc->Bool)(U:∀(args:Array Value) (w:World),(callFunc G args).run prog w= .ok (.enter G args) w)(hf:∀x:Bc,BI prog G (.agg #[I4 x.l.t,I4 x.l.k,I4 x.l.v.a,I4 x.l.v.b,I4 x.l.v.c,I4 x.r.t,I4 x.r.k,I4 x.r.v.a,I4 x.r.v.b,I4 x.r.v.c]::us).toArray [B] (.bool (Z x))):BI prog 261 #[v,.func (.func G) #[] us.toArray] [A,B] (I4 (Gt Z rows)):=by
 have bn:=mL;obtain ⟨p,cap,rfl,⟨hl,ax⟩,hg⟩:=id hv;refine Se func261 ntmps261 [0,1] ?_;intro u R;refine A0<|A3 Y<|Zq<|A0<|Zm Y<|Zv (Aa Fo Y)<|Zm Y<|A4<|AQ<|Zb [8,0,1,7] ?_;refine BB (e0:=[(8,_)]) (fun m e H=>∃(i:Nat),m=rows.length -i/\(i<=rows.length/\∀(j:Nat) (y:Bc),j<i->rows[j]?=some y->Z y=false)/\e=[(8,I4 (i:Int))]/\H=[]) (by exact ⟨0,V,⟨C0 _,fun j y h=>by omega⟩,V,V⟩) Wp ?_;rintro _ _ _ ⟨i,rfl,⟨hi,I⟩,rfl,rfl⟩;refine A0<|Zv (Av Y Y)<|A4<|Zq<|Au Y (fun O=>?_) (fun O=>?_)
 ·
  obtain ⟨x,X⟩:∃x,rows[i]?=some x:=⟨_,B4 O⟩;obtain ⟨g,off,cur,T,zz,rfl,W,af,K⟩:=hg i x X;refine AC<|Zx<|Zq<|AQ<|A0<|Zm Y<|A3 Y<|A0<|Zm Y<|Zm Y<|Zm Y<|BX (Ac Fo GB Y Y A1)<|CQ (cs:=[(g,.cells cur T zz)]) (by simp [W]) (AA (cs:=#[I4 x.l.t,I4 x.l.k,I4 x.l.v.a,I4 x.l.v.b,I4 x.l.v.c,I4 x.r.t,I4 x.r.k,I4 x.r.v.a,I4 x.r.v.b,I4 x.r.v.c]) isAgg310 GB Y A1 K) V rfl ?_;refine Xr [_] Y (U) Y V (hf x) ?_;refine A4<|AX Y (fun J=>?_) (fun J=>?_)
  ·
   refine A0<|Zm Y<|A3 Y<|AJ<|Ae<|Zt<|Zt<|Ae<|Zt<|AP V results261 Y (by exact ⟨congrArg (Value.int .i64) (lq I X J).symm,V⟩)
  refine AC<|A8<|Zx<|Zg<|Ya (n:=1) Y Y<|Zm Y<|Z0<|Zn [8,0,1,7] ?_;refine Ab (e':=[(8,_)]) (by exact ⟨i+1,rfl,⟨by omega,fun j y h1 h2=>by rcases Dg j i with h9|h9;exact I j y h9 h2;obtain rfl:j=i:=A1;rw [X]at h2;injection h2 with h2;subst h2;exact J⟩,rfl,rfl⟩)
 have ei:i=rows.length:=by omega
 subst ei;refine Ay<|Zt<|Zt<|AR<|Zx<|A0<|A3 Y<|AJ<|AP V results261 Y (by exact ⟨congrArg (Value.int .i64) (lu I).symm,V⟩)
set_option maxHeartbeats 1000000 in
theorem XZ(G:Bb 10 310 v rows.length (Ao rows) s)(hn:rows.length<=1000000000)(J:Nat)(us:List Value)(U:Bc->Bool)(bn:∀(args:Array Value) (w:World),(callFunc J args).run prog w= .ok (.enter J args) w)(hf:∀x:Bc,BI prog J (.agg #[I4 x.l.t,I4 x.l.k,I4 x.l.v.a,I4 x.l.v.b,I4 x.l.v.c,I4 x.r.t,I4 x.r.k,I4 x.r.v.a,I4 x.r.v.b,I4 x.r.v.c]::us).toArray [B] (.bool (U x))):BZ prog 296 #[v,.func (.func J) #[] us.toArray] [s,B] (fun r H'=>∃s',Bb 10 310 r (rows.filter fun x=>!U x).length (Ao (rows.filter fun x=>!U x)) s'/\H'=[s',B]):=by
 have o9:=mL;obtain ⟨p,cap,rfl⟩:=G.form;have hU:=NQ G A1
 refine Se func296 ntmps296 [0,1] ?_;intro u R;refine A0<|A3 Y<|A0<|Zm Y<|Zm Y<|Xr [_,_] Y call261 Y V (Lx hU J us U bn hf) ?_;rcases TY U rows with⟨e9,X⟩|⟨k,x0,e9,hx0,hp0,hno⟩
 ·
  rw [e9];refine A3 Y<|Zq<|A0<|Zm Y<|Zv (CP Y Y)<|A4<|Au Y (fun h1=>?_) (fun h1=>?_)
  ·
   refine A0<|Zm Y<|A3 Y<|AJ<|Zt<|AP rfl results296 Y (by exact ⟨_,BS G (congrArg List.length (M4 fun j y hy=>by rw [X y (DE hy)];rfl).symm) (congrArg Ao (M4 fun j y hy=>by rw [X y (DE hy)];rfl).symm),rfl⟩)
  exact absurd V h1
 rw [e9];have o8:=(B9.1 hx0).1
 obtain ⟨g,ic,cur,z,gB,rfl,kv,j5⟩:=Dz G A1;injection gB with hv1 hv2 hv3
 subst hv1 hv3;refine A3 Y<|Zq<|A0<|Zm Y<|Zv (CP Y Y)<|A4<|Au Y (fun h2=>by omega)<|fun h2=>AC<|Zx<|Zq<|A0<|Zm Y<|Ya (n:=1) Y Y<|A3 Y<|AQ<|Zb [5,6,0,1] ?_;refine BB (e0:=[(5,_),(6,_)]) (fun m e H=>∃(i j:Nat) (W:List Bc) (cur:Array Value),m=rows.length -j/\((i<j/\j<=rows.length)/\W.length=rows.length/\Bb 10 310 (I6 g rows.length cap) rows.length (Ao W) [(g,.cells cur 310 z)]/\W.take i=(rows.take j).filter (fun x=>!U x)/\∀t,j<=t->W[t]?=rows[t]?)/\e=[(5,I4 (i:Int)),(6,I4 (j:Int))]/\H=[[(g,.cells cur 310 z)]]) (by exact ⟨k,k+1,rows,cur,rfl,⟨⟨by omega,by omega⟩,rfl,G,by rw [Km _ hx0,hp0];simp only [S1,MT,HI,DB];exact (M4 (fun j y hy=>by rw [HA]at hy;split at hy;rw [hno j y dr hy];rfl;cases hy)).symm,fun t _=>rfl⟩,rfl,rfl⟩) Wp ?_;rintro _ _ _ ⟨i,j,W,cur,rfl,⟨l9,ax,O,K,af⟩,rfl,rfl⟩;obtain ⟨d9,cu,l5,j3,Z⟩:=JX O;refine Zq<|A0<|Zm Y<|Zm Y<|Zv (Aa Fo Y)<|Zv (Av Y Y)<|A4<|Au Y (fun ek=>?_) (fun ek=>?_)
 ·
  obtain ⟨x,hx⟩:∃x,rows[j]?=some x:=⟨_,B4 ek⟩;obtain ⟨l8,cO⟩:=Vv d9 ((af j (CD _)).trans hx);refine AC<|Zx<|Zq<|AQ<|A0<|Zm Y<|Zm Y<|BX (Ac Fo GB Y Y A1)<|Zo Wh (AA (cs:=#[I4 x.l.t,I4 x.l.k,I4 x.l.v.a,I4 x.l.v.b,I4 x.l.v.c,I4 x.r.t,I4 x.r.k,I4 x.r.v.a,I4 x.r.v.b,I4 x.r.v.c]) isAgg310 GB Y A1 cO) ?_;refine Ze (Al eo #[_,_,_,_,_,_,_,_,_,_])<|AD fun bx=>Xe (Xw GB #[I4 x.l.t,I4 x.l.k,I4 x.l.v.a,I4 x.l.v.b,I4 x.l.v.c,I4 x.r.t,I4 x.r.k,I4 x.r.v.a,I4 x.r.v.b,I4 x.r.v.c]) ?_;refine A4<|A0<|Zm Y<|Zo Wh (AA (cs:=#[_,_,_,_,_,_,_,_,_,_]) isAgg310 GB Y Ax AN) ?_;refine Xr [_] Y (bn) Y V (hf x) ?_;refine Zv (Bo Y)<|Z0<|Zn [0,1,5,6,7,29] ?_;refine Zx<|AX Y (fun I=>?_) (fun I=>?_)
  ·
   have I:U x=false:=by simpa using I
   have gm:=BS (xs':=Ao (W.set i x)) (EP (i:=0+i*10) (ys:=Ao [x]) O (by rw [BD,BD,E7];omega)) rfl (by rw [Cl];exact kP A1 x);refine A0<|Zm Y<|Zm Y<|Zo Wh (AA (cs:=#[_,_,_,_,_,_,_,_,_,_]) isAgg310 GB Y Ax AN) ?_;refine BX (Ac Fo GB Y Y A1)<|Xe (BK GB Y Y HJ Wu (by exact (rfl:_=EJ cur (0+i*10) (Ao [x]))) E3 A1 (by exact Z)) ?_;refine A4<|Zg<|Zm Y<|Ya (n:=1) Y Y<|AG Y<|A8<|Zx<|Zg<|Zm Y<|Ya (n:=1) Y Y<|AG Y<|Zn [5,6,0,1] ?_;refine Ab (e':=[(5,_),(6,_)]) (by exact ⟨i+1,j+1,W.set i x,_,rfl,⟨by omega,by rw [cQ];exact ax,gm,by rw [YE A1,K,Km _ hx];simp [I],fun t ht=>by rw [List.getElem?_set_ne A1];exact af t A1⟩,rfl,rfl⟩)
  have I:U x=true:=by simpa using I
  refine AC<|A8<|Zx<|Zg<|Zm Y<|Ya (n:=1) Y Y<|AG Y<|Zn [5,6,0,1] ?_;refine Ab (e':=[(5,_),(6,_)]) (by exact ⟨i,j+1,W,cur,rfl,⟨by omega,ax,O,by rw [K,Km _ hx];simp [I],fun t ht=>af t A1⟩,rfl,rfl⟩)
 have ej:j=rows.length:=by omega
 subst ej;rw [G0]at K;have gy:(rows.filter fun x=>!U x).length=i:=by rw [<-K,C1];omega
 refine Ay<|Zt<|Zt<|AR<|Zx<|A0<|Zm Y<|Zm Y<|BX (CB Fo GB Y Y A1)<|Ze (O8 Fo (V:Tryz.prog.info? 310=some Tryz.t310) V rfl (by simp [Value.cells,Value.oneCell']) Y A1 cu Z Wo) ?_;rintro _ _ rfl;have gq:=VE (EP (i:=i*10) (ys:=(Builtin.zeroCells (Value.agg #[I4 0,I4 0,I4 0,I4 0,I4 0,I4 0,I4 0,I4 0,I4 0,I4 0]).cells (rows.length -i)).toList) O (by rw [SR,size_zeroCells,BD];show i*10+(rows.length -i)*10<=_;omega)) i A1
 refine A4<|A0<|Zm Y<|Zm Y<|BX (Bt Fo GB Y Y A1)<|A3 Y<|AJ<|AP V results296 Y (by
  refine ⟨_,BS gq gy.symm ?_,V⟩;rw [CN,HM (by rw [C1,BD];omega),Fb,K])
theorem lc{A Y D:List Value}(g:A.length=(n+1)*10)(hi:i<=n)(G:Y.length=10)(m:D.length=(n -i)*10):(A.take (0+i*10)++Y++A.drop (0+i*10+Y.length)).take (0+(i+1)*10)++D++(A.take (0+i*10)++Y++A.drop (0+i*10+Y.length)).drop (0+(i+1)*10+D.length)=A.take (i*10)++Y++D:=by
 rw [Cl,Cl,HM (by rw [B7,C1];omega),SO (by simp only [B7,C1,C2];omega),DB]
theorem fM{A Y D:List Value}(g:A.length=(n+1)*10)(hi:i<=n)(G:Y.length=10)(m:D.length=(n -i)*10):(A.take (0+(i+1)*10)++D++A.drop (0+(i+1)*10+D.length)).take (0+i*10)++Y++(A.take (0+(i+1)*10)++D++A.drop (0+(i+1)*10+D.length)).drop (0+i*10+Y.length)=A.take (i*10)++Y++D:=by
 rw [Cl,Cl,SO (l:=A) A1,DB,a8 (by rw [C1];omega),TX,N3 A1,W3 (by rw [C1];omega)]
theorem VC(rows:List Bc)(i:Nat)(y:Bc):(Ao rows).take (i*10)++Ao [y]++Ao (rows.drop i)=Ao (rows.take i++[y]++rows.drop i):=by
 rw [Fb,DF,DF]
theorem Qr{c:Array Value}(h:C9 c 0 (Ao rows))(i:Nat)(hi:i<=rows.length):C9 c (0+i*10) (Ao (rows.drop i)):=by
 have g:=Iw h (i*10) ((rows.length -i)*10) (by rw [BD];omega);rw [LY,Hv (by rw [BD,C2];omega)]at g;exact g
theorem ag{c:Array Value}(h:C9 c 0 (Ao rows))(i:Nat)(hi:i<=rows.length):C9 c 0 (Ao (rows.take i)):=by
 have g:=Iw h 0 (i*10) (by rw [BD];omega);rw [Pr,Fb]at g;exact g
theorem TV(rows:List Bc)(i:Nat)(hi:i<=rows.length)(y:Bc):(rows.take i++[y]++rows.drop i).length=rows.length+1:=by
 simp only [B7,C1,C2,E7];omega
set_option maxHeartbeats 1000000 in
theorem XN(m:Bb 10 310 v rows.length (Ao rows) s)(hn:rows.length<=1000000000)(i:Nat)(hi:i<=rows.length)(y:Bc)(U:Nat):BZ prog 298 #[v,I4 (i:Int),I6 U 1 1] [s,[(U,.cells #[I4 y.l.t,I4 y.l.k,I4 y.l.v.a,I4 y.l.v.b,I4 y.l.v.c,I4 y.r.t,I4 y.r.k,I4 y.r.v.a,I4 y.r.v.b,I4 y.r.v.c] 310 (0,0))]] (fun r H'=>∃s' s2,Bb 10 310 r (rows.take i++[y]++rows.drop i).length (Ao (rows.take i++[y]++rows.drop i)) s'/\H'=[s',s2,[(U,.cells #[I4 y.l.t,I4 y.l.k,I4 y.l.v.a,I4 y.l.v.b,I4 y.l.v.c,I4 y.r.t,I4 y.r.k,I4 y.r.v.a,I4 y.r.v.b,I4 y.r.v.c] 310 (0,0))]]):=by
 have l9:=mL;obtain ⟨p,cap,rfl⟩:=m.form;have l8:=Et m
 refine Se func298 ntmps298 [0,1,2] ?_;intro u R;refine A0<|A3 Y<|Zq<|BV<|Zg<|Zm Y<|Zm Y<|BX (CB Fo GB Y Y A1)<|A4<|A0<|Zm Y<|Zv (Aa Fo Y)<|A3 Y<|Zq<|A0<|Zm Y<|Zv (CR (n:=0) Y Y)<|A4<|Au Y (fun h0=>by cases h0)<|fun h0=>AC<|Zx<|A0<|Zm Y<|Zv (Aa Fo Y)<|A3 Y<|Zq<|A0<|Zm Y<|Zm Y<|Zv (CR Y Y)<|Z0<|Zn [0,1,2,7,8,22] ?_;refine Zx<|Au Y (fun W=>?_) (fun W=>?_)
 ·
  refine A0<|Zm Y<|Zm Y<|Ze (BR (by_:=80) (sz:=10) Fo (V:Tryz.prog.info? 310=some Tryz.t310) V rfl V rfl Y (m) Y (DC 10 U 1 1 310 (0,0) (Ao [y]) V) Wo Wo (by exact Eh _) A1 A1) ?_;rintro _ _ ⟨o8,O,rfl⟩;obtain ⟨j5,j3,rfl⟩:=O.form;refine A3 Y<|AJ<|Zt<|AP V results298 Y (by
   have W:i=rows.length:=by omega
   subst W;exact ⟨_,[],BS O (TV rows _ (CD _) y).symm (by rw [G0,gS,DB,DF]),rfl⟩)
 obtain ⟨g,d9,cur,z,cu,rfl,ic,I⟩:=Dz m A1;injection cu with hv1 hv2 hv3
 subst hv1 hv3;obtain ⟨_,l5,_,kv,Z⟩:=JX m;refine AC<|Zx<|Zq<|A0<|Zm Y<|Zm Y<|Ya Y Y<|Zm Y<|Zv (Qi Fo Y)<|Zv (DJ Y Y)<|A4<|Au Y (fun hg=>?_) (fun hg=>?_)
 ·
  refine A0<|Zm Y<|Zm Y<|BX (Bt Fo GB Y Y A1)<|Zm Y<|Zm Y<|Ya Y Y<|Zm Y<|Yb Y Y ?_;refine Ze (L6 (by_:=80) (sz:=10) (xs:=Ao (rows.take i)) Fo Cp (rfl:Tryz.prog.info? 310=some Tryz.t310) rfl rfl rfl rfl Y Y Wh (ag I i hi) (by rw [BD,C1];omega) A1 AW A1 A1 A1) ?_;rintro _ _ ⟨s9,J,rfl⟩;rw [show i+(rows.length+1 -i)=rows.length+1 by omega]at J;have G:=J.1
  obtain ⟨g3,cO,ek,z3,rfl,rfl,gB,gy⟩:=Dz J A1;obtain ⟨_,gq,_,gm,K⟩:=JX J;refine AG Y<|Zn [0,1,2,7,9] ?_;refine Zx<|A0<|Zm Y<|Zm Y ?_
  (refine BX (Bq Fo GB Y Y ?_ ?_) ?_;(focus (omega));(focus (omega)))
  refine Zm Y<|Xe (JQ (cs:=Ao [y]) Fo GB Y Y Wh Wo ((rfl:C9 (#[I4 y.l.t,I4 y.l.k,I4 y.l.v.a,I4 y.l.v.b,I4 y.l.v.c,I4 y.r.t,I4 y.r.k,I4 y.r.v.a,I4 y.r.v.b,I4 y.r.v.c]:Array Value) 0 (Ao [y]))) (by rw [BD,E7];omega) (by rw [BD,E7];omega) (K) (Eh _)) ?_;refine A4<|Zq<|Az (n:=9) (0::0::0::6::15::0::0::96::255::[]) 256 A6 A6 V<|A2 0 V (AO Y)<|A2 1 V (AO Y)<|A2 2 V (AO Y)<|A2 3 V (Dm Y Y A1) ?_
  (refine Dp (D':=31) 4 (Bq Fo GB Y Y ?_ ?_) ?_;(focus (omega));(focus (omega)))
  refine A2 5 V (AO Y)<|A2 6 V (AO Y) ?_
  (refine Dp (D':=255) 7 (Bq Fo GB Y Y ?_ ?_) ?_;(focus (omega));(focus (omega)))
  refine Yw 8 511 rfl (JQ (cs:=Ao (rows.drop i)) Fo GB Y Y Wh Wo (Qr I i hi) (by rw [BD,C2];omega) (by rw [BD,C2,GH (by rw [BD,E7];omega)];omega) (by rw [GH (by rw [BD,E7];omega)];exact K) (Eh _))<|CT<|Ah<|Zn [9] ?_;refine Zx<|A0<|Zm Y<|A3 Y<|AJ<|Zt<|AP V results298 Y (by
   refine ⟨_,[(g,.cells cur 310 z)],BS (EP (i:=0+(i+1)*10) (ys:=Ao (rows.drop i)) (EP (i:=0+i*10) (ys:=Ao [y]) J (by rw [G,BD,E7];omega)) ?_) (TV rows i hi y).symm ?_,rfl⟩
   · simp only [B7,C1,C2,G,BD,E7];omega
   · rw [lc G hi (by rw [BD];rfl) (by rw [BD,C2]),HM (by rw [BD,C1];omega),<-Fb,VC])
 refine AC<|Zx<|Zq ?_;obtain ⟨o9,bn,ax⟩:=VD m (rows.length+1) A1 A1;have G:=ax.1
 refine Zg<|Zm Y<|Zm Y<|Zm Y<|Ya Y Y ?_;refine BX (Bt Fo GB Y Y A1)<|A3 Y<|Zq<|Zq<|yO (s1:=[(U,_)]) (s2:=[(g,_)]) (a:=U) (b:=g) Wo Wo (BT.2 V) (BT.2 V) (fun af=>?_);refine Zg<|Zm Y<|Zm Y<|Zm Y<|Zm Y<|Ya Y Y ?_
 (refine BX (Bq Fo GB Y Y ?_ ?_) ?_;(focus (omega));(focus (omega)))
 refine CQ (cs:=[(U,.cells #[I4 y.l.t,I4 y.l.k,I4 y.l.v.a,I4 y.l.v.b,I4 y.l.v.c,I4 y.r.t,I4 y.r.k,I4 y.r.v.a,I4 y.r.v.b,I4 y.r.v.c] 310 (0,0)),(g,.cells cur 310 z)]) B0 (Sz (tR:=4) func328 A6 A6 A6 A6 Fo GB Y af A1) V rfl ?_;refine Zv (Bo Y)<|Z0<|Zn [0,1,2,7,8,68] ?_;refine Zx<|AX Y (fun X=>?_) (fun X=>?_)
 ·
  refine Zq<|Az (n:=9) (0::0::0::6::15::0::0::96::255::[]) 256 A6 A6 V<|A2 0 V (AO Y)<|A2 1 V (AO Y)<|A2 2 V (AO Y)<|A2 3 V (Dm Y Y A1) ?_
  (refine Dp (D':=31) 4 (Bq Fo GB Y Y ?_ ?_) ?_;(focus (omega));(focus (omega)))
  refine A2 5 V (AO Y)<|A2 6 V (AO Y) ?_
  (refine Dp (D':=255) 7 (Bq Fo GB Y Y ?_ ?_) ?_;(focus (omega));(focus (omega)))
  refine Yw 8 511 rfl (JQ (cs:=Ao (rows.drop i)) Fo GB Y Y Wh Wo (Qr I i hi) (by rw [BD,C2];omega) (by rw [BD,C2];omega) (Z) (Eh _))<|CT<|Ah<|Zx<|A0<|Zm Y<|Zm Y ?_
  (refine BX (Bq Fo GB Y Y ?_ ?_) ?_;(focus (omega));(focus (omega)))
  refine Zm Y<|Xe (JQ (cs:=Ao [y]) Fo GB Y Y Wh Wo ((rfl:C9 (#[I4 y.l.t,I4 y.l.k,I4 y.l.v.a,I4 y.l.v.b,I4 y.l.v.c,I4 y.r.t,I4 y.r.k,I4 y.r.v.a,I4 y.r.v.b,I4 y.r.v.c]:Array Value) 0 (Ao [y]))) (by rw [BD,E7];omega) (by rw [BD,E7,GH (by rw [BD,C2];omega)];omega) (by rw [GH (by rw [BD,C2];omega)];exact Z) (Eh _)) ?_;refine Z0<|Zn [0] ?_;refine Zx<|A0<|Zm Y<|A3 Y<|AJ<|Zt<|AP V results298 Y (by
   refine ⟨_,[],BS (EP (i:=0+i*10) (ys:=Ao [y]) (EP (i:=0+(i+1)*10) (ys:=Ao (rows.drop i)) ax (by rw [G,BD,C2];omega)) ?_) (TV rows i hi y).symm ?_,rfl⟩
   · simp only [B7,C1,C2,BD,bn,E7];omega
   · rw [fM G hi (by rw [BD];rfl) (by rw [BD,C2]),a8 (by rw [BD];omega),VC])
 cases X
def Oz(pd:Bc->Bool)(rows:List Bc)(y:Bc):List Bc:=rows.take ((rows.findIdx? pd).getD rows.length)++[y]++rows.drop ((rows.findIdx? pd).getD rows.length)
theorem lg(g:Bc->Bool)(rows:List Bc)(y:Bc):(Oz g rows y).length=rows.length+1:=by
 unfold Oz;simp only [B7,C1,C2,E7];omega
theorem sK(g:Bc->Bool)(rows:List Bc):(Gt g rows<0/\(rows.findIdx? g).getD rows.length=rows.length)\/∃i:Nat,i<=rows.length/\Gt g rows=(i:Int)/\(rows.findIdx? g).getD rows.length=i:=by
 unfold Gt;cases h:rows.findIdx? g with
 |none=>exact .inl ⟨by simp,rfl⟩
 |some i=>
  obtain ⟨m,_,_⟩:=Wg.1 h;exact .inr ⟨i,by omega,V,V⟩
theorem Ms(hv:UC A v rows)(K:rows.length<=1000000000)(g:Nat)(us:List Value)(m:Bc->Bool)(G:∀(args:Array Value) (w:World),(callFunc g args).run prog w= .ok (.enter g args) w)(J:∀x:Bc,BI prog g (.agg #[I4 x.l.t,I4 x.l.k,I4 x.l.v.a,I4 x.l.v.b,I4 x.l.v.c,I4 x.r.t,I4 x.r.k,I4 x.r.v.a,I4 x.r.v.b,I4 x.r.v.c]::us).toArray [B] (.bool (m x))):BZ prog 258 #[v,.func (.func g) #[] us.toArray] [A,B] (fun r H'=>∃s,Bb 10 310 r (rows.filter fun x=>!m x).length (Ao (rows.filter fun x=>!m x)) s/\H'=[s,A,B]):=by
 obtain ⟨p,cap,rfl,_⟩:=id hv;refine Se func258 ntmps258 [0,1] ?_;intro u R;refine A0<|A3 Y<|A0<|Zm Y<|Zc [_] Y call297 Y V (X4 hv A1) ?_;rintro _ _ ⟨_,⟨s1,I,rfl⟩,rfl⟩;obtain ⟨W,O,rfl⟩:=I.form;refine Zm Y<|Zc [_,_] Y call296 Y V (XZ I K g us m G J) ?_;rintro _ _ ⟨_,⟨s2,h2,rfl⟩,rfl⟩;obtain ⟨X,U,rfl⟩:=h2.form;refine A3 Y<|AJ<|AP V results258 Y (by exact ⟨_,h2,V⟩)
theorem TU(G:Bb 10 310 v rows.length (Ao rows) s)(hn:rows.length<=1000000000)(y:Bc)(g:Nat)(us:List Value)(I:Bc->Bool)(U:∀(args:Array Value) (w:World),(callFunc g args).run prog w= .ok (.enter g args) w)(hf:∀x:Bc,BI prog g (.agg #[I4 x.l.t,I4 x.l.k,I4 x.l.v.a,I4 x.l.v.b,I4 x.l.v.c,I4 x.r.t,I4 x.r.k,I4 x.r.v.a,I4 x.r.v.b,I4 x.r.v.c]::us).toArray [B] (.bool (I x))):BZ prog 263 #[v,.agg #[I4 y.l.t,I4 y.l.k,I4 y.l.v.a,I4 y.l.v.b,I4 y.l.v.c,I4 y.r.t,I4 y.r.k,I4 y.r.v.a,I4 y.r.v.b,I4 y.r.v.c],.func (.func g) #[] us.toArray] [s,B] (fun r H'=>∃X s2,Bb 10 310 r (Oz I rows y).length (Ao (Oz I rows y)) X/\H'=[X,s2,B]):=by
 have af:=mL;obtain ⟨p,cap,rfl⟩:=G.form;have hU:=NQ G A1
 refine Se func263 ntmps263 [0,1,2] ?_;intro u R;refine A0<|Ze (Bx #[_,_,_,_,_,_,_,_,_,_])<|AD fun bx=>A3 Y<|A0<|Zm Y<|Zm Y<|Xr [_,_] Y call261 Y V (Lx hU g us I U hf) ?_;obtain ⟨z9,O⟩:∃z,z=Gt I rows:=⟨_,rfl⟩;rw [<-O];have m:=sK I rows
 rw [<-O]at m;refine A3 Y<|Zb [7,0,4] ?_;refine DK (e0:=[(7,_)]) (H0:=[]) (fun e H=>∃(i:Nat),(i<=rows.length/\(rows.findIdx? I).getD rows.length=i)/\e=[(7,I4 (i:Int))]/\H=[]) Wp ?hx_1 ?hy_1
 case hx_1=>
  refine A0<|Zm Y<|Zv (Dt Y Y)<|A4<|Au Y (fun K=>?_) (fun K=>?_)
  ·
   refine Zg<|Zm Y<|Zv (Aa Fo Y)<|AG Y<|Zn [7,0,4] ?_;refine BN (e':=[(7,_)]) (by exact ⟨rows.length,⟨CD _,by rcases m with⟨_,h⟩|⟨i,h1,h2,J⟩;exact h;omega⟩,rfl,rfl⟩)
  rcases m with⟨h9,_⟩|⟨i,h1,h2,J⟩
  · exact absurd h9 K
  subst h2;refine AC<|Zn [7,0,4] ?_;refine BN (e':=[(7,_)]) (by exact ⟨i,⟨h1,J⟩,V,V⟩)
 rintro _ _ ⟨i,⟨hi,W⟩,rfl,rfl⟩;refine A0<|Zm Y<|Zm Y<|Zo Wh (Pa #[_,_,_,_,_,_,_,_,_,_] isAgg310 GB Y) ?_;refine Ze (Aj (vs:=[_]) (cs:=[_,_,_,_,_,_,_,_,_,_]) Fo GB eo Y V rfl V rfl V)<|AD fun Z=>Zc [_,_,_] Y call298 Y V (XN G hn i hi y Z) ?_;rintro _ _ ⟨_,⟨s3,s4,J,rfl⟩,rfl⟩;obtain ⟨g3,c3,rfl⟩:=J.form;refine A3 Y<|AJ<|AP rfl results263 Y (by exact ⟨_,s4,by unfold Oz;rw [W];exact J,rfl⟩)
def H7(k:Int)(p:Bc):Bool:=decide (p.r.k=k)
def QF(k:Int)(p:Bc):Bool:=decide (p.l.k=k)
def Eu(rows:List AU):List Bc:=(List.range (rows.length/2)).map fun k=>⟨rows.getD (2*k) AU.zero,rows.getD (2*k+1) AU.zero⟩
def DV(ps:List Bc):List AU:=ps.flatMap fun p=>[p.l,p.r]
def jnT(q:QM)(c:Chg)(ps:List Bc):List Bc×Bool:=
 if c.t=q.ot then
  (if c.has then(ps.map fun p=>if H7 c.k p then⟨p.l,⟨c.t,c.k,c.n⟩⟩else p,c.had)else(ps.filter fun p=>!H7 c.k p,c.had))
 else match afQ q c with
  |none=>(ps.filter fun p=>!QF c.k p,true)
  |some y=>if Gt (H7 (mQ q (afQ q c))) ps<0 then(ps.filter fun p=>!QF c.k p,(bfQ q c).isSome&&decide (mQ q (bfQ q c)=mQ q (afQ q c)))
   else(Oz (fun p=>KN q y p.l) (ps.filter fun p=>!QF c.k p) ⟨y,(ps.getD (Gt (H7 (mQ q (afQ q c))) ps).toNat ⟨AU.zero,AU.zero⟩).r⟩,true)
def DD(q:QM)(c:Chg)(r:CE):CE×Bool:=if q.tb=q.ot then(r,false)else(⟨DV (jnT q c (Eu r.rows)).1,r.val,r.fnd⟩,(jnT q c (Eu r.rows)).2)
theorem K8(rows:List AU):(Eu rows).length=rows.length/2:=by unfold Eu;rw [B2,ar]
theorem qH{rows:List AU}{x y:AU}(m:rows[2*k]?=some x)(g:rows[2*k+1]?=some y):(Eu rows)[k]?=some ⟨x,y⟩:=by
 have h:=(B9.1 g).1;unfold Eu;rw [DM,X2 A1,N2,Lz,Lz,m,g];rfl
theorem IA:∀ps:List Bc,(DV ps).length=2*ps.length
 |[]=>rfl
 |p::ps=>by
  have:=IA ps;unfold DV at*;rw [HL,B7,this,DH];simp;omega
variable{ps:List Bc}{p:Bc}
theorem SG(h:ps[k]?=some p):DV (ps.take (k+1))=DV (ps.take k)++[p.l,p.r]:=by
 unfold DV;rw [Bn h,N1,mm]
theorem jD(q:QM)(c:Chg)(ps:List Bc):(jnT q c ps).1.length<=ps.length+1:=by
 have g:=MD (fun p=>!H7 c.k p) ps;have h2:=MD (fun p=>!QF c.k p) ps
 unfold jnT;split
 · split
   · simp only [B2];omega
   · simp only;omega
 · split
   · simp only;omega
   · split
     · simp only;omega
     · simp only [lg];omega
theorem xC(q:QM)(c:Chg)(m G:Option Addr)(o n:Int)(g:Nat)(x:Bc):BI prog 259 #[.agg #[I4 x.l.t,I4 x.l.k,I4 x.l.v.a,I4 x.l.v.b,I4 x.l.v.c,I4 x.r.t,I4 x.r.k,I4 x.r.v.a,I4 x.r.v.b,I4 x.r.v.c],I5 g] [[(g,.cells (q.G2 c m G o n) 167 (0,0))]] (.bool (H7 c.k x)):=by
 refine Se func259 ntmps259 [0,1] ?_;intro u R;refine A0<|Ze (Bx #[I4 x.l.t,I4 x.l.k,I4 x.l.v.a,I4 x.l.v.b,I4 x.l.v.c,I4 x.r.t,I4 x.r.k,I4 x.r.v.a,I4 x.r.v.b,I4 x.r.v.c])<|AD fun I=>A3 Y<|A0<|Zh 5 Tr V rfl An Y<|Zv (Ap (off:=1) FG V rfl A5 Y)<|Zl AE Y ?_;refine Zh 7 D3 V rfl C3 Y<|Zv (Ap (off:=1) B8 V rfl A5 Y)<|Zl AE Y ?_;refine Zv (CP Y Y)<|A3 Y<|AJ<|AP V results259 Y (by exact ⟨V,V⟩)
theorem xB(q:QM)(c:Chg)(m G:Option Addr)(o n:Int)(g:Nat)(x:Bc):BI prog 260 #[.agg #[I4 x.l.t,I4 x.l.k,I4 x.l.v.a,I4 x.l.v.b,I4 x.l.v.c,I4 x.r.t,I4 x.r.k,I4 x.r.v.a,I4 x.r.v.b,I4 x.r.v.c],I5 g] [[(g,.cells (q.G2 c m G o n) 167 (0,0))]] (.bool (QF c.k x)):=by
 refine Se func260 ntmps260 [0,1] ?_;intro u R;refine A0<|Ze (Bx #[I4 x.l.t,I4 x.l.k,I4 x.l.v.a,I4 x.l.v.b,I4 x.l.v.c,I4 x.r.t,I4 x.r.k,I4 x.r.v.a,I4 x.r.v.b,I4 x.r.v.c])<|AD fun I=>A3 Y<|A0<|Zh 0 Tr V rfl An Y<|Zv (Ap (off:=1) FG V rfl A5 Y)<|Zl AE Y ?_;refine Zh 7 D3 V rfl C3 Y<|Zv (Ap (off:=1) B8 V rfl A5 Y)<|Zl AE Y ?_;refine Zv (CP Y Y)<|A3 Y<|AJ<|AP V results260 Y (by exact ⟨V,V⟩)
theorem xA(q:QM)(c:Chg)(m G:Option Addr)(o n:Int)(g:Nat)(x:Bc):BI prog 262 #[.agg #[I4 x.l.t,I4 x.l.k,I4 x.l.v.a,I4 x.l.v.b,I4 x.l.v.c,I4 x.r.t,I4 x.r.k,I4 x.r.v.a,I4 x.r.v.b,I4 x.r.v.c],I5 g] [[(g,.cells (q.G2 c m G o n) 167 (0,0))]] (.bool (H7 n x)):=by
 refine Se func262 ntmps262 [0,1] ?_;intro u R;refine A0<|Ze (Bx #[I4 x.l.t,I4 x.l.k,I4 x.l.v.a,I4 x.l.v.b,I4 x.l.v.c,I4 x.r.t,I4 x.r.k,I4 x.r.v.a,I4 x.r.v.b,I4 x.r.v.c])<|AD fun I=>A3 Y<|A0<|Zh 5 Tr V rfl An Y<|Zv (Ap (off:=1) FG V rfl A5 Y)<|Zl AE Y ?_;refine Zh 20 D3 V rfl A5 Y<|Zl AE Y ?_;refine Zv (CP Y Y)<|A3 Y<|AJ<|AP V results262 Y (by exact ⟨V,V⟩)
theorem x8(g:Nat)(us:List Value)(I:AU->Bool)(m:∀(args:Array Value) (w:World),(callFunc g args).run prog w= .ok (.enter g args) w)(J:∀x:AU,BI prog g (.agg x.A29::us).toArray [B] (.bool (I x)))(G:Nat)(x:Bc):BI prog 264 #[.agg #[I4 x.l.t,I4 x.l.k,I4 x.l.v.a,I4 x.l.v.b,I4 x.l.v.c,I4 x.r.t,I4 x.r.k,I4 x.r.v.a,I4 x.r.v.b,I4 x.r.v.c],I5 G] [[(G,.cells #[.func (.func g) #[] us.toArray] 265 (0,0))],B] (.bool (I x.l)):=by
 refine Se func264 ntmps264 [0,1] ?_;intro u R;refine A0<|Ze (Bx #[I4 x.l.t,I4 x.l.k,I4 x.l.v.a,I4 x.l.v.b,I4 x.l.v.c,I4 x.r.t,I4 x.r.k,I4 x.r.v.a,I4 x.r.v.b,I4 x.r.v.c])<|AD fun K=>A3 Y<|A0<|Zl isAgg265 Y ?_;refine Zh 0 Tr V rfl An Y<|Zo Wh (AA (cs:=x.l.A29) CI An Y Ax AN) ?_;refine Xr [_] Y (m) Y V (J x.l) ?_;refine A3 Y<|AJ<|AP V results264 Y (by exact ⟨V,V⟩)
theorem kM(m:ps[k]?=some p)(x:AU):(Ao ps).take (0+k*10+5)++Af [x]++(Ao ps).drop (0+k*10+5+(Af [x]).length)=Ao (ps.set k ⟨p.l,x⟩):=by
 have J:=(B9.1 m).1;have e:(Ao (ps.take k)).length=k*10:=by rw [BD,C1];omega
 have I:Ao [p]=Af [p.l]++Af [p.r]:=rfl;have g:∀r:AU,(Af [r]).length=5:=fun r=>rfl
 have e1:Ao ps=(Ao (ps.take k)++Af [p.l])++(Af [p.r]++Ao (ps.drop (k+1))):=by
  rw [Rp m,I];simp
 have e2:(Ao (ps.take k)++Af [p.l]).length=0+k*10+5:=by rw [B7,e,g];omega
 rw [e1,HM e2,g,<-Ys,W3 e2,W3 (g p.r),iu,AM J];have G:Ao (ps.take k++⟨p.l,x⟩::ps.drop (k+1))=Ao (ps.take k)++(Ao [⟨p.l,x⟩]++Ao (ps.drop (k+1))):=by
  rw [<-DF,<-DF];rfl
 rw [G,show Ao [⟨p.l,x⟩]=Af [p.l]++Af [x] from rfl];simp
theorem QW(G:C9 cur 0 (Ao ps))(U:ps[k]?=some p):cur[0+k*10+5+1]?=some (I4 p.r.k)/\0+k*10+5+5<=cur.size/\cur.extract (0+k*10+5) (0+k*10+5+5)=p.r.A29:=by
 have g:∀j u,j<10->(Ao [p])[j]?=some u->cur[k*10+j]?=some u:=fun j u J m=>by
  have:=G.get (k*10+j) u ((Iq U j J).trans m);rwa [Cl]at this
 have K:=g 6 _ AW rfl;have O:=g 9 _ AW rfl
 have W:k*10+9<cur.size:=(HK.1 O).1;refine ⟨by rw [show 0+k*10+5+1=k*10+6 by omega];exact K,by omega,?_⟩;apply HC.1;apply Ln;intro j;rw [HG,al];split
 · rename_i J
   have I:j<5:=by omega
   obtain ⟨u,m⟩:∃u,(Af [p.r])[j]?=some u:=⟨_,B4 (by rw [BF];simpa using I)⟩;have h2:=g (5+j) u A1 (by
    rw [show Ao [p]=Af [p.l]++Af [p.r] from rfl,OS (by rw [BF];simp),BF];rw [show 5+j - [p.l].length*5=j by simp];exact m)
   rw [show 0+k*10+5+j=k*10+(5+j) by omega,h2];exact m.symm
 · rw [LS]
   show(Af [p.r]).length<=j;rw [BF];simp only [E7];omega
def Nb(c:Chg)(ps:List Bc)(i:Nat):List Bc:=(ps.take i).map (fun p=>if H7 c.k p then⟨p.l,⟨c.t,c.k,c.n⟩⟩else p)++ps.drop i
theorem rF(c:Chg)(ps:List Bc)(i:Nat)(hi:i<=ps.length):(Nb c ps i).length=ps.length:=by
 unfold Nb;simp only [B7,B2,C1,C2];omega
variable{c:Chg}
theorem XD(g:ps[i]?=some p):(Nb c ps i)[i]?=some p:=by
 have hi:=(B9.1 g).1;unfold Nb;rw [OS (by rw [B2,C1];omega),B2,C1,N3 A1,Tl,PA,Pu,g]
theorem Vh(g:ps[i]?=some p):Nb c ps (i+1)=(Nb c ps i).set i (if H7 c.k p then⟨p.l,⟨c.t,c.k,c.n⟩⟩else p):=by
 have hi:=(B9.1 g).1;have m:((ps.take i).map (fun p=>if H7 c.k p then(⟨p.l,⟨c.t,c.k,c.n⟩⟩:Bc)else p)).length=i:=by rw [B2,C1];omega
 unfold Nb;rw [Bn g,Bm,j7 (h:=by omega),m,Tl];obtain ⟨_,rfl⟩:=B9.1 g;rw [RE hi,List.set_cons_zero];simp
theorem oQ(g:ps[i]?=some p):ps.set i p=ps:=by
 obtain ⟨hi,rfl⟩:=B9.1 g;exact List.set_getElem_self hi
theorem zI(g:Nat)(us:List Value)(I:AU->Bool)(G:∀(args:Array Value) (w:World),(callFunc g args).run prog w= .ok (.enter g args) w)(J:∀x:AU,BI prog g (.agg x.A29::us).toArray [B] (.bool (I x)))(m:Nat)(x:Bc):BI prog 264 (.agg #[I4 x.l.t,I4 x.l.k,I4 x.l.v.a,I4 x.l.v.b,I4 x.l.v.c,I4 x.r.t,I4 x.r.k,I4 x.r.v.a,I4 x.r.v.b,I4 x.r.v.c]::([I5 m]:List Value)).toArray [[(m,.cells #[.func (.func g) #[] us.toArray] 265 (0,0))]++B] (.bool (I x.l)):=by
 refine Gv (x8 g us I G J m x) B0 ?_;rintro r H' ⟨rfl,rfl⟩;exact ⟨_,⟨V,V⟩,by simp⟩
variable{q:QM}
theorem XL{G I:Option Addr}{g:Nat}{f:Bc->Bool}{m:Nat}(h:∀x,BI prog m #[.agg #[I4 x.l.t,I4 x.l.k,I4 x.l.v.a,I4 x.l.v.b,I4 x.l.v.c,I4 x.r.t,I4 x.r.k,I4 x.r.v.a,I4 x.r.v.b,I4 x.r.v.c],I5 g] [[(g,.cells (q.G2 c G I (mQ q (bfQ q c)) (mQ q (afQ q c))) 167 (0,0))]] (.bool (f x)))(x:Bc):BI prog m (.agg #[I4 x.l.t,I4 x.l.k,I4 x.l.v.a,I4 x.l.v.b,I4 x.l.v.c,I4 x.r.t,I4 x.r.k,I4 x.r.v.a,I4 x.r.v.b,I4 x.r.v.c]::([I5 g]:List Value)).toArray [[(g,.cells (q.G2 c G I (mQ q (bfQ q c)) (mQ q (afQ q c))) 167 (0,0))]] (.bool (f x)):=h x
theorem xL(h:c.has=true):EK c c.has c.n=⟨c.t,c.k,c.n⟩:=by unfold EK;rw [AM h]
theorem rG(c:Chg)(ps:List Bc):Nb c ps ps.length=ps.map fun p=>if H7 c.k p then⟨p.l,⟨c.t,c.k,c.n⟩⟩else p:=by unfold Nb;rw [G0,gS,DB]
variable{s2:List A9}
set_option maxHeartbeats 1000000 in
theorem fJ(q:QM)(gm:0<=q.cl/\q.cl<=3)(c:Chg)(U p2:Option Addr)(e1:U.isSome=(bfQ q c).isSome)(h2:Ig p2 (afQ q c) s2){sl:List A9}(hl:Bb 10 310 v ps.length (Ao ps) sl)(hn:ps.length<=100000000):BZ prog 209 #[.agg (q.G2 c U p2 (mQ q (bfQ q c)) (mQ q (afQ q c))),v] [sl,s2] (fun w H'=>∃v' s',w= .tuple #[v',.bool (jnT q c ps).2]/\Bb 10 310 v' (jnT q c ps).1.length (Ao (jnT q c ps).1) s'/\H'=[s']):=by
 have l5:=mL;obtain ⟨pl,ax,rfl⟩:=hl.form;have hU:=NQ hl A1
 have kv:(ps.filter fun p=>!QF c.k p).length<=ps.length:=MD _ _;refine Se func209 ntmps209 [0,1] ?_;intro u R;refine A0<|Ze (Ep Y (cs:=(q.G2 c U p2 (mQ q (bfQ q c)) (mQ q (afQ q c)))) (G6 q c U p2 (mQ q (bfQ q c)) (mQ q (afQ q c))))<|AD fun be=>Za Y<|A3 Y<|Zq<|A0<|Zh 7 D3 V rfl C3 Y<|Zv (Ap (off:=0) B8 V rfl A5 Y)<|Zl AE Y ?_;refine Zh 0 D3 V rfl CC Y<|Zv (Ap (off:=6) CA V rfl A5 Y)<|Zl AE Y ?_;refine Zv (CP Y Y)<|A4<|Au Y (fun K=>?_) (fun K=>?_)
 ·
  refine A0<|Zh 7 D3 V rfl C3 Y<|Zo Wh (AA (cs:=c.A28) Ft C3 Y Ax AN) ?_;refine Xr [_] Y call142 Y V (OT c) ?_;obtain ⟨y9,cO⟩:∃y,y=EK c c.has c.n:=⟨_,rfl⟩;rw [<-cO];refine Zm Y<|Zd Y V<|Zd Y V<|Ze (Al DS #[_,_,_,_,_])<|AD fun j5=>Xe (Xw An y9.A29) ?_;refine AG Y<|Zn [1,2,6,7] ?_;refine Zx<|Zq<|A0<|Zm Y<|Zv (Bo Y)<|A4<|AX Y (fun hh=>?_) (fun hh=>?_)
  ·
   have af:c.has=false:=by simpa using hh
   refine Zq<|Az (n:=8) (0::0::3::0::8::24::7::127::[]) 4 A6 A6 V<|A2 0 V (AO Y)<|A2 1 V (Bg (vs:=[]) (us:=[_]) Y Y)<|A2 3 V (AB (off:=7) D3 V rfl C3 Y)<|A2 4 V (Ap (off:=2) B8 V rfl CH Y)<|B3 5 V E0 Y ?_;refine Zz (l:=[2])<|B1 [true] [(5,(_,_))] V rfl (Zw [_,_] Y call258 Y V (Ms (B:=[(be,.cells (q.G2 c U p2 (mQ q (bfQ q c)) (mQ q (afQ q c))) 167 (0,0))]) hU A1 259 [I5 be] (H7 c.k) call259 (XL fun x=>xC q c U p2 (mQ q (bfQ q c)) (mQ q (afQ q c)) be x))) ?_ Bz Ai;rintro _ _ ⟨_,⟨s9,h9,rfl⟩,rfl⟩;refine ⟨Zk (AZ),?_⟩;obtain ⟨g9,c9,rfl⟩:=h9.form;refine A2 6 V (Aw Y)<|A2 7 V (Aw Y)<|Ah<|Zx<|AJ<|Zt<|Zt<|Cy V ey Y Y (by
    have G:jnT q c ps=(ps.filter fun p=>!H7 c.k p,c.had):=by unfold jnT;rw [AM K,AK (by rw [af];decide)]
    exact ⟨.slice g9 _ c9,s9,by rw [G],by rw [G];exact h9,rfl⟩)
  have af:c.has=true:=by simpa using hh
  rw [xL af]at cO;refine AC<|Zx<|Zq<|A0<|Zm Y<|Zv (Aa Fo Y)<|Zm Y<|A4<|AQ<|Zb [35,1,2,6,34] ?_;refine BB (e0:=[(35,_)]) (fun m e H=>∃(i:Nat) (sk:List A9),m=ps.length -i/\(i<=ps.length/\Bb 10 310 (.slice pl ps.length ax) ps.length (Ao (Nb c ps i)) sk)/\e=[(35,I4 (i:Int))]/\H=[sk]) (by exact ⟨0,sl,V,⟨C0 _,hl⟩,V,V⟩) Wp ?_;rintro _ _ _ ⟨i,sk,rfl,⟨hi,O⟩,rfl,rfl⟩;refine A0<|Zv (Av Y Y)<|A4<|Zq<|Au Y (fun Z=>?_) (fun Z=>?_)
  ·
   obtain ⟨p,hp⟩:∃p,ps[i]?=some p:=⟨_,B4 Z⟩;obtain ⟨g,ek,cur,z,cu,rfl,gB,X⟩:=Dz O A1;injection cu with hv1 hv2 hv3
   subst hv1 hv3;obtain ⟨_,W,_,j3,gy⟩:=JX O;obtain ⟨h6,ic,_⟩:=QW X (XD hp);refine AC<|Zx<|Zq<|AQ<|A0<|Zm Y<|A3 Y<|Zq<|Az (n:=10) (0::0::3::7::15::31::0::64::192::511::[]) 0 A6 A6 V<|A2 0 V (AO Y)<|A2 1 V (AO Y)<|A2 2 V (Ac Fo GB Y Y A1)<|A2 3 V (Ap (off:=5) Tr V rfl An Y)<|A2 4 V (Ap (off:=1) FG V rfl A5 Y)<|B3 5 V AE Y (hv:=by exact h6) ?_;refine A2 6 V (AB (off:=7) D3 V rfl C3 Y)<|A2 7 V (Ap (off:=1) B8 V rfl A5 Y)<|B3 8 V AE Y ?_;refine A2 9 V (CP Y Y)<|Ah<|Zn [1,2,6,8,34,35,47] ?_;refine Zx<|Au Y (fun hk=>?_) (fun hk=>?_)
   ·
    have e9:Nb c ps (i+1)=(Nb c ps i).set i ⟨p.l,y9⟩:=by rw [Vh hp,AM (by unfold H7;simp [hk]),cO]
    have J:=BS (xs':=Ao (Nb c ps (i+1))) (EP (i:=0+i*10+5) (ys:=Af [y9]) O (by rw [BD,BF,E7,rF c ps i hi];omega)) rfl (by rw [e9];exact kM (XD hp) y9);refine Zg<|Zm Y<|Zm Y<|Zo Wh (AA (cs:=y9.A29) CI An Y Ax AN) ?_;refine BX (Ac Fo GB Y Y A1)<|Zv (Ap (off:=5) Tr rfl rfl An Y)<|Xe (BK An Y Y HJ Wu (by exact (rfl:_=EJ cur (0+i*10+5) (Af [y9]))) E3 A1 (by exact gy)) ?_;refine Z0<|A8<|Zx<|Zg<|Ya (n:=1) Y Y<|Zm Y<|Z0<|Zn [35,1,2,6,34] ?_;refine Ab (e':=[(35,_)]) (by exact ⟨i+1,_,V,⟨by omega,J⟩,V,V⟩)
   have e9:Nb c ps (i+1)=Nb c ps i:=by rw [Vh hp,AK (by unfold H7;simp [hk]),oQ (XD hp)]
   have J:=O;rw [<-e9]at J;refine AC<|A8<|Zx<|Zg<|Ya (n:=1) Y Y<|Zm Y<|Z0<|Zn [35,1,2,6,34] ?_;refine Ab (e':=[(35,_)]) (by exact ⟨i+1,_,V,⟨by omega,J⟩,V,V⟩)
  have ei:i=ps.length:=by omega
  subst ei;rw [rG]at O;refine Ay<|Zt<|Zt<|AR<|Zx<|Zq<|Az (n:=6) (0::0::2::6::1::31::[]) 0 A6 A6 V<|A2 0 V (AO Y)<|A2 1 V (AB (off:=7) D3 V rfl C3 Y)<|A2 2 V (Ap (off:=2) B8 V rfl CH Y)<|B3 3 V E0 Y ?_;refine A2 4 V (Aw Y)<|A2 5 V (Aw Y)<|Ah<|Zx<|AJ<|Zt<|Cy V ey Y Y (by
   have G:jnT q c ps=(ps.map fun p=>if H7 c.k p then⟨p.l,⟨c.t,c.k,c.n⟩⟩else p,c.had):=by unfold jnT;rw [AM K,AM af]
   exact ⟨.slice pl ps.length ax,sk,by rw [G],by rw [G];exact BS O (B2 _).symm rfl,rfl⟩)
 refine AC<|Zx<|A0<|Zm Y<|Zv (Bg (vs:=[]) (us:=[_]) Y Y)<|Zc [_,_] Y call258 Y V (Ms (B:=[(be,.cells (q.G2 c U p2 (mQ q (bfQ q c)) (mQ q (afQ q c))) 167 (0,0))]) hU A1 260 [I5 be] (QF c.k) call260 (XL fun x=>xB q c U p2 (mQ q (bfQ q c)) (mQ q (afQ q c)) be x)) ?_;rintro _ _ ⟨_,⟨s9,h9,rfl⟩,rfl⟩;obtain ⟨g9,c9,rfl⟩:=h9.form;refine AG Y<|Zn [1,2,9] ?_;refine Zx<|Zq<|A0<|Zh 18 D3 V rfl It Y<|Zl Ly Y ?_;refine Zv (NZ S2 Y Y)<|A4<|AX Y (fun bn=>?_) (fun bn=>?_)
 ·
  have hy:afQ q c=none:=by have h8:=h2.some_;cases I:afQ q c with|none=>rfl|some y=>(rw [I]at h8;cases p2<;>simp at bn h8)
  refine A0<|Zm Y<|Za Y<|A3 Y<|AJ<|Zt<|Cy V ey Y Y (by
   have G:jnT q c ps=(ps.filter fun p=>!QF c.k p,true):=by unfold jnT;rw [AK K,hy]
   exact ⟨.slice g9 _ c9,s9,by rw [G],by rw [G];exact h9,rfl⟩)
 obtain ⟨y,hy⟩:∃y,afQ q c=some y:=fm.1 (by rw [<-h2.some_];cases p2<;>simp at bn⊢);rw [hy]at h2;obtain ⟨b2,rfl,rfl⟩:=h2;refine AC<|Zx<|A0<|Zm Y<|Zv (Bg (vs:=[]) (us:=[_]) Y Y)<|Xr [_,_] Y call261 Y V (Lx (B:=[(be,.cells #[I4 q.kd,I4 q.tb,I4 q.cl,I4 q.lo,I4 q.hi,I4 q.bq,I4 q.ot,I4 c.t,I4 c.k,.bool c.had,I4 c.o.a,I4 c.o.b,I4 c.o.c,.bool c.has,I4 c.n.a,I4 c.n.b,I4 c.n.c,.pointer U,I5 b2,I4 (mQ q (bfQ q c)),I4 (mQ q (afQ q c))] 167 (0,0))]) hU 262 [I5 be] (H7 (mQ q (afQ q c))) call262 (XL fun x=>xA q c U (some ⟨b2,0,none⟩) (mQ q (bfQ q c)) (mQ q (afQ q c)) be x)) ?_;have W:=TY (H7 (mQ q (afQ q c))) ps
 obtain ⟨z9,d9⟩:∃z,z=Gt (H7 (mQ q (afQ q c))) ps:=⟨_,rfl⟩;rw [<-d9]at W⊢;refine A3 Y<|Zq<|A0<|Zm Y<|Zv (Dt Y Y)<|A4<|Au Y (fun Z=>?_) (fun Z=>?_)
 ·
  have G:jnT q c ps=(ps.filter fun p=>!QF c.k p,(bfQ q c).isSome&&decide (mQ q (bfQ q c)=mQ q (afQ q c))):=by unfold jnT;rw [AK K];split;rename_i I;rw [hy]at I;cases I;rw [AM (by rw [<-d9];exact Z)]
  refine Zq<|Az (n:=13) (0::0::2::6::14::30::62::30::158::510::1022::31::4095::[]) 0 A6 A6 V<|A2 0 V (AO Y)<|A2 1 V (AB (off:=17) D3 V rfl It Y)<|B3 2 V Ly Y ?_;refine A2 3 V (Em S2 Y Y)<|A2 4 V (AO Y)<|Bu (t:=74) Y (fun h1=>?_) (fun h1=>?_)
  ·
   rw [h1];refine AH 5 V (AB (off:=19) D3 V rfl A5 Y)<|DA 6 V Wh (BO AE Y AN) ?_;refine AH 7 V (AB (off:=20) D3 V rfl A5 Y)<|DA 8 V Wh (BO AE Y AN) ?_;refine AH 9 V (CP Y Y)<|A2 10 V (AV Y Y)<|A2 11 V (Aw Y)<|A2 12 V (Aw Y)<|Ah<|Zn [4,5] ?_;refine Zx<|AJ<|Zt<|Cy rfl ey Y Y (by exact ⟨.slice g9 _ c9,s9,by rw [G,<-e1,h1];rfl,by rw [G];exact h9,rfl⟩)
  rw [h1];refine AF 5 V<|AF 6 V<|AF 7 V<|AF 8 V<|AF 9 V<|A2 10 V (AL Y Y)<|A2 11 V (Aw Y)<|A2 12 V (Aw Y)<|Ah<|Zn [4,5] ?_;refine Zx<|AJ<|Zt<|Cy rfl ey Y Y (by exact ⟨.slice g9 _ c9,s9,by rw [G,<-e1,h1];rfl,by rw [G];exact h9,rfl⟩)
 rcases W with⟨I,_⟩|⟨k,p,I,hp,_,_⟩
 · exact absurd I A1
 subst I;have G:jnT q c ps=((Oz (fun p=>KN q y p.l) (ps.filter fun p=>!QF c.k p) ⟨y,p.r⟩),true):=by
  unfold jnT;rw [AK K];split
  · rename_i I;rw [hy]at I;cases I
  · rename_i y0 I;rw [hy]at I;injection I with I;subst I;rw [<-d9,AK A1,W0,Lz,hp];rfl
 have hk:=(B9.1 hp).1;obtain ⟨g,ek,cur,z,cu,rfl,gB,X⟩:=Dz hl A1;injection cu with hv1 hv2 hv3
 subst hv1 hv3;obtain ⟨_,ic,gq⟩:=QW X hp;refine AC<|Zx<|A0<|Zo Wh (AA cF Wc Y Ax (by exact BM V)) ?_;refine Zc [_] Y call207 Y V (Qw q gm c U (mQ q (bfQ q c)) (mQ q (afQ q c)) y b2) ?_;rintro _ _ ⟨_,⟨b8,b9,rfl,rfl⟩,rfl⟩;refine Ze (Al zeroValue265 #[_])<|AD fun bb=>Xe (Zs sizeOf265 Y Y V (hc:=by exact (V:_=(#[.func (.func 257) #[] ([I5 b8,I5 b9]:List Value).toArray]:Array Value))) (hi:=by decide)) ?_;refine Z0<|Zn [1,2,9,10,11] ?_;refine Zx<|Zq<|CK (s1:=[(bb,_)]) (s2:=_++_++[(b2,_)]) Wo Wo ?_;refine Az (n:=15) (0::0::2::6::14::0::0::96::224::480::1022::0::4095::8191::16383::[]) 4096 A6 A6 V<|A2 0 V (AO Y)<|A2 1 V (AB (off:=18) D3 V rfl It Y)<|B3 2 V Ly Y ?_;refine A2 3 V (Aq Y V)<|D8 (b:=b2) (x:= .cells y.A29 83 (0,0)) (D':=31) 4 V rfl V B0 (Pa y.A29 CI An Y) ?_;refine A2 5 V (AO Y)<|A2 6 V (AO Y)<|A2 7 V (Ac Fo GB Y Y A1)<|A2 8 V (Ap (off:=5) Tr V rfl An Y)<|E6 9 V Wh (AA (cs:=p.r.A29) CI An Y A1 (by exact gq)) ?_;refine A2 10 V (BL (vs:=[(0,.agg y.A29),(1,.agg p.r.A29)]) (cs:=#[I4 y.t,I4 y.k,I4 y.v.a,I4 y.v.b,I4 y.v.c,I4 p.r.t,I4 p.r.k,I4 p.r.v.a,I4 p.r.v.b,I4 p.r.v.c]) Y (AY (pl:=#[(0,5),(5,5)]) eo Tr (fun _=>by kernel_rfl) A6))<|A2 11 V (Bg (vs:=[]) (us:=[_]) Y Y)<|Zz (l:=[12])<|B1 [false,false,false] [] V rfl (Zw [_,_,_] Y call263 Y V (TU h9 A1 ⟨y,p.r⟩ 264 [I5 bb] (fun p=>KN q y p.l) call264 (fun x=>zI 257 ([I5 b8,I5 b9]:List Value) (KN q y) call257 (fun x=>au q gm c U (mQ q (bfQ q c)) (mQ q (afQ q c)) y b2 b8 b9 x) bb x))) ?_ Bz Ai;rintro _ _ ⟨_,⟨s5,s6,h5,rfl⟩,rfl⟩;refine ⟨AZ,?_⟩;obtain ⟨g5,c5,rfl⟩:=h5.form;refine A2 13 V (Aw Y)<|A2 14 V (Aw Y)<|Ah<|Zn [4,5] ?_;refine Zx<|AJ<|Cy rfl ey Y Y (by exact ⟨.slice g5 _ c5,s5,by rw [G],by rw [G];exact h5,rfl⟩)
theorem dn(q:QM)(c:Chg)(r:CE):(DD q c r).1.val=r.val:=by unfold DD;split<;>rfl
theorem dw(q:QM)(c:Chg)(r:CE):(DD q c r).1.rows.length<=r.rows.length+2:=by
 unfold DD;split
 · exact eE _ _
 · show(DV _).length<=_
   have h:=jD q c (Eu r.rows);rw [K8]at h;rw [IA];omega
theorem jK{rs:List AU}{x:AU}(g:C9 cur 0 (Af rs))(m:rs[k]?=some x):k*5+5<=cur.size/\cur.extract (0+k*5) (0+k*5+5)=x.A29:=aM g m
theorem tX(g:C9 cur 0 (Ao rs))(m:rs[k]?=some x):k*10+10<=cur.size/\cur.extract (0+k*10) (0+k*10+10)=#[I4 x.l.t,I4 x.l.k,I4 x.l.v.a,I4 x.l.v.b,I4 x.l.v.c,I4 x.r.t,I4 x.r.k,I4 x.r.v.a,I4 x.r.v.b,I4 x.r.v.c]:=Vv g m
variable{r:CE}{rv:Value}
set_option maxHeartbeats 1000000 in
theorem dW(q:QM)(kv:0<=q.cl/\q.cl<=3)(c:Chg)(p1 p2:Option Addr)(e1:p1.isSome=(bfQ q c).isSome)(h2:Ig p2 (afQ q c) s2){sr:List A9}(hr:Bb 5 83 rv r.rows.length (Af r.rows) sr)(hn:r.rows.length<=100000000):BZ prog 138 #[.agg (q.G2 c p1 p2 (mQ q (bfQ q c)) (mQ q (afQ q c))),.agg #[rv,I4 r.val,.bool r.fnd]] [sr,s2] (fun w H'=>∃ic s',w= .tuple #[.agg #[ic,I4 (DD q c r).1.val,.bool (DD q c r).1.fnd],.bool (DD q c r).2]/\Bb 5 83 ic (DD q c r).1.rows.length (Af (DD q c r).1.rows) s'/\H'=[s']):=by
 have p8:=mL;obtain ⟨pv,cv,rfl⟩:=hr.form;refine Se func138 ntmps138 [0,1] ?_;intro u R;refine A0<|Ze (Ep Y (cs:=(q.G2 c p1 p2 (mQ q (bfQ q c)) (mQ q (afQ q c)))) (G6 q c p1 p2 (mQ q (bfQ q c)) (mQ q (afQ q c))))<|AD fun be=>Ze (Bx #[.slice pv r.rows.length cv,I4 r.val,.bool r.fnd])<|AD fun br=>Ze (Al G3 #[_,_,_])<|AD fun bo=>A3 Y<|Zq<|A0<|Zh 0 D3 V rfl CC Y<|Zv (Ap (off:=1) CA V rfl A5 Y)<|Zl AE Y ?_;refine Zh 0 D3 V rfl CC Y<|Zv (Ap (off:=6) CA V rfl A5 Y)<|Zl AE Y ?_;refine Zv (CP Y Y)<|A4<|Au Y (fun X=>?_) (fun X=>?_)
 ·
  refine A0<|Zo Wh (AA (cs:=#[_,_,_]) BW As Y Ax AN) ?_;refine Xe (Xw As _) ?_;refine AG Y<|Zn [4,5] ?_;refine Zx<|AJ<|Zt<|Bi V results138 Y Wh (Ak BW As Wn (V)) Y (by
   have e8:DD q c r=(r,false):=by unfold DD;rw [AM X]
   exact ⟨.slice pv r.rows.length cv,sr,by rw [e8];rfl,by rw [e8];exact hr,rfl⟩)
 refine AC<|Zx<|A0<|A3 Y<|Zq<|Zq<|BV<|Zg<|AG Y<|Zn [2,3,4,6,7] ?_;refine Zx<|AQ<|Zb [6,7,2,3,4] ?_;refine BB (e0:=[(6,_),(7,_)]) (fun m e H=>∃(k:Nat) (K:Option Addr) (ck:Nat) (W:List A9),m=r.rows.length -k/\(k<=r.rows.length/2/\Bb 10 310 (.slice K k ck) k (Ao ((Eu r.rows).take k)) W)/\e=[(6,.slice K k ck),(7,I4 ((2*k:Nat):Int))]/\H=[W]) (by exact ⟨0,none,0,[],V,⟨C0 _,Bf 10 _⟩,V,V⟩) Wp ?_;rintro _ _ _ ⟨k,K,ck,W,rfl,⟨hk,I⟩,rfl,rfl⟩;refine Zq<|Zq<|BV<|Zg<|Zm Y<|Ya (n:=1) Y Y<|Zh 0 C7 V rfl C6 Y<|Zl FA Y ?_;refine Zv (Aa B6 Y)<|Zv (Av Y Y)<|A4<|Au Y (fun J=>?_) (fun J=>?_)
 ·
  obtain ⟨x,hx⟩:∃x,r.rows[2*k]?=some x:=⟨_,B4 A1⟩;obtain ⟨y,hy⟩:∃y,r.rows[2*k+1]?=some y:=⟨_,B4 A1⟩;obtain ⟨g,af,cur,z,Z,rfl,gy,G⟩:=Dz hr A1;injection Z with hv1 hv2 hv3
  subst hv1 hv3;obtain ⟨o8,d9⟩:=jK G hx;obtain ⟨o9,gm⟩:=jK G hy;refine AC<|Zx<|Zq<|AQ<|Az (n:=16) (0::0::2::0::14::30::0::64::0::256::960::1984::4094::8190::16383::32767::[]) 24576 A6 A6 V<|A2 0 V (AO Y)<|A2 1 V (AB (off:=0) C7 V rfl C6 Y)<|B3 2 V FA Y ?_;refine A2 3 V (AO Y)<|A2 4 V (Ac B6 An Y Y A1)<|E6 5 V Wh (AA (cs:=#[_,_,_,_,_]) CI An Y A1 (by exact d9)) ?_;refine A2 6 V (AB (off:=0) C7 V rfl C6 Y)<|B3 7 V FA Y ?_;refine A2 8 V (AO Y)<|A2 9 V (Dm (n:=1) Y Y A1)<|A2 10 V (Ac B6 An Y Y A1)<|E6 11 V Wh (AA (cs:=#[_,_,_,_,_]) CI An Y A1 (by exact gm)) ?_;refine A2 12 V (BL (vs:=[(0,.agg x.A29),(1,.agg y.A29)]) (cs:=#[I4 x.t,I4 x.k,I4 x.v.a,I4 x.v.b,I4 x.v.c,I4 y.t,I4 y.k,I4 y.v.a,I4 y.v.b,I4 y.v.c]) Y (AY (pl:=#[(0,5),(5,5)]) eo Tr (fun _=>by kernel_rfl) A6))<|Yw 13 16383 V (Aj (vs:=[_]) (cs:=[_,_,_,_,_,_,_,_,_,_]) Fo GB eo Y V rfl V rfl V)<|AD fun gp=>Yw 14 32767 V (BR (by_:=80) (sz:=10) Fo (V:Tryz.prog.info? 310=some Tryz.t310) V rfl V rfl Y (I) Y (DC 10 gp 1 1 310 (0,0) (Ao [⟨x,y⟩]) V) Wo Wo (by exact Eh _) A1 A1) ?_;rintro _ _ ⟨l5,O,rfl⟩;obtain ⟨j5,j3,rfl⟩:=O.form;refine A2 15 V (Aw Y)<|Ah<|Zn [2,3,4,6,7] ?_;refine A8<|Zx<|BV<|Zg<|Zm Y<|Ya (n:=2) Y Y<|AG Y<|Zn [6,7,2,3,4] ?_;refine Ab (e':=[(6,_),(7,_)]) (by exact ⟨k+1,j5,j3,l5,rfl,⟨by omega,BS O rfl (by rw [Bn (qH hx hy),DF])⟩,rfl,rfl⟩)
 have ek:k=(Eu r.rows).length:=by rw [K8];omega
 have gB:=BS I ek (by rw [ek,G0]);refine Ay<|Zt<|Zt<|AR<|Zx<|A0<|Zo Wh (AA cF Wc Y Ax (by exact BM V)) ?_;refine Zm Y<|Zc [_,_] Y call209 Y rfl (fJ q kv c p1 p2 e1 h2 gB (by rw [K8];omega)) ?_;rintro _ _ ⟨_,⟨lv,s5,rfl,h5,rfl⟩,rfl⟩;have e8:DD q c r=(⟨DV (jnT q c (Eu r.rows)).1,r.val,r.fnd⟩,(jnT q c (Eu r.rows)).2):=by unfold DD;rw [AK X]
 have cu:=jD q c (Eu r.rows);rw [K8]at cu;obtain ⟨L,hL⟩:∃L,L=(jnT q c (Eu r.rows)).1:=⟨_,rfl⟩;rw [<-hL]at h5 e8 cu;obtain ⟨g5,c5,rfl⟩:=h5.form;refine Zm Y<|Zd Y V<|Zd Y V<|Za Y<|AG Y<|Zn [3,4,6,8] ?_;refine Zx<|A0<|Zh 0 C7 V rfl C6 Y<|Xe (Zs C6 Y Y V (hc:=by exact (V:_=(#[.slice none 0 0,I4 r.val,.bool r.fnd]:Array Value))) (hi:=by(simp;done))) ?_;refine A4<|Zq<|Zq<|BV<|Zg<|Zm Y<|Zv (Aa Fo Y)<|Zm Y<|A4<|AQ<|Zb [51,3,4,8,49,50] ?_;refine BB (e0:=[(51,_)]) (fun m e H=>∃(k:Nat) (K:Option Addr) (ck:Nat) (W:List A9),m=L.length -k/\(k<=L.length/\Bb 5 83 (.slice K (2*k) ck) (2*k) (Af (DV (L.take k))) W)/\e=[(51,I4 (k:Int))]/\H=[[(br,.cells #[.slice K (2*k) ck,I4 r.val,.bool r.fnd] 53 (0,0))],W]) (by exact ⟨0,none,0,[],V,⟨C0 _,Bf 5 _⟩,V,V⟩) Wp ?_;rintro _ _ _ ⟨k,K,ck,W,rfl,⟨hk,I⟩,rfl,rfl⟩;refine Zq<|BV<|Zg<|Zv (Av Y Y)<|A4<|Zq<|Au Y (fun J=>?_) (fun J=>?_)
 ·
  obtain ⟨p,hp⟩:∃p,L[k]?=some p:=⟨_,B4 J⟩;obtain ⟨g,af,cur,z,Z,rfl,gy,G⟩:=Dz h5 A1;injection Z with hv1 hv2 hv3
  subst hv1 hv3;obtain ⟨l9,cO⟩:=tX G hp;refine AC<|Zx<|Zq<|AQ<|Zq<|BV<|Zg<|BX (Ac Fo GB Y Y A1)<|Zo Wh (AA (cs:=#[_,_,_,_,_,_,_,_,_,_]) isAgg310 GB Y A1 (by exact cO)) ?_;refine Ze (Al eo #[_,_,_,_,_,_,_,_,_,_])<|AD fun bp=>Xe (Xw GB #[I4 p.l.t,I4 p.l.k,I4 p.l.v.a,I4 p.l.v.b,I4 p.l.v.c,I4 p.r.t,I4 p.r.k,I4 p.r.v.a,I4 p.r.v.b,I4 p.r.v.c]) ?_;refine A4<|Zg<|Zh 0 C7 V rfl C6 Y<|Zl FA Y ?_;refine Zh 0 Tr V rfl An Y<|Zo Wh (AA (cs:=#[_,_,_,_,_]) CI An Y Ax AN) ?_;refine Zh 5 Tr V rfl An Y<|Zo Wh (AA (cs:=#[_,_,_,_,_]) CI An Y Ax AN) ?_;refine Ze (Aj (vs:=[_,_]) (cs:=[_,_,_,_,_,_,_,_,_,_]) B6 An DS Y V rfl V rfl V)<|AD fun gq=>Ze (BR (by_:=40) (sz:=5) B6 (V:Tryz.prog.info? 83=some Tryz.t83) V rfl V rfl Y (I) Y (DC 5 gq 2 2 83 (0,0) (Af [p.l,p.r]) V) Wo Wo (by exact CU _) A1 A1) ?_;rintro _ _ ⟨l8,U,rfl⟩;obtain ⟨bn,ax,rfl⟩:=U.form;refine Zh 0 C7 V rfl C6 Y<|Xe (Zs C6 Y Y V (hc:=by exact (V:_=(#[.slice bn (2*k+2) ax,I4 r.val,.bool r.fnd]:Array Value))) (hi:=by(simp;done))) ?_;refine Z0<|Zn [3,4,8,49,50,51] ?_;refine A8<|Zx<|BV<|Zg<|Ya (n:=1) Y Y<|Zm Y<|Z0<|Zn [51,3,4,8,49,50] ?_;refine Ab (e':=[(51,_)]) (by exact ⟨k+1,bn,ax,l8,rfl,⟨by omega,BS U rfl (by rw [SG hp,Bh])⟩,rfl,rfl⟩)
 have ek:k=L.length:=by omega
 subst ek;rw [G0]at I;refine Ay<|Zt<|Zt<|AR<|Zx<|A0<|Zo Wh (AA (cs:=#[_,_,_]) BW As Y Ax AN) ?_;refine Zm Y<|Xe (Xw As _) ?_;refine A3 Y<|AJ<|Bi rfl results138 Y Wh (Ak BW As Wn (rfl)) Y (by exact ⟨.slice K (2*L.length) ck,W,by rw [e8];rfl,by rw [e8];exact BS I (IA L).symm rfl,rfl⟩)
def Bw(q:QM)(c:Chg)(r:CE):CE×Bool:=
 if q.kd=1\/q.kd=2 then(⟨E8 q c r.rows,r.val,r.fnd⟩,true)
 else if q.kd=3 then(⟨r.rows,if(afQ q c).isSome then r.val+1 else r.val -1,r.fnd⟩,true)
 else if q.kd=4 then(⟨r.rows,r.val+(mQ q (afQ q c) -mQ q (bfQ q c)),r.fnd⟩,true)
 else if q.kd=5 then GZ (fun a b=>decide (a<b)) (bfQ q c).isSome (afQ q c).isSome (mQ q (bfQ q c)) (mQ q (afQ q c)) r
 else if q.kd=6 then GZ (fun a b=>decide (b<a)) (bfQ q c).isSome (afQ q c).isSome (mQ q (bfQ q c)) (mQ q (afQ q c)) r
 else DD q c r
theorem dm(q:QM)(c:Chg)(r:CE):(Bw q c r).1.rows.length<=r.rows.length+2:=by
 have h:=UQ q c r.rows;unfold Bw;split
 · exact Mb h (Nat.le_succ _)
 · split
   · exact eE _ _
   · split
     · exact eE _ _
     · split
       · rw [Mh];exact eE _ _
       · split
         · rw [Mh];exact eE _ _
         · exact dw q c r
set_option maxHeartbeats 1000000 in
theorem VS(q:QM)(c:Chg)(I J:Option Addr)(o n:Int)(r:CE)(pv:Option Addr)(Z O b G:Nat)(lt:Int->Int->Bool)(g:∀(args:Array Value) (w:World),(callFunc G args).run prog w= .ok (.enter G args) w)(m:∀x y:Int,BI prog G #[I4 x,I4 y] [] (.bool (lt x y))):BI prog 208 #[.agg (q.G2 c I J o n),.agg #[.slice pv Z O,I4 r.val,.bool r.fnd],I5 b] [[(b,.cells #[.func (.func G) #[] #[]] 73 (0,0))]] (.tuple #[.agg #[.slice pv Z O,I4 (GZ lt I.isSome J.isSome o n r).1.val,.bool (GZ lt I.isSome J.isSome o n r).1.fnd],.bool (GZ lt I.isSome J.isSome o n r).2]):=by
 refine Se func208 ntmps208 [0,1,2] ?_;intro u R;refine A0<|Ze (Ep Y (cs:=(q.G2 c I J o n)) (G6 q c I J o n))<|AD fun be=>Ze (Bx #[.slice pv Z O,I4 r.val,.bool r.fnd])<|AD fun br=>Ze (Al G3 #[_,_,_])<|AD fun b3=>A3 Y<|Zq<|A0<|Zh 17 D3 V rfl It Y<|Zl Ly Y ?_;refine Zv (Em S2 Y Y)<|Zm Y<|Ag (t:=11) Y V (fun h1=>?_) (fun h1=>?_)
 ·
  refine Yf 2 C7 V rfl CH Y<|Yl E0 Y ?_;refine Yg (Bo Y)<|Zf Y Y ?_;refine Ag (t:=15) Y V (fun h2=>?_) (fun h2=>?_)
  ·
   repeat refine A7 Y rfl ?_
   refine Yg (AV Y Y)<|Zv (AV Y Y)<|Z0<|Zn [2,3,4,5,24] ?_;refine Zx<|Cn Y<|A0<|Zh 18 D3 V rfl It Y<|Zl Ly Y ?_;refine Zv (Em S2 Y Y)<|Zm Y<|Ag (t:=28) Y V (fun h4=>?_) (fun h4=>?_)
   ·
    refine Yf 2 C7 V rfl CH Y<|Yl E0 Y ?_;refine Zv (AV Y Y)<|Zm Y<|Ag (t:=32) Y V (fun K=>?_) (fun K=>?_)
    ·
     refine Yl isAgg73 Y ?_;refine Yf 1 C7 V rfl A5 Y<|Yl AE Y ?_;refine Yf 20 D3 V rfl A5 Y<|Yl AE Y ?_;refine Xr [_,_] Y (g) Y V (m (r.val) (n)) ?_;refine Yg (Bo Y)<|Zv (AV Y Y)<|AG Y<|Zn [3,4,5,7] ?_;refine Zx<|A0<|Zh 20 D3 V rfl A5 Y<|Zl AE Y ?_;refine Zh 1 C7 V rfl A5 Y<|Xe (Zs A5 Y Y V (hi:=by(simp;done))) ?_;refine A4<|A0<|Zo Wh (AA (cs:=#[_,_,_]) BW As Y Ax AN) ?_;refine Zm Y<|Xe (Xw As _) ?_;refine A3 Y<|AJ<|Zt<|Bi V R0 Y Wh (Ak BW As Wn (V)) Y (by
      refine ⟨?_,V⟩;unfold GZ;simp_all<;>rfl)
    repeat refine A7 Y rfl ?_
    refine Zv (AL Y Y)<|AG Y<|Zn [3,4,5,7] ?_;refine Zx<|A0<|Zh 20 D3 V rfl A5 Y<|Zl AE Y ?_;refine Zh 1 C7 V rfl A5 Y<|Xe (Zs A5 Y Y V (hi:=by(simp;done))) ?_;refine A4<|A0<|Zo Wh (AA (cs:=#[_,_,_]) BW As Y Ax AN) ?_;refine Zm Y<|Xe (Xw As _) ?_;refine A3 Y<|AJ<|Zt<|Bi V R0 Y Wh (Ak BW As Wn (V)) Y (by
     refine ⟨?_,V⟩;unfold GZ;simp_all<;>rfl)
   repeat first|refine A7 Y rfl ?_|refine Zv (AL Y Y)<|Zm Y ?_
   refine Zv (AL Y Y)<|AG Y<|Zn [3,4,5,7] ?_;refine Zx<|A0<|Zh 20 D3 V rfl A5 Y<|Zl AE Y ?_;refine Zh 1 C7 V rfl A5 Y<|Xe (Zs A5 Y Y V (hi:=by(simp;done))) ?_;refine A4<|A0<|Zo Wh (AA (cs:=#[_,_,_]) BW As Y Ax AN) ?_;refine Zm Y<|Xe (Xw As _) ?_;refine A3 Y<|AJ<|Zt<|Bi V R0 Y Wh (Ak BW As Wn (V)) Y (by
    refine ⟨?_,V⟩;unfold GZ;simp_all<;>rfl)
  refine Yl isAgg73 Y ?_;refine Yf 1 C7 V rfl A5 Y<|Yl AE Y ?_;refine Yf 19 D3 V rfl A5 Y<|Yl AE Y ?_;refine Xr [_,_] Y (g) Y V (m (r.val) (o)) ?_;refine Yg (Bo Y)<|Yg (AL Y Y)<|Zv (AV Y Y)<|Z0<|Zn [2,3,4,5,24] ?_;refine Zx<|AX Y (fun h3=>?_) (fun h3=>?_)
  ·
   refine A0<|Zh 18 D3 V rfl It Y<|Zl Ly Y ?_;refine Zv (Em S2 Y Y)<|Zm Y<|Ag (t:=28) Y V (fun K=>?_) (fun K=>?_)
   ·
    refine Yf 2 C7 V rfl CH Y<|Yl E0 Y ?_;refine Zv (AV Y Y)<|Zm Y<|Ag (t:=32) Y V (fun K=>?_) (fun K=>?_)
    ·
     refine Yl isAgg73 Y ?_;refine Yf 1 C7 V rfl A5 Y<|Yl AE Y ?_;refine Yf 20 D3 V rfl A5 Y<|Yl AE Y ?_;refine Xr [_,_] Y (g) Y V (m (r.val) (n)) ?_;refine Yg (Bo Y)<|Zv (AV Y Y)<|AG Y<|Zn [3,4,5,7] ?_;refine Zx<|A0<|Zh 20 D3 V rfl A5 Y<|Zl AE Y ?_;refine Zh 1 C7 V rfl A5 Y<|Xe (Zs A5 Y Y V (hi:=by(simp;done))) ?_;refine A4<|A0<|Zo Wh (AA (cs:=#[_,_,_]) BW As Y Ax AN) ?_;refine Zm Y<|Xe (Xw As _) ?_;refine A3 Y<|AJ<|Zt<|Bi V R0 Y Wh (Ak BW As Wn (V)) Y (by
      refine ⟨?_,V⟩;unfold GZ;simp_all<;>rfl)
    repeat refine A7 Y rfl ?_
    refine Zv (AL Y Y)<|AG Y<|Zn [3,4,5,7] ?_;refine Zx<|A0<|Zh 20 D3 V rfl A5 Y<|Zl AE Y ?_;refine Zh 1 C7 V rfl A5 Y<|Xe (Zs A5 Y Y V (hi:=by(simp;done))) ?_;refine A4<|A0<|Zo Wh (AA (cs:=#[_,_,_]) BW As Y Ax AN) ?_;refine Zm Y<|Xe (Xw As _) ?_;refine A3 Y<|AJ<|Zt<|Bi V R0 Y Wh (Ak BW As Wn (V)) Y (by
     refine ⟨?_,V⟩;unfold GZ;simp_all<;>rfl)
   repeat first|refine A7 Y rfl ?_|refine Zv (AL Y Y)<|Zm Y ?_
   refine Zv (AL Y Y)<|AG Y<|Zn [3,4,5,7] ?_;refine Zx<|A0<|Zh 20 D3 V rfl A5 Y<|Zl AE Y ?_;refine Zh 1 C7 V rfl A5 Y<|Xe (Zs A5 Y Y V (hi:=by(simp;done))) ?_;refine A4<|A0<|Zo Wh (AA (cs:=#[_,_,_]) BW As Y Ax AN) ?_;refine Zm Y<|Xe (Xw As _) ?_;refine A3 Y<|AJ<|Zt<|Bi V R0 Y Wh (Ak BW As Wn (V)) Y (by
    refine ⟨?_,V⟩;unfold GZ;simp_all<;>rfl)
  refine AC<|Zx<|Zq<|A0<|Zh 18 D3 V rfl It Y<|Zl Ly Y ?_;refine Zv (Em S2 Y Y)<|A4<|AX Y (fun U=>?_) (fun U=>?_)
  ·
   refine Zq<|A0<|Zh 2 C7 V rfl CH Y<|Zl E0 Y ?_;refine Zv (Bo Y)<|Zm Y<|Ag (t:=52) Y V (fun W=>?_) (fun W=>?_)
   ·
    repeat refine A7 Y rfl ?_
    refine Zv (AV Y Y)<|Z0<|Zn [3,4,5,59] ?_;refine Zx<|Cn Y<|Zg<|Zh 20 D3 V rfl A5 Y<|Zl AE Y ?_;refine Zh 1 C7 V rfl A5 Y<|Xe (Zs A5 Y Y V (hi:=by(simp;done))) ?_;refine A4<|Zg<|Zh 2 C7 V rfl CH Y<|Xe (Zs CH Y Y V (hi:=by(simp;done))) ?_;refine A4<|A0<|Zo Wh (AA (cs:=#[_,_,_]) BW As Y Ax AN) ?_;refine Xe (Xw As _) ?_;refine A3 Y<|AJ<|Bi V R0 Y Wh (Ak BW As Wn (V)) Y (by
     refine ⟨?_,V⟩;unfold GZ;simp_all<;>rfl)
   refine Yl isAgg73 Y ?_;refine Yf 20 D3 V rfl A5 Y<|Yl AE Y ?_;refine Yf 1 C7 V rfl A5 Y<|Yl AE Y ?_;refine Xr [_,_] Y (g) Y V (m (n) (r.val)) ?_;refine Zv (AL Y Y)<|Z0<|Zn [3,4,5,59] ?_;refine Zx<|AX Y (fun X=>?_) (fun X=>?_)
   ·
    refine Zg<|Zh 20 D3 V rfl A5 Y<|Zl AE Y ?_;refine Zh 1 C7 V rfl A5 Y<|Xe (Zs A5 Y Y V (hi:=by(simp;done))) ?_;refine A4<|Zg<|Zh 2 C7 V rfl CH Y<|Xe (Zs CH Y Y V (hi:=by(simp;done))) ?_;refine A4<|A0<|Zo Wh (AA (cs:=#[_,_,_]) BW As Y Ax AN) ?_;refine Xe (Xw As _) ?_;refine A3 Y<|AJ<|Bi V R0 Y Wh (Ak BW As Wn (V)) Y (by
     refine ⟨?_,V⟩;unfold GZ;simp_all<;>rfl)
   refine AC<|Zx<|Zg<|Zh 2 C7 V rfl CH Y<|Xe (Zs CH Y Y V (hi:=by(simp;done))) ?_;refine A4<|A0<|Zo Wh (AA (cs:=#[_,_,_]) BW As Y Ax AN) ?_;refine Xe (Xw As _) ?_;refine A3 Y<|AJ<|Bi V R0 Y Wh (Ak BW As Wn (V)) Y (by
    refine ⟨?_,V⟩;unfold GZ;simp_all<;>rfl)
  refine AC<|Zx<|A0<|Zo Wh (AA (cs:=#[_,_,_]) BW As Y Ax AN) ?_;refine Xe (Xw As _) ?_;refine A3 Y<|AJ<|Bi V R0 Y Wh (Ak BW As Wn (V)) Y (by
   refine ⟨?_,V⟩;unfold GZ;simp_all<;>rfl)
 repeat refine A7 Y rfl ?_
 refine Zv (AL Y Y)<|Z0<|Zn [2,3,4,5,24] ?_;refine Zx<|Ch Y<|AC<|Zx<|Zq<|A0<|Zh 18 D3 V rfl It Y<|Zl Ly Y ?_;refine Zv (Em S2 Y Y)<|A4<|AX Y (fun U=>?_) (fun U=>?_)
 ·
  refine Zq<|A0<|Zh 2 C7 V rfl CH Y<|Zl E0 Y ?_;refine Zv (Bo Y)<|Zm Y<|Ag (t:=52) Y V (fun W=>?_) (fun W=>?_)
  ·
   repeat refine A7 Y rfl ?_
   refine Zv (AV Y Y)<|Z0<|Zn [3,4,5,59] ?_;refine Zx<|Cn Y<|Zg<|Zh 20 D3 V rfl A5 Y<|Zl AE Y ?_;refine Zh 1 C7 V rfl A5 Y<|Xe (Zs A5 Y Y V (hi:=by(simp;done))) ?_;refine A4<|Zg<|Zh 2 C7 V rfl CH Y<|Xe (Zs CH Y Y V (hi:=by(simp;done))) ?_;refine A4<|A0<|Zo Wh (AA (cs:=#[_,_,_]) BW As Y Ax AN) ?_;refine Xe (Xw As _) ?_;refine A3 Y<|AJ<|Bi V R0 Y Wh (Ak BW As Wn (V)) Y (by
    refine ⟨?_,V⟩;unfold GZ;simp_all<;>rfl)
  refine Yl isAgg73 Y ?_;refine Yf 20 D3 V rfl A5 Y<|Yl AE Y ?_;refine Yf 1 C7 V rfl A5 Y<|Yl AE Y ?_;refine Xr [_,_] Y (g) Y V (m (n) (r.val)) ?_;refine Zv (AL Y Y)<|Z0<|Zn [3,4,5,59] ?_;refine Zx<|AX Y (fun X=>?_) (fun X=>?_)
  ·
   refine Zg<|Zh 20 D3 V rfl A5 Y<|Zl AE Y ?_;refine Zh 1 C7 V rfl A5 Y<|Xe (Zs A5 Y Y V (hi:=by(simp;done))) ?_;refine A4<|Zg<|Zh 2 C7 V rfl CH Y<|Xe (Zs CH Y Y V (hi:=by(simp;done))) ?_;refine A4<|A0<|Zo Wh (AA (cs:=#[_,_,_]) BW As Y Ax AN) ?_;refine Xe (Xw As _) ?_;refine A3 Y<|AJ<|Bi V R0 Y Wh (Ak BW As Wn (V)) Y (by
    refine ⟨?_,V⟩;unfold GZ;simp_all<;>rfl)
  refine AC<|Zx<|Zg<|Zh 2 C7 V rfl CH Y<|Xe (Zs CH Y Y V (hi:=by(simp;done))) ?_;refine A4<|A0<|Zo Wh (AA (cs:=#[_,_,_]) BW As Y Ax AN) ?_;refine Xe (Xw As _) ?_;refine A3 Y<|AJ<|Bi V R0 Y Wh (Ak BW As Wn (V)) Y (by
   refine ⟨?_,V⟩;unfold GZ;simp_all<;>rfl)
 refine AC<|Zx<|A0<|Zo Wh (AA (cs:=#[_,_,_]) BW As Y Ax AN) ?_;refine Xe (Xw As _) ?_;refine A3 Y<|AJ<|Bi V R0 Y Wh (Ak BW As Wn (V)) Y (by
  refine ⟨?_,V⟩;unfold GZ;simp_all<;>rfl)
theorem rU(x y:Int):BI prog 134 #[I4 x,I4 y] [] (.bool (decide (x<y))):=by
 refine Se func134 ntmps134 [0,1] ?_;intro u R;refine A0<|A3 Y<|A0<|Zm Y<|Zm Y<|Zv (Dt Y Y)<|A3 Y<|AJ<|AP V results134 Y (by exact ⟨V,V⟩)
theorem rW(x y:Int):BI prog 136 #[I4 x,I4 y] [] (.bool (decide (y<x))):=by
 refine Se func136 ntmps136 [0,1] ?_;intro u R;refine A0<|A3 Y<|A0<|Zm Y<|Zm Y<|Zv (Er Y Y)<|A3 Y<|AJ<|AP V results136 Y (by exact ⟨V,V⟩)
def GY(k:Int):Nat:=if k=1 then 127 else if k=2 then 127 else if k=3 then 129 else if k=4 then 131 else if k=5 then 208 else if k=6 then 208 else 138
def Ic(b5 b6:Nat)(k:Int):List Value:=if k=5 then [I5 b5]else if k=6 then [I5 b6]else []
theorem Vl{lm:List (Int×Value)}{g m:Nat}(h:∀p,p∈lm↔p∈Lv g m)(G:(lm.map (·.1)).Nodup){k:Int}(I:1<=k/\k<=7):EG k lm=some (.agg #[.func (.func (HY k)) #[] #[],.func (.func (GY k)) #[] (Ic g m k).toArray]):=by
 obtain h9|h9|h9|h9|h9|h9|h9:k=1\/k=2\/k=3\/k=4\/k=5\/k=6\/k=7:=by omega
 all_goals subst h9
 all_goals exact ZB h G (by simp [Lv,HY,GY,Ic])
theorem Kb{k:Int}(g:1<=k/\k<=7):∀(args:Array Value) (w:World),(callFunc (GY k) args).run prog w= .ok (.enter (GY k) args) w:=by
 obtain h|h|h|h|h|h|h:k=1\/k=2\/k=3\/k=4\/k=5\/k=6\/k=7:=by omega
 all_goals (subst h;simp only [GY];first|exact call127|exact call129|exact call131|exact call208|exact call138)
theorem I7{P:Program}{f:FuncId}{args:Array Value}{H H1:Hp}{Q G:Value->Hp->Prop}(h:BZ P f args H Q)(F:Hp)(O:H1.flatten.Perm (H++F).flatten)(U:∀v H',Q v H'->∃g E,G v g/\(H'.flatten++F.flatten).Perm (g.flatten++E)):BZ P f args H1 G:=fun u R w W=>
 Calls.mono (h u (F++R) w (W.perm (by rw [GO,<-CN,GO (L₁:=H++F)];exact O.append_right _))) fun e X K=>by
  rcases K with⟨v,H',rfl,m,h2⟩|⟨ch,H',rfl,m,h2⟩
  · obtain ⟨g,E,I,J⟩:=U v H' m
    refine .inl ⟨v,g,V,I,h2.sub ⟨E,?_⟩⟩;rw [GO,GO,GO,<-CN];refine (J.append_right _).trans ?_;rw [CN,CN];exact LR.append_left _
  · exact m.elim
def MIn(q:QM)(c:Chg):Prop:=(-1000000000<=mQ q (bfQ q c)/\mQ q (bfQ q c)<=1000000000)/\-1000000000<=mQ q (afQ q c)/\mQ q (afQ q c)<=1000000000
theorem yH{b:Bool}{x:AU}(h:b=true->x.ok):-1000000000<=mQ q (Ht q b x)/\mQ q (Ht q b x)<=1000000000:=by
 unfold Ht;split
 · rename_i h9
   rw [Fi]at h9;exact WX (h h9.1) q.bq
 · exact ⟨by show(-1000000000:Int)<=0;decide,by show(0:Int)<=1000000000;decide⟩
theorem rJ(q:QM)(h:c.ok):MIn q c:=by
 obtain ⟨_,h2,_⟩:=h;refine ⟨yH fun g=>?_,yH fun g=>?_⟩
 · rw [PQ g]at h2
   exact HT.1 fun m=>h2 (.inl ⟨g,m⟩)
 · rw [Ky g]at h2
   exact HT.1 fun m=>h2 (.inr ⟨g,m⟩)
theorem Kk(q:QM)(c:Chg)(hq:BJ q)(hm:MIn q c){O U:Option Addr}{s1:List A9}(ax:Ig O (bfQ q c) s1)(W:Ig U (afQ q c) s2)(g m:Nat)(r:CE)(pv:Option Addr)(X:Nat)(I:List A9)(Z:Bb 5 83 (.slice pv r.rows.length X) r.rows.length (Af r.rows) I)(hn:r.rows.length<=100000000)(hv:-4000000000000000000<=r.val/\r.val<=4000000000000000000):
 BZ prog (GY q.kd) (.agg (q.G2 c O U (mQ q (bfQ q c)) (mQ q (afQ q c))):: .agg #[.slice pv r.rows.length X,I4 r.val,.bool r.fnd]::Ic g m q.kd).toArray [I,s2,[(g,.cells #[.func (.func 134) #[] #[]] 73 (0,0))],[(m,.cells #[.func (.func 136) #[] #[]] 73 (0,0))]] (fun w H'=>∃G K,w= .tuple #[.agg #[G,I4 (Bw q c r).1.val,.bool (Bw q c r).1.fnd],.bool (Bw q c r).2]/\Bb 5 83 G (Bw q c r).1.rows.length (Af (Bw q c r).1.rows) K/\H'=[K]):=by
 have e1:=ax.some_;have e2:=W.some_
 have af:=hq.2.1;have hk:q.kd=1\/q.kd=2\/q.kd=3\/q.kd=4\/q.kd=5\/q.kd=6\/q.kd=7:=by have:=hq.2.2.2;omega
 have J:(q.kd=1\/q.kd=2)->Bw q c r=(⟨E8 q c r.rows,r.val,r.fnd⟩,true):=fun h=>by unfold Bw;rw [AM h]
 have P1:=dP q c O U (mQ q (bfQ q c)) (mQ q (afQ q c)) af Z hn W;have P7:=dW q af c O U e1 W Z hn
 have P3:=Ye q c O U (mQ q (bfQ q c)) (mQ q (afQ q c)) pv r.rows.length X hv;have P4:=kL q c O U (mQ q (bfQ q c)) (mQ q (afQ q c)) pv r.rows.length X hv hm
 have P5:=VS q c O U (mQ q (bfQ q c)) (mQ q (afQ q c)) r pv r.rows.length X g 134 (fun a b=>decide (a<b)) call134 rU;have P6:=VS q c O U (mQ q (bfQ q c)) (mQ q (afQ q c)) r pv r.rows.length X m 136 (fun a b=>decide (b<a)) call136 rW
 rw [e2]at P3;rw [e1,e2]at P5 P6;rcases hk with h|h|h|h|h|h|h
 · rw [show GY q.kd=127 by rw [h];rfl,show Ic g m q.kd=[] by rw [h];rfl,J (.inl h)]
   refine I7 P1 [[(g,.cells #[.func (.func 134) #[] #[]] 73 (0,0))],[(m,.cells #[.func (.func 136) #[] #[]] 73 (0,0))]] B0 ?_;rintro w H' ⟨G,K,rfl,h3,rfl⟩;exact ⟨[K],_,⟨G,K,V,h3,V⟩,by simp;exact .refl _⟩
 · rw [show GY q.kd=127 by rw [h];rfl,show Ic g m q.kd=[] by rw [h];rfl,J (.inr h)]
   refine I7 P1 [[(g,.cells #[.func (.func 134) #[] #[]] 73 (0,0))],[(m,.cells #[.func (.func 136) #[] #[]] 73 (0,0))]] B0 ?_;rintro w H' ⟨G,K,rfl,h3,rfl⟩;exact ⟨[K],_,⟨G,K,V,h3,V⟩,by simp;exact .refl _⟩
 · rw [show GY q.kd=129 by rw [h];rfl,show Ic g m q.kd=[] by rw [h];rfl,show Bw q c r=(⟨r.rows,if(afQ q c).isSome then r.val+1 else r.val -1,r.fnd⟩,true) by unfold Bw;rw [AK A1,AM h]]
   refine I7 P3 [I,s2,[(g,.cells #[.func (.func 134) #[] #[]] 73 (0,0))],[(m,.cells #[.func (.func 136) #[] #[]] 73 (0,0))]] B0 ?_;rintro w H' ⟨rfl,rfl⟩;exact ⟨[I],_,⟨_,I,V,Z,V⟩,by simp;exact .refl _⟩
 · rw [show GY q.kd=131 by rw [h];rfl,show Ic g m q.kd=[] by rw [h];rfl,show Bw q c r=(⟨r.rows,r.val+(mQ q (afQ q c) -mQ q (bfQ q c)),r.fnd⟩,true) by unfold Bw;rw [AK A1,AK A1,AM h]]
   refine I7 P4 [I,s2,[(g,.cells #[.func (.func 134) #[] #[]] 73 (0,0))],[(m,.cells #[.func (.func 136) #[] #[]] 73 (0,0))]] B0 ?_;rintro w H' ⟨rfl,rfl⟩;exact ⟨[I],_,⟨_,I,V,Z,V⟩,by simp;exact .refl _⟩
 · have e9:Bw q c r=GZ (fun a b=>decide (a<b)) (bfQ q c).isSome (afQ q c).isSome (mQ q (bfQ q c)) (mQ q (afQ q c)) r:=by unfold Bw;rw [AK A1,AK A1,AK A1,AM h]
   have e8:(Bw q c r).1.rows=r.rows:=by rw [e9,Mh]
   rw [show GY q.kd=208 by rw [h];rfl,show Ic g m q.kd=[I5 g] by rw [h];rfl];rw [<-e9]at P5;refine I7 P5 [I,s2,[(m,.cells #[.func (.func 136) #[] #[]] 73 (0,0))]] (by simp;rw [<-CN,<-CN];exact RW) ?_;rintro w H' ⟨rfl,rfl⟩;exact ⟨[I],[(g,_)]++s2++_,⟨_,I,rfl,by rw [e8];exact Z,rfl⟩,by simp;exact RW.symm⟩
 · have e9:Bw q c r=GZ (fun a b=>decide (b<a)) (bfQ q c).isSome (afQ q c).isSome (mQ q (bfQ q c)) (mQ q (afQ q c)) r:=by unfold Bw;rw [AK A1,AK A1,AK A1,AK A1,AM h]
   have e8:(Bw q c r).1.rows=r.rows:=by rw [e9,Mh]
   rw [show GY q.kd=208 by rw [h];rfl,show Ic g m q.kd=[I5 m] by rw [h];rfl];rw [<-e9]at P6;refine I7 P6 [I,s2,[(g,.cells #[.func (.func 134) #[] #[]] 73 (0,0))]] (by simp;rw [<-CN,<-CN];exact ((List.Perm.swap _ _ []).append_left _).trans RW) ?_;rintro w H' ⟨rfl,rfl⟩;exact ⟨[I],[(m,_)]++s2++_,⟨_,I,rfl,by rw [e8];exact Z,rfl⟩,by simp;exact RW.symm⟩
 · rw [show GY q.kd=138 by rw [h];rfl,show Ic g m q.kd=[] by rw [h];rfl,show Bw q c r=DD q c r by unfold Bw;rw [AK A1,AK A1,AK A1,AK A1,AK A1]]
   refine I7 P7 [[(g,.cells #[.func (.func 134) #[] #[]] 73 (0,0))],[(m,.cells #[.func (.func 136) #[] #[]] 73 (0,0))]] B0 ?_;rintro w H' ⟨G,K,rfl,h3,rfl⟩;exact ⟨[K],_,⟨G,K,V,h3,V⟩,by simp;exact .refl _⟩
def Di(q:QM)(c:Chg):Bool:=decide c.ok&&Co q c
def D9(q:QM)(c:Chg)(r:CE):CE×Bool:=if Di q c then(if(Bw q c r).2 then((Bw q c r).1,true)else(CE.none,false))else(r,true)
def Hm(q:QM)(r:CE):List Chg->Option CE
 |[]=>some r
 |c::cs=>if(D9 q c r).2 then Hm q (D9 q c r).1 cs else none
theorem SE(q:QM):∀(a:List Chg) (r:CE) (b:List Chg),Hm q r (a++b)=(Hm q r a).bind fun g=>Hm q g b
 |[],_,_=>rfl
 |c::a,r,b=>by
  show(if(D9 q c r).2 then Hm q (D9 q c r).1 (a++b)else none)=(if(D9 q c r).2 then Hm q (D9 q c r).1 a else none).bind fun g=>Hm q g b;split
  · exact SE q a _ b
  · rfl
def Ba(q:QM)(r:CE)(cs:List Chg):CE×Bool×Bool:=match Hm q r cs with
 |some r'=>(r',cs.any (Di q),true)
 |none=>(CE.none,true,false)
theorem jh(q:QM)(c:Chg)(r:CE):(D9 q c r).1.rows.length<=r.rows.length+2:=by
 have h:=dm q c r;unfold D9;split
 · split
   · exact h
   · exact C0 _
 · exact eE _ _
theorem di(m:MIn q c){B:Int}(h:-B<=r.val/\r.val<=B)(h0:0<=B):-(B+2000000000)<=(Bw q c r).1.val/\(Bw q c r).1.val<=B+2000000000:=by
 obtain ⟨⟨G,h2⟩,I,J⟩:=m;have g:∀lt b a,-(B+2000000000)<=(GZ lt b a (mQ q (bfQ q c)) (mQ q (afQ q c)) r).1.val/\(GZ lt b a (mQ q (bfQ q c)) (mQ q (afQ q c)) r).1.val<=B+2000000000:=fun lt b a=>by
  unfold GZ;split
  · constructor<;>(simp only;omega)
  · split
    · simp only
      split<;>(constructor<;>omega)
    · constructor<;>(simp only;omega)
 unfold Bw;split
 · constructor<;>(simp only;omega)
 · split
   · simp only
     split<;>(constructor<;>omega)
   · split
     · constructor<;>(simp only;omega)
     · split
       · exact g _ _ _
       · split
         · exact g _ _ _
         · rw [dn];constructor<;>omega
theorem jg{B:Int}(h:-B<=r.val/\r.val<=B)(h0:0<=B):-(B+2000000000)<=(D9 q c r).1.val/\(D9 q c r).1.val<=B+2000000000:=by
 unfold D9;split
 · rename_i h9
   unfold Di at h9;rw [Fi]at h9;split
   · exact di (rJ q (HX h9.1)) h h0
   · constructor<;>(simp only [CE.none];omega)
 · constructor<;>(simp only;omega)
variable{cs:List Chg}
theorem Jy{g:CE}{x:Chg}(h:Hm q r (cs.take k)=some g)(m:cs[k]?=some x):Hm q r (cs.take (k+1))=if(D9 q x g).2 then some (D9 q x g).1 else none:=by
 rw [Bn m,SE,h];show Hm q g [x]=_
 unfold Hm Hm;rfl
theorem Pp(h:Hm q r (cs.take k)=none):Hm q r cs=none:=by
 rw [<-I3 k cs,SE,h];rfl
theorem WF{x:Chg}(f:Chg->Bool)(g:cs[k]?=some x):(cs.take (k+1)).any f=((cs.take k).any f||f x):=by
 rw [Bn g,List.any_append,kk,kn,eL]
theorem Wq{q:QM}:∀(cs:List Chg) (r r':CE) (B:Int) (n:Nat),Hm q r cs=some r'->(-B<=r.val/\r.val<=B)->0<=B->r.rows.length<=n->(-(B+2000000000*(cs.length:Int))<=r'.val/\r'.val<=B+2000000000*(cs.length:Int))/\r'.rows.length<=n+2*cs.length
 |[],r,r',B,n,h,h1,h2,h3=>by
  unfold Hm at h;injection h with h
  subst h;simp only [J1];exact ⟨⟨by omega,by omega⟩,h3⟩
 |c::cs,r,r',B,n,h,h1,h2,h3=>by
  unfold Hm at h;split at h
  · have g:=jg (q:=q) (c:=c) h1 h2
    have G:=jh q c r;have m:=Wq cs _ r' (B+2000000000) (n+2) h g A1 A1
    rw [DH];obtain ⟨⟨I,J⟩,K⟩:=m;refine ⟨⟨?_,?_⟩,by omega⟩<;>(push_cast;omega)
  · cases h
set_option maxHeartbeats 1000000 in
theorem Sl(q:QM)(g:BJ q)(c:Chg)(hr:De A rv r.rows)(hn:r.rows.length<=100000000)(hv:-4000000000000000000<=r.val/\r.val<=4000000000000000000):BZ prog 110 #[.agg q.A30,.agg #[rv,I4 r.val,.bool r.fnd],.agg c.A28] [A] (fun w H'=>∃bn s',w= .tuple #[.agg #[bn,I4 (D9 q c r).1.val,.bool (D9 q c r).1.fnd],.bool (D9 q c r).2]/\Bb 5 83 bn (D9 q c r).1.rows.length (Af (D9 q c r).1.rows) s'/\H'=[s',A]):=by
 have d9:=mL;obtain ⟨pv,cv,rfl,_⟩:=id hr;refine Se func110 ntmps110 [0,1,2] ?_;intro u R;refine A0<|Ze (Bx q.A30)<|AD fun bq=>Ze (Bx #[.slice pv r.rows.length cv,I4 r.val,.bool r.fnd])<|AD fun br=>Ze (Bx c.A28)<|AD fun bc=>Ze (Al G3 #[_,_,_])<|AD fun bo=>A3 Y<|A0<|Zh 0 C7 V rfl C6 Y<|Zl FA Y ?_;refine Zc [_] Y call109 Y V (Gg hr A1) ?_;rintro _ _ ⟨_,⟨s1,h1,rfl⟩,rfl⟩;obtain ⟨g1,c1,rfl⟩:=h1.form;refine Zh 0 C7 V rfl C6 Y<|Xe (Zs C6 Y Y V (hi:=by(simp;done))) ?_;refine A4<|Zq<|A0<|Zo Wh (AA (cs:=#[_,_,_,_,_,_,_]) E4 CC Y Ax AN) ?_;refine Zo Wh (AA (cs:=#[_,_,_,_,_,_,_,_,_,_]) Ft C3 Y Ax AN) ?_;refine Xr [_,_] Y call22 Y V (KW q c) ?_;rw [show(decide (BJ q)&&(decide c.ok&&Co q c))=Di q c by rw [CM g];rfl];refine Zv (Bo Y)<|Z0<|Zn [3,4,5,6,17] ?_;refine Zx<|AX Y (fun ht=>?_) (fun ht=>?_)
 ·
  have I:Di q c=false:=by simpa using ht
  refine A0<|Zo Wh (AA (cs:=#[_,_,_]) BW As Y Ax AN) ?_;refine Xe (Xw As _) ?_;refine A3 Y<|AJ<|Zt<|Bi V results110 Y Wh (Ak BW As Wn (V)) Y (by
   have e9:D9 q c r=(r,true):=by unfold D9;rw [I];rfl
   exact ⟨.slice g1 r.rows.length c1,s1,by rw [e9];rfl,by rw [e9];exact h1,rfl⟩)
 have I:Di q c=true:=by simpa using ht
 have Z:c.ok:=by unfold Di at I;rw [Fi]at I;exact HX I.1
 refine AC<|Zx<|Zb [3,4,5,6] ?_;refine DK (e0:=[(3,_),(4,_),(5,_)]) (H0:=[s1]) (fun e H=>∃(W:Nat) (G:Option Addr) (m:Nat) (U:List A9),(Bb 5 83 (.slice G (Bw q c r).1.rows.length m) (Bw q c r).1.rows.length (Af (Bw q c r).1.rows) U)/\e=[(8,I5 W),(9,.bool (Bw q c r).2)]/\H=[[(W,.cells #[.slice G (Bw q c r).1.rows.length m,I4 (Bw q c r).1.val,.bool (Bw q c r).1.fnd] 53 (0,0))],U]) Wp ?hx_2 ?hy_2
 case hx_2=>
  refine Az (n:=16) (0::0::2::7::15::0::0::97::0::511::1023::2047::2047::0::12287::32767::[]) 25217 A6 A6 V<|A2 1 V (AB (off:=0) CA V rfl A5 Y)<|B3 2 V AE Y ?_;refine E6 5 V Wh (AA (cs:=#[_,_,_,_,_,_,_]) E4 CC Y Ax AN) ?_;refine E6 6 V Wh (AA (cs:=#[_,_,_,_,_,_,_,_,_,_]) Ft C3 Y Ax AN) ?_;refine E6 8 V Wh (AA (cs:=#[_,_,_]) BW As Y Ax AN) ?_;refine Zz (l:=[0,13])<|B1 [true,true,true,true] [(8,(_,_)),(6,(_,_)),(5,(_,_)),(2,(_,_))] V rfl (Zw [] Y call68 Y V (Ng)) ?_ Bz ?_
  ·
   rintro _ _ ⟨_,⟨mb,es,ck,lm,b5,b6,rfl,hm,hp,rfl⟩,rfl⟩;refine ⟨Zk (Zk (Zk (Zk (AZ)))),?_⟩;have X:=Vl hp hm.keys g.kind
   refine E6 3 rfl Wh (Db Hw W7 Wa hm (fun _ _=>trivial) (trivial) ((by rw [X];exact rfl:_=Value.agg #[.func (.func (HY q.kd)) #[] #[],.func (.func (GY q.kd)) #[] (Ic b5 b6 q.kd).toArray])) Y Y) ?_;refine A2 4 V (X8 W6 V isAgg160 Y V)<|Zz (l:=[7,13])<|B1 [true,true,false,false,true] [(3,(_,_)),(8,(_,_)),(2,(_,_))] V rfl (Zw [_,_] Y call69 Y V (Jg q g.2.1 (by have:=g.2.2.2;omega) c)) ?_ Bz ?_
   ·
    rintro _ _ ⟨_,⟨p1,p2,cu,cO,rfl,K,O,rfl⟩,rfl⟩;refine B5<|Zz (l:=[9,13])<|B1 [false,false,false] [] V rfl (Zw [_,_] Y (Kb g.kind) Y V (Kk q c g (rJ q Z) K O b5 b6 r g1 c1 s1 h1 hn hv)) ?_ Bz ?_
    ·
     rintro _ _ ⟨_,⟨ax,U,rfl,J,rfl⟩,rfl⟩;refine ⟨AZ,?_⟩;obtain ⟨G,m,rfl⟩:=J.form;refine A2 10 V (AO Y)<|A2 11 V (C8 Y V)<|A2 12 V (C8 Y V)<|Zz (l:=[13])<|B1 [] [] V rfl (Al G3 #[_,_,_]) ?_ (fun _ _ h=>h.elim) Ai;rintro _ _ ⟨W,rfl,rfl⟩;refine B5<|Yw 14 32767 V (Xw As #[.slice G (Bw q c r).1.rows.length m,I4 (Bw q c r).1.val,.bool (Bw q c r).1.fnd])<|CT<|A2 15 V (Aw Y)<|Ah<|Zn [8,9,6] ?_;refine BN (e':=[(8,_),(9,_)]) (by exact ⟨W,G,m,U,J,V,V⟩)
    refine B1 [true,true,true] [(3,(_,_)),(8,(_,_)),(2,(_,_))] V rfl (Al G3 #[_,_,_]) ?_ (fun _ _ h=>h.elim) Ai;rintro _ _ ⟨W,rfl,rfl⟩;refine B5<|Zz (l:=[9])<|B1 [false,false,false] [] V rfl (Zw [_,_] Y (Kb g.kind) Y V (Kk q c g (rJ q Z) K O b5 b6 r g1 c1 s1 h1 hn hv)) ?_ Bz Ai;rintro _ _ ⟨_,⟨ax,U,rfl,J,rfl⟩,rfl⟩;refine ⟨AZ,?_⟩;obtain ⟨G,m,rfl⟩:=J.form;refine A2 10 V (AO Y)<|A2 11 V (C8 Y V)<|A2 12 V (C8 Y V)<|Zz (l:=[14])<|B1 [] [] V rfl (Xw As #[.slice G (Bw q c r).1.rows.length m,I4 (Bw q c r).1.val,.bool (Bw q c r).1.fnd]) ?_ (fun _ _ h=>h.elim) Ai;rintro _ _ ⟨rfl,rfl⟩;refine B5<|A2 15 V (Aw Y)<|Ah<|Zn [8,9,6] ?_;refine BN (e':=[(8,_),(9,_)]) (by exact ⟨W,G,m,U,J,V,V⟩)
   refine B1 [true,true,true,true,true] [(3,(_,_)),(8,(_,_)),(6,(_,_)),(5,(_,_)),(2,(_,_))] V rfl (Al G3 #[_,_,_]) ?_ (fun _ _ h=>h.elim) Ai;rintro _ _ ⟨W,rfl,rfl⟩;refine B5<|Zz (l:=[7])<|B1 [true,true,false,false,true] [(3,(_,_)),(8,(_,_)),(2,(_,_))] V rfl (Zw [_,_] Y call69 Y V (Jg q g.2.1 (by have:=g.2.2.2;omega) c)) ?_ Bz Ai;rintro _ _ ⟨_,⟨p1,p2,cu,cO,rfl,K,O,rfl⟩,rfl⟩;refine B5<|Zz (l:=[9])<|B1 [false,false,false] [] V rfl (Zw [_,_] Y (Kb g.kind) Y V (Kk q c g (rJ q Z) K O b5 b6 r g1 c1 s1 h1 hn hv)) ?_ Bz Ai;rintro _ _ ⟨_,⟨ax,U,rfl,J,rfl⟩,rfl⟩;refine ⟨AZ,?_⟩;obtain ⟨G,m,rfl⟩:=J.form;refine A2 10 V (AO Y)<|A2 11 V (C8 Y V)<|A2 12 V (C8 Y V)<|Zz (l:=[14])<|B1 [] [] V rfl (Xw As #[.slice G (Bw q c r).1.rows.length m,I4 (Bw q c r).1.val,.bool (Bw q c r).1.fnd]) ?_ (fun _ _ h=>h.elim) Ai;rintro _ _ ⟨rfl,rfl⟩;refine B5<|A2 15 V (Aw Y)<|Ah<|Zn [8,9,6] ?_;refine BN (e':=[(8,_),(9,_)]) (by exact ⟨W,G,m,U,J,V,V⟩)
  refine B1 [true,true,true,true] [(8,(_,_)),(6,(_,_)),(5,(_,_)),(2,(_,_))] V rfl (Al G3 #[_,_,_]) ?_ (fun _ _ h=>h.elim) Ai;rintro _ _ ⟨W,rfl,rfl⟩;refine B5<|Zz (l:=[0])<|B1 [true,true,true,true] [(8,(_,_)),(6,(_,_)),(5,(_,_)),(2,(_,_))] V rfl (Zw [] Y call68 Y V (Ng)) ?_ Bz Ai;rintro _ _ ⟨_,⟨mb,es,ck,lm,b5,b6,rfl,hm,hp,rfl⟩,rfl⟩;refine ⟨Zk (Zk (Zk (Zk (AZ)))),?_⟩;have X:=Vl hp hm.keys g.kind
  refine E6 3 rfl Wh (Db Hw W7 Wa hm (fun _ _=>trivial) (trivial) ((by rw [X];exact rfl:_=Value.agg #[.func (.func (HY q.kd)) #[] #[],.func (.func (GY q.kd)) #[] (Ic b5 b6 q.kd).toArray])) Y Y) ?_;refine A2 4 V (X8 W6 V isAgg160 Y V)<|Zz (l:=[7])<|B1 [true,true,false,false,true] [(3,(_,_)),(8,(_,_)),(2,(_,_))] V rfl (Zw [_,_] Y call69 Y V (Jg q g.2.1 (by have:=g.2.2.2;omega) c)) ?_ Bz Ai;rintro _ _ ⟨_,⟨p1,p2,cu,cO,rfl,K,O,rfl⟩,rfl⟩;refine B5<|Zz (l:=[9])<|B1 [false,false,false] [] V rfl (Zw [_,_] Y (Kb g.kind) Y V (Kk q c g (rJ q Z) K O b5 b6 r g1 c1 s1 h1 hn hv)) ?_ Bz Ai;rintro _ _ ⟨_,⟨ax,U,rfl,J,rfl⟩,rfl⟩;refine ⟨AZ,?_⟩;obtain ⟨G,m,rfl⟩:=J.form;refine A2 10 V (AO Y)<|A2 11 V (C8 Y V)<|A2 12 V (C8 Y V)<|Zz (l:=[14])<|B1 [] [] V rfl (Xw As #[.slice G (Bw q c r).1.rows.length m,I4 (Bw q c r).1.val,.bool (Bw q c r).1.fnd]) ?_ (fun _ _ h=>h.elim) Ai;rintro _ _ ⟨rfl,rfl⟩;refine B5<|A2 15 V (Aw Y)<|Ah<|Zn [8,9,6] ?_;refine BN (e':=[(8,_),(9,_)]) (by exact ⟨W,G,m,U,J,V,V⟩)
 rintro _ _ ⟨W,G,m,U,J,rfl,rfl⟩;refine Zq<|A0<|Zm Y<|Zv (Bo Y)<|A4<|AX Y (fun hk=>?_) (fun hk=>?_)
 ·
  have af:(Bw q c r).2=false:=by simpa using hk
  refine Zq<|BV<|Zg<|Zv (BL (vs:=[]) (cs:=#[_,_,_]) Y (AY (pl:=#[(0,1),(1,1),(2,1)]) G3 C7 (fun _=>by kernel_rfl) V))<|Xe (Xw As _) ?_;refine A3 Y<|AJ<|Zt<|Bi V results110 Y Wh (Ak BW As Wn (V)) Y (by
   have e9:D9 q c r=(CE.none,false):=by unfold D9;rw [I,AM rfl,af];rfl
   exact ⟨.slice none 0 0,[],by rw [e9];rfl,by rw [e9];exact Bf 5 _,rfl⟩)
 have af:(Bw q c r).2=true:=by simpa using hk
 refine AC<|Zx<|A0<|Zo Wh (AA (cs:=#[_,_,_]) BW As Y Ax AN) ?_;refine Xe (Xw As _) ?_;refine A3 Y<|AJ<|Bi V results110 Y Wh (Ak BW As Wn (V)) Y (by
  have e9:D9 q c r=((Bw q c r).1,true):=by unfold D9;rw [I,AM rfl,af];rfl
  exact ⟨.slice G _ m,U,by rw [e9];rfl,by rw [e9];exact J,rfl⟩)
set_option maxHeartbeats 1000000 in
theorem JJ(q:QM)(hq:BJ q)(p:Int)(qa:Option Addr)(cap:Nat)(cs:List Chg){MC:List A9}(hC:Cr MC (.slice qa cs.length cap) cs)(l9:cs.length<=1000)(hr:De A rv r.rows)(hn:r.rows.length<=10000000)(hv:-2000000000000000000<=r.val/\r.val<=2000000000000000000):BZ prog 55 #[.agg q.A30,.agg #[rv,I4 r.val,.bool r.fnd],.agg #[I4 p,.slice qa cs.length cap]] [A,MC] (fun w H'=>∃cO s',w= .tuple #[.agg #[cO,I4 (Ba q r cs).1.val,.bool (Ba q r cs).1.fnd],.bool (Ba q r cs).2.1,.bool (Ba q r cs).2.2]/\Bb 5 83 cO (Ba q r cs).1.rows.length (Af (Ba q r cs).1.rows) s'/\H'=[s',A,MC]):=by
 have o9:=mL;obtain ⟨pv,cv,rfl,_⟩:=id hr;obtain ⟨pc,kv,ic,o8,d9⟩:=id hC;injection ic with hv1 hv2 hv3
 subst hv1 hv3;refine Se func55 ntmps55 [0,1,2] ?_;intro u R;refine A0<|Ze (Bx q.A30)<|AD fun bq=>Ze (Bx #[.slice pv r.rows.length cv,I4 r.val,.bool r.fnd])<|AD fun br=>Ze (Bx #[I4 p,.slice qa cs.length cap])<|AD fun bc=>Ze (Al G3 #[_,_,_])<|AD fun bo=>Za Y<|A3 Y<|A0<|A3 Y<|A0<|Zh 0 C7 V rfl C6 Y<|Zl FA Y ?_;refine Zc [_] Y call109 Y V (Gg hr A1) ?_;rintro _ _ ⟨_,⟨s1,h1,rfl⟩,rfl⟩;obtain ⟨g1,c1,rfl⟩:=h1.form;refine Zh 0 C7 V rfl C6 Y<|Xe (Zs C6 Y Y V (hi:=by(simp;done))) ?_;refine A4<|Zq<|A0<|Zh 1 GS V rfl Lw Y<|Zl ON Y ?_;refine Zv (Aa G4 Y)<|Zm Y<|Z0<|Zn [3,4,6,9,18,19,20] ?_;refine Zx<|AQ<|Zb [9,20,3,4,6,18,19] ?_;refine BB (e0:=[(9,_),(20,_)]) (fun m e H=>∃(k:Nat) (g:CE) (gk:Option Addr) (ck:Nat) (sk:List A9),m=cs.length -k/\(k<=cs.length/\Hm q r (cs.take k)=some g/\Bb 5 83 (.slice gk g.rows.length ck) g.rows.length (Af g.rows) sk)/\e=[(9,.bool ((cs.take k).any (Di q))),(20,I4 (k:Int))]/\H=[[(br,.cells #[.slice gk g.rows.length ck,I4 g.val,.bool g.fnd] 53 (0,0))],sk]) (by exact ⟨0,r,g1,c1,s1,rfl,⟨C0 _,by rw [Hx];rfl,h1⟩,rfl,rfl⟩) Wp ?_;rintro _ _ _ ⟨k,g,gk,ck,sk,rfl,⟨hk,J,cu⟩,rfl,rfl⟩;obtain ⟨gy,gq⟩:=Wq (cs.take k) r g 2000000000000000000 10000000 J hv A1 hn;have gm:(cs.take k).length=k:=by rw [C1];omega
 rw [gm]at gy gq;have af:=DU cu A1
 refine A0<|Zv (Av Y Y)<|A4<|Zq<|Au Y (fun bn=>?_) (fun bn=>?_)
 ·
  obtain ⟨y,U⟩:∃y,cs[k]?=some y:=⟨_,B4 bn⟩;obtain ⟨g2,l8,X,T2,j5,rfl,gB,l5,ax⟩:=d9 k y U;refine AC<|Zx<|Zq<|AQ<|A0<|BX (Ac G4 C3 Y Y A1)<|CQ (cs:=[(g2,.cells X T2 j5)]) (by simp [gB]) (AA (cs:=y.A28) Ft C3 Y A1 ax) V rfl ?_;refine Ze (Al LN #[_,_,_,_,_,_,_,_,_,_])<|AD fun bx=>Xe (Xw C3 y.A28) ?_;refine A4<|A0<|Zm Y<|Zm Y<|Ag (t:=25) Y V (fun O=>?_) (fun O=>?_)
  ·
   have e9:(cs.take (k+1)).any (Di q)=true:=by rw [WF _ U,O];rfl
   refine A7 Y V<|A7 Y V<|A7 Y V<|Zv (AV Y Y)<|A3 Y<|A0<|AG Y<|Zn [3,4,6,9,11,18,19,20] ?_;refine Zx<|A0<|Zo Wh (AA (cs:=#[_,_,_,_,_,_,_]) E4 CC Y Ax AN) ?_;refine Zo Wh (AA (cs:=#[_,_,_]) BW As Y Ax AN) ?_;refine Zo Wh (AA (cs:=#[_,_,_,_,_,_,_,_,_,_]) Ft C3 Y Ax AN) ?_;refine Zc [_,_,_] Y call110 Y V (Sl q hq y af A1 A1) ?_;rintro _ _ ⟨_,⟨j3,s3,rfl,h3,rfl⟩,rfl⟩;obtain ⟨Z,W,rfl⟩:=h3.form;refine Zm Y<|Zd Y rfl<|Zd Y rfl<|Xe (BK As Y Y HJ Wu (by exact (rfl:_=(#[.slice Z (D9 q y g).1.rows.length W,I4 (D9 q y g).1.val,.bool (D9 q y g).1.fnd]:Array Value))) E3 Ax (by exact BA _)) ?_;refine A3 Y<|A0<|Zm Y<|Zv (Bo Y)<|A4<|AX Y (fun I=>?_) (fun I=>?_)
   ·
    have G:(D9 q y g).2=false:=by simpa using I
    have K:Ba q r cs=(CE.none,true,false):=by unfold Ba;rw [Pp (k:=k+1) (by rw [Jy J U,G];rfl)]
    refine Zq<|BV<|Zg<|Zv (BL (vs:=[]) (cs:=#[_,_,_]) Y (AY (pl:=#[(0,1),(1,1),(2,1)]) G3 C7 (fun _=>by kernel_rfl) V))<|Xe (Xw As _) ?_;refine Za Y<|AG Y<|Zn [6,7,8] ?_;refine Zx<|AJ<|Ae<|Zt<|Zt<|Ae<|Zt<|Hu rfl results55 Y Wh (Ak BW As Wn (rfl)) Y Y (by exact ⟨.slice none 0 0,[],by rw [K];rfl,by rw [K];exact Bf 5 _,rfl⟩)
   have G:(D9 q y g).2=true:=by simpa using I
   refine AC<|A8<|Zx<|Zg<|Ya (n:=1) Y Y<|Zm Y<|Z0<|Zn [9,20,3,4,6,18,19] ?_;refine Ab (e':=[(9,_),(20,_)]) (by exact ⟨k+1,(D9 q y g).1,Z,W,s3,rfl,⟨by omega,by rw [Jy J U,AM G],h3⟩,by rw [e9],rfl⟩)
  have e9:(cs.take (k+1)).any (Di q)=Di q y:=by rw [WF _ U,O];rfl
  refine Dv Y Wh (AA (cs:=#[_,_,_,_,_,_,_]) E4 CC Y Ax AN) V rfl ?_;refine Dv Y Wh (AA (cs:=#[_,_,_,_,_,_,_,_,_,_]) Ft C3 Y Ax AN) V rfl ?_;refine Xr [_,_] Y call22 Y V (KW q y) ?_;rw [show(decide (BJ q)&&(decide y.ok&&Co q y))=Di q y by rw [CM hq];rfl];refine Zv (AL Y Y)<|A3 Y<|A0<|AG Y<|Zn [3,4,6,9,11,18,19,20] ?_;refine Zx<|A0<|Zo Wh (AA (cs:=#[_,_,_,_,_,_,_]) E4 CC Y Ax AN) ?_;refine Zo Wh (AA (cs:=#[_,_,_]) BW As Y Ax AN) ?_;refine Zo Wh (AA (cs:=#[_,_,_,_,_,_,_,_,_,_]) Ft C3 Y Ax AN) ?_;refine Zc [_,_,_] Y call110 Y V (Sl q hq y af A1 A1) ?_;rintro _ _ ⟨_,⟨j3,s3,rfl,h3,rfl⟩,rfl⟩;obtain ⟨Z,W,rfl⟩:=h3.form;refine Zm Y<|Zd Y rfl<|Zd Y rfl<|Xe (BK As Y Y HJ Wu (by exact (rfl:_=(#[.slice Z (D9 q y g).1.rows.length W,I4 (D9 q y g).1.val,.bool (D9 q y g).1.fnd]:Array Value))) E3 Ax (by exact BA _)) ?_;refine A3 Y<|A0<|Zm Y<|Zv (Bo Y)<|A4<|AX Y (fun I=>?_) (fun I=>?_)
  ·
   have G:(D9 q y g).2=false:=by simpa using I
   have K:Ba q r cs=(CE.none,true,false):=by unfold Ba;rw [Pp (k:=k+1) (by rw [Jy J U,G];rfl)]
   refine Zq<|BV<|Zg<|Zv (BL (vs:=[]) (cs:=#[_,_,_]) Y (AY (pl:=#[(0,1),(1,1),(2,1)]) G3 C7 (fun _=>by kernel_rfl) V))<|Xe (Xw As _) ?_;refine Za Y<|AG Y<|Zn [6,7,8] ?_;refine Zx<|AJ<|Ae<|Zt<|Zt<|Ae<|Zt<|Hu rfl results55 Y Wh (Ak BW As Wn (rfl)) Y Y (by exact ⟨.slice none 0 0,[],by rw [K];rfl,by rw [K];exact Bf 5 _,rfl⟩)
  have G:(D9 q y g).2=true:=by simpa using I
  refine AC<|A8<|Zx<|Zg<|Ya (n:=1) Y Y<|Zm Y<|Z0<|Zn [9,20,3,4,6,18,19] ?_;refine Ab (e':=[(9,_),(20,_)]) (by exact ⟨k+1,(D9 q y g).1,Z,W,s3,rfl,⟨by omega,by rw [Jy J U,AM G],h3⟩,by rw [e9],rfl⟩)
 have ek:k=cs.length:=by omega
 subst ek;rw [G0]at J⊢;have K:Ba q r cs=(g,cs.any (Di q),true):=by unfold Ba;rw [J]
 refine Ay<|Zt<|Zt<|AR<|Zx<|A0<|Zo Wh (AA (cs:=#[_,_,_]) BW As Y Ax AN) ?_;refine Zm Y<|Xe (Xw As _) ?_;refine Za Y<|A3 Y<|AJ<|Hu rfl results55 Y Wh (Ak BW As Wn (rfl)) Y Y (by exact ⟨.slice gk _ ck,sk,by rw [K];rfl,by rw [K];exact cu,rfl⟩)
end Go.Proofs.YteaiajghbkenoaaGreatDoor
