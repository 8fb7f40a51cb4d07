/- Pairs of rows in memory; slices.Clone, IndexFunc, DeleteFunc, Insert at pairs. -/
/- predicate.without, inserted at pairs. -/
/- The pairs of a join: plain words, the closures. -/
/- effect.join. -/
/- effect.join. -/
/- predicate.patchJoin. -/
/- The patches of least and greatest values; the patch of a kind. -/
/- predicate.Patch, Apply. -/
import Derived.Test.YteaiajghbkenoaaGreatDoorEz
import Derived.Test.YteaiajghbkenoaaGreatDoorPr3
import Derived.Test.YteaiajghbkenoaaGreatDoorEx5
set_option linter.unusedVariables false
set_option linter.unusedSimpArgs false
namespace Go.Proofs.YteaiajghbkenoaaGreatDoor
open Go.Proofs.Tryz
open Go Go.RowKit Gw
set_option maxRecDepth 100000
attribute [local irreducible] Gw.At Gw.Nx Gw.Ops
structure Bb where
 l:AU
 r:AU
deriving DecidableEq
def Am(ps:List Bb):List Value:=ps.flatMap fun p=>[I4 p.l.t,I4 p.l.k,I4 p.l.v.a,I4 p.l.v.b,I4 p.l.v.c,I4 p.r.t,I4 p.r.k,I4 p.r.v.a,I4 p.r.v.b,I4 p.r.v.c]
theorem D9(a b:List Bb):Am (a++b)=Am a++Am b:=by unfold Am;rw [OK]
theorem BD:∀(rs:List Bb),(Am rs).length=rs.length*10
 |[]=>rfl
 |r::rs=>by
  have:=BD rs;unfold Am at*;rw [HH,B7,this,DE];simp;omega
theorem Fa(rs:List Bb)(k:Nat):(Am rs).take (k*10)=Am (rs.take k):=by
 rcases EV rs.length k with h|h
 · rw [Hi (by rw [BD];omega),Hi A1]
 · have e:Am rs=Am (rs.take k)++Am (rs.drop k):=by rw [<-D9,Hx]
   rw [e,HJ (by rw [BD,C2];omega)]
theorem LU(rs:List Bb)(k:Nat):(Am rs).drop (k*10)=Am (rs.drop k):=by
 rcases EV rs.length k with h|h
 · rw [SO (by rw [BD];omega),SO A1];rfl
 · have e:Am rs=Am (rs.take k)++Am (rs.drop k):=by rw [<-D9,Hx]
   rw [e,W0 (by rw [BD,C2];omega)]
theorem Eg(rs:List Bb):∀u∈Am rs,u.oneCell'=true:=by
 intro u g;unfold Am at g;obtain ⟨r,_,h⟩:=RT.1 g;simp only [D0,RM,SD]at h;rcases h with rfl|rfl|rfl|rfl|rfl|rfl|rfl|rfl|rfl|rfl<;>rfl
def U8(M:List A9)(v:Value)(rs:List Bb):Prop:=∃p cap,v= .slice p rs.length cap/\(rs.length<=maxLen/\rs.length<=cap)/\∀(i:Nat) (x:Bb),rs[i]?=some x->∃g off cur T zz,p=some ⟨g,off,none⟩/\(g,Obj.cells cur T zz)∈M/\off+i*10+10<=cur.size/\cur.extract (off+i*10) (off+i*10+10)=#[I4 x.l.t,I4 x.l.k,I4 x.l.v.a,I4 x.l.v.b,I4 x.l.v.c,I4 x.r.t,I4 x.r.k,I4 x.r.v.a,I4 x.r.v.b,I4 x.r.v.c]
variable{v:Value}{rs:List Bb}{s:List A9}
theorem NP{e:TypeId}(h:Bc 10 e v rs.length (Am rs) s)(J:rs.length<=maxLen):U8 s v rs:=by
 obtain ⟨b,cap,rfl⟩:=h.form;refine ⟨b,cap,V,⟨J,Es h⟩,fun i x I=>?_⟩;obtain ⟨g,G,cur,z,hv,rfl,K,m⟩:=Ju h i (BE.1 I).1;injection hv with hv1 hv2 hv3
 refine ⟨g,0,cur,e,z,hv1,by simp,by omega,?_⟩;unfold Am at m;rw [Iq _ 10 (fun _=>rfl) rs i x I]at m;rw [D2];exact HI.1 m
variable{k:Nat}
theorem Rj{r:Bb}(h:rs[k]?=some r):Am rs=Am (rs.take k)++(Am [r]++Am (rs.drop (k+1))):=by
 rw [<-D9,<-D9];congr 1;obtain ⟨g,rfl⟩:=BE.1 h;rw [Ly,<-R0 g,Hx]
theorem Io{r:Bb}(h:rs[k]?=some r)(j:Nat)(g:j<10):(Am rs)[k*10+j]?=(Am [r])[j]?:=by
 have m:=(BE.1 h).1;have e:(Am (rs.take k)).length=k*10:=by rw [BD,C2];omega
 rw [Rj h,SJ A1,a8 (by rw [e,BD];simp;omega),e,Nat.add_sub_cancel_left]
variable{n:Nat}
theorem We{M:List A9}{p:Option Addr}{cap:Nat}(h:U8 M (.slice p n cap) rs):FK M p (Am rs):=by
 obtain ⟨p',J,e,Z,W⟩:=h;injection e with e1 e2 e3
 subst e1;intro j u K;have G:=(BE.1 K).1
 rw [BD]at G;obtain ⟨x,O⟩:∃x,rs[j/10]?=some x:=⟨_,B4 A1⟩;obtain ⟨g,off,cur,T,zz,rfl,X,I,m⟩:=W (j/10) x O;refine ⟨g,off,cur,T,zz,V,X,?_⟩;have U:=PE m I (j%10) A1
 have h2:=Io O (j%10) A1;rw [show j/10*10+j%10=j by omega,K]at h2;rw [show off+j=off+j/10*10+j%10 by omega,U,h2,<-HE];rfl
theorem Wv{M:List A9}(hv:U8 M v rs)(hb:rs.length<=1000000000000):Ba prog 297 #[v] [M] (fun r H'=>∃O,Bc 10 310 r rs.length (Am rs) O/\H'=[O,M]):=by
 have Z:=mL;obtain ⟨p,cap,rfl,⟨hl,X⟩,W⟩:=id hv;have G:FK M p (Am rs):=We hv
 refine Se func297 ntmps297 [0] ?_;intro u R;refine A0<|A3 Y<|Zq<|A0<|Zm Y<|Zv (Dk Ft Y Y)<|A4<|AV Y (fun K=>?_) (fun K=>?_)
 ·
  have I:p=none:=by cases p with
   |none=>rfl
   |some x=>cases K
  have h0:rs=[]:=by
   cases rs with
   |nil=>rfl
   |cons x l=>obtain ⟨g,off,cur,T,zz,J,_⟩:=W 0 x rfl;rw [I]at J;cases J
  refine Zq<|BV<|Zg<|A3 Y<|AJ<|Zt<|AO rfl results297 Y (by exact ⟨[],by rw [h0];exact Bf 10 _,rfl⟩)
 refine AC<|Zx<|A0<|Ze (EM Ft GC)<|AD fun U=>Zm Y<|Ze (H8 (by_:=80) (sz:=10) Ft (V:Tryz.prog.info? 310=some Tryz.t310) V rfl V rfl Y (II 10 310 U 0 [] V AN) Y (G) (by exact BD _) AN Wo Wo (by exact Eg _) A1 A1) ?_;rintro _ _ ⟨af,m,rfl⟩;replace m:=BR m (D2 _) (KK _);refine A3 Y<|AJ<|AO V results297 Y (by exact ⟨_,m,V⟩)
def Gq(pd:Bb->Bool)(rows:List Bb):Int:=(rows.findIdx? pd).elim (-1) fun i=>(i:Int)
variable{rows:List Bb}{i:Nat}{x:Bb}
theorem lY{g:Bb->Bool}(h:∀(j:Nat) (y:Bb),j<i->rows[j]?=some y->g y=false)(I:rows[i]?=some x)(G:g x=true):Gq g rows=(i:Int):=by
 obtain ⟨hi,rfl⟩:=BE.1 I;unfold Gq;rw [Wf.2 ⟨hi,G,fun j m=>by simp [h j _ m (B4 A1)]⟩];rfl
theorem lZ{m:Bb->Bool}(h:∀(j:Nat) (y:Bb),j<rows.length->rows[j]?=some y->m y=false):Gq m rows=-1:=by
 unfold Gq;rw [cI.2 fun y G=>by
  obtain ⟨j,g⟩:=GW G;exact h j y (BE.1 g).1 g]
 rfl
theorem TR(g:Bb->Bool)(rows:List Bb):(Gq g rows=-1/\∀y∈rows,g y=false)\/∃(i:Nat) (x:Bb),Gq g rows=(i:Int)/\rows[i]?=some x/\g x=true/\∀(j:Nat) (y:Bb),j<i->rows[j]?=some y->g y=false:=by
 unfold Gq;cases h:rows.findIdx? g with
 |none=>exact .inl ⟨rfl,cI.1 h⟩
 |some i=>
  obtain ⟨m,h2,G⟩:=Wf.1 h;refine .inr ⟨i,_,V,B4 m,h2,fun j y I J=>?_⟩;obtain ⟨K,rfl⟩:=BE.1 J;simpa using G j I
theorem kI(g:k<rs.length)(x:Bb):(Am rs).take (k*10)++Am [x]++(Am rs).drop (k*10+(Am [x]).length)=Am (rs.set k x):=by
 rw [show k*10+(Am [x]).length=(k+1)*10 by rw [BD];simp;omega,Fa,LU,<-D9,<-D9,ir,AK g];simp
variable{cur:Array Value}
theorem Vp(g:Bz cur 0 (Am rs))(G:rs[k]?=some x):k*10+10<=cur.size/\cur.extract (0+k*10) (0+k*10+10)=(Am [x]).toArray:=by
 have W:=(BE.1 G).1;have U:k*10+10<=cur.size:=by
  have K:=Io G 9 AN;have O:=g.get (k*10+9) _ (K.trans AM)
  have:=(HG.1 O).1;omega
 refine ⟨U,?_⟩;apply HI.1;apply Lz;intro j;rw [HE,ab];split
 · rename_i hj
   have m:j<10:=by omega
   have I:=Io G j m;obtain ⟨u,J⟩:∃u,(Am [x])[j]?=some u:=⟨_,B4 (by rw [BD];simpa using m)⟩;rw [J]at I;have h2:=g.get _ _ I
   rw [D2]at h2;rw [D2,h2];exact J.symm
 · rw [Mp]
   show(Am [x]).length<=j;rw [BD];simp only [E0];omega
theorem Kh{j:Nat}(f:Bb->Bool)(g:rows[j]?=some x):(rows.take (j+1)).filter f=(rows.take j).filter f++(if f x then [x]else []):=by
 rw [Bh g,HU];congr 1;rw [ar,kf]
theorem M0{f:Bb->Bool}(h:∀(j:Nat) (y:Bb),rows[j]?=some y->f y=true):rows.filter f=rows:=jt.2 fun y m=>by
 obtain ⟨j,g⟩:=GW m;exact h j y g
variable{B A:List A9}
theorem Lv(hv:U8 A v rows)(G:Nat)(us:List Value)(Z:Bb->Bool)(U:∀(args:Array Value) (w:World),(callFunc G args).run prog w= .ok (.enter G args) w)(hf:∀x:Bb,BJ prog G (.agg #[I4 x.l.t,I4 x.l.k,I4 x.l.v.a,I4 x.l.v.b,I4 x.l.v.c,I4 x.r.t,I4 x.r.k,I4 x.r.v.a,I4 x.r.v.b,I4 x.r.v.c]::us).toArray [B] (.bool (Z x))):BJ prog 261 #[v,.func (.func G) #[] us.toArray] [A,B] (I4 (Gq Z rows)):=by
 have bn:=mL;obtain ⟨p,cap,rfl,⟨hl,ax⟩,hg⟩:=id hv;refine Se func261 ntmps261 [0,1] ?_;intro u R;refine A0<|A3 Y<|Zq<|A0<|Zm Y<|Zv (Ab Ft Y)<|Zm Y<|A4<|AP<|Zb [8,0,1,7] ?_;refine BB (e0:=[(8,_)]) (fun m e H=>∃(i:Nat),m=rows.length -i/\(i<=rows.length/\∀(j:Nat) (y:Bb),j<i->rows[j]?=some y->Z y=false)/\e=[(8,I4 (i:Int))]/\H=[]) (by exact ⟨0,V,⟨C0 _,fun j y h=>by omega⟩,V,V⟩) Wp ?_;rintro _ _ _ ⟨i,rfl,⟨hi,I⟩,rfl,rfl⟩;refine A0<|Zv (Au Y Y)<|A4<|Zq<|Av Y (fun O=>?_) (fun O=>?_)
 ·
  obtain ⟨x,X⟩:∃x,rows[i]?=some x:=⟨_,B4 O⟩;obtain ⟨g,off,cur,T,zz,rfl,W,af,K⟩:=hg i x X;refine AC<|Zx<|Zq<|AP<|A0<|Zm Y<|A3 Y<|A0<|Zm Y<|Zm Y<|Zm Y<|BX (Ad Ft GC Y Y A1)<|CO (cs:=[(g,.cells cur T zz)]) (by simp [W]) (AA (cs:=#[I4 x.l.t,I4 x.l.k,I4 x.l.v.a,I4 x.l.v.b,I4 x.l.v.c,I4 x.r.t,I4 x.r.k,I4 x.r.v.a,I4 x.r.v.b,I4 x.r.v.c]) isAgg310 GC Y A1 K) V rfl ?_;refine Xr [_] Y (U) Y V (hf x) ?_;refine A4<|AV Y (fun J=>?_) (fun J=>?_)
  ·
   refine A0<|Zm Y<|A3 Y<|AJ<|Ac<|Zt<|Zt<|Ac<|Zt<|AO V results261 Y (by exact ⟨congrArg (Value.int .i64) (lY I X J).symm,V⟩)
  refine AC<|A8<|Zx<|Zg<|Ya (n:=1) Y Y<|Zm Y<|Z0<|Zn [8,0,1,7] ?_;refine Aa (e':=[(8,_)]) (by exact ⟨i+1,rfl,⟨by omega,fun j y h1 h2=>by rcases EV j i with h9|h9;exact I j y h9 h2;obtain rfl:j=i:=A1;rw [X]at h2;injection h2 with h2;subst h2;exact J⟩,rfl,rfl⟩)
 have ei:i=rows.length:=by omega
 subst ei;refine Ay<|Zt<|Zt<|AR<|Zx<|A0<|A3 Y<|AJ<|AO V results261 Y (by exact ⟨congrArg (Value.int .i64) (lZ I).symm,V⟩)
set_option maxHeartbeats 1000000 in
theorem XP(G:Bc 10 310 v rows.length (Am rows) s)(hn:rows.length<=1000000000)(J:Nat)(us:List Value)(U:Bb->Bool)(bn:∀(args:Array Value) (w:World),(callFunc J args).run prog w= .ok (.enter J args) w)(hf:∀x:Bb,BJ prog J (.agg #[I4 x.l.t,I4 x.l.k,I4 x.l.v.a,I4 x.l.v.b,I4 x.l.v.c,I4 x.r.t,I4 x.r.k,I4 x.r.v.a,I4 x.r.v.b,I4 x.r.v.c]::us).toArray [B] (.bool (U x))):Ba prog 296 #[v,.func (.func J) #[] us.toArray] [s,B] (fun r H'=>∃s',Bc 10 310 r (rows.filter fun x=>!U x).length (Am (rows.filter fun x=>!U x)) s'/\H'=[s',B]):=by
 have p8:=mL;obtain ⟨p,cap,rfl⟩:=G.form;have hU:=NP G A1
 refine Se func296 ntmps296 [0,1] ?_;intro u R;refine A0<|A3 Y<|A0<|Zm Y<|Zm Y<|Xr [_,_] Y call261 Y V (Lv hU J us U bn hf) ?_;rcases TR U rows with⟨e9,X⟩|⟨k,x0,e9,hx0,hp0,hno⟩
 ·
  rw [e9];refine A3 Y<|Zq<|A0<|Zm Y<|Zv (CP Y Y)<|A4<|Av Y (fun h1=>?_) (fun h1=>?_)
  ·
   refine A0<|Zm Y<|A3 Y<|AJ<|Zt<|AO rfl results296 Y (by exact ⟨_,BR G (congrArg List.length (M0 fun j y hy=>by rw [X y (DG hy)];rfl).symm) (congrArg Am (M0 fun j y hy=>by rw [X y (DG hy)];rfl).symm),rfl⟩)
  exact absurd V h1
 rw [e9];have o9:=(BE.1 hx0).1
 obtain ⟨g,j3,cur,z,ic,rfl,l5,kv⟩:=Dv G A1;injection ic with hv1 hv2 hv3
 subst hv1 hv3;refine A3 Y<|Zq<|A0<|Zm Y<|Zv (CP Y Y)<|A4<|Av Y (fun h2=>by omega)<|fun h2=>AC<|Zx<|Zq<|A0<|Zm Y<|Ya (n:=1) Y Y<|A3 Y<|AP<|Zb [5,6,0,1] ?_;refine BB (e0:=[(5,_),(6,_)]) (fun m e H=>∃(i j:Nat) (W:List Bb) (cur:Array Value),m=rows.length -j/\((i<j/\j<=rows.length)/\W.length=rows.length/\Bc 10 310 (I6 g rows.length cap) rows.length (Am W) [(g,.cells cur 310 z)]/\W.take i=(rows.take j).filter (fun x=>!U x)/\∀t,j<=t->W[t]?=rows[t]?)/\e=[(5,I4 (i:Int)),(6,I4 (j:Int))]/\H=[[(g,.cells cur 310 z)]]) (by exact ⟨k,k+1,rows,cur,rfl,⟨⟨by omega,by omega⟩,rfl,G,by rw [Kh _ hx0,hp0];simp only [S0,My,HN,Cp];exact (M0 (fun j y hy=>by rw [H3]at hy;split at hy;rw [hno j y dj hy];rfl;cases hy)).symm,fun t _=>rfl⟩,rfl,rfl⟩) Wp ?_;rintro _ _ _ ⟨i,j,W,cur,rfl,⟨o8,ax,O,K,af⟩,rfl,rfl⟩;obtain ⟨d9,cu,l8,j5,Z⟩:=JV O;refine Zq<|A0<|Zm Y<|Zm Y<|Zv (Ab Ft Y)<|Zv (Au Y Y)<|A4<|Av Y (fun ek=>?_) (fun ek=>?_)
 ·
  obtain ⟨x,hx⟩:∃x,rows[j]?=some x:=⟨_,B4 ek⟩;obtain ⟨l9,cO⟩:=Vp d9 ((af j (CT _)).trans hx);refine AC<|Zx<|Zq<|AP<|A0<|Zm Y<|Zm Y<|BX (Ad Ft GC Y Y A1)<|Zo Wh (AA (cs:=#[I4 x.l.t,I4 x.l.k,I4 x.l.v.a,I4 x.l.v.b,I4 x.l.v.c,I4 x.r.t,I4 x.r.k,I4 x.r.v.a,I4 x.r.v.b,I4 x.r.v.c]) isAgg310 GC Y A1 cO) ?_;refine Ze (Al ef #[_,_,_,_,_,_,_,_,_,_])<|AD fun bx=>Xe (Xw GC #[I4 x.l.t,I4 x.l.k,I4 x.l.v.a,I4 x.l.v.b,I4 x.l.v.c,I4 x.r.t,I4 x.r.k,I4 x.r.v.a,I4 x.r.v.b,I4 x.r.v.c]) ?_;refine A4<|A0<|Zm Y<|Zo Wh (AA (cs:=#[_,_,_,_,_,_,_,_,_,_]) isAgg310 GC Y As AM) ?_;refine Xr [_] Y (bn) Y V (hf x) ?_;refine Zv (Br Y)<|Z0<|Zn [0,1,5,6,7,29] ?_;refine Zx<|AV Y (fun I=>?_) (fun I=>?_)
  ·
   have I:U x=false:=by simpa using I
   have gm:=BR (xs':=Am (W.set i x)) (EP (i:=0+i*10) (ys:=Am [x]) O (by rw [BD,BD,E0];omega)) rfl (by rw [D2];exact kI A1 x);refine A0<|Zm Y<|Zm Y<|Zo Wh (AA (cs:=#[_,_,_,_,_,_,_,_,_,_]) isAgg310 GC Y As AM) ?_;refine BX (Ad Ft GC Y Y A1)<|Xe (BM GC Y Y HR Wu (by exact (rfl:_=EI cur (0+i*10) (Am [x]))) E7 A1 (by exact Z)) ?_;refine A4<|Zg<|Zm Y<|Ya (n:=1) Y Y<|AG Y<|A8<|Zx<|Zg<|Zm Y<|Ya (n:=1) Y Y<|AG Y<|Zn [5,6,0,1] ?_;refine Aa (e':=[(5,_),(6,_)]) (by exact ⟨i+1,j+1,W.set i x,_,rfl,⟨by omega,by rw [cM];exact ax,gm,by rw [Y9 A1,K,Kh _ hx];simp [I],fun t ht=>by rw [List.getElem?_set_ne A1];exact af t A1⟩,rfl,rfl⟩)
  have I:U x=true:=by simpa using I
  refine AC<|A8<|Zx<|Zg<|Zm Y<|Ya (n:=1) Y Y<|AG Y<|Zn [5,6,0,1] ?_;refine Aa (e':=[(5,_),(6,_)]) (by exact ⟨i,j+1,W,cur,rfl,⟨by omega,ax,O,by rw [K,Kh _ hx];simp [I],fun t ht=>af t A1⟩,rfl,rfl⟩)
 have ej:j=rows.length:=by omega
 subst ej;rw [FF]at K;have gy:(rows.filter fun x=>!U x).length=i:=by rw [<-K,C2];omega
 refine Ay<|Zt<|Zt<|AR<|Zx<|A0<|Zm Y<|Zm Y<|BX (C8 Ft GC Y Y A1)<|Ze (O7 Ft (V:Tryz.prog.info? 310=some Tryz.t310) V rfl (by simp [Value.cells,Value.oneCell']) Y A1 cu Z Wo) ?_;rintro _ _ rfl;have gq:=V7 (EP (i:=i*10) (ys:=(Builtin.zeroCells (Value.agg #[I4 0,I4 0,I4 0,I4 0,I4 0,I4 0,I4 0,I4 0,I4 0,I4 0]).cells (rows.length -i)).toList) O (by rw [SR,size_zeroCells,BD];show i*10+(rows.length -i)*10<=_;omega)) i A1
 refine A4<|A0<|Zm Y<|Zm Y<|BX (Bq Ft GC Y Y A1)<|A3 Y<|AJ<|AO V results296 Y (by
  refine ⟨_,BR gq gy.symm ?_,V⟩;rw [CA,HJ (by rw [C2,BD];omega),Fa,K])
theorem lV{A Y D:List Value}(g:A.length=(n+1)*10)(hi:i<=n)(G:Y.length=10)(m:D.length=(n -i)*10):(A.take (0+i*10)++Y++A.drop (0+i*10+Y.length)).take (0+(i+1)*10)++D++(A.take (0+i*10)++Y++A.drop (0+i*10+Y.length)).drop (0+(i+1)*10+D.length)=A.take (i*10)++Y++D:=by
 rw [D2,D2,HJ (by rw [B7,C2];omega),SO (by simp only [B7,C2,C3];omega),Cp]
theorem fG{A Y D:List Value}(g:A.length=(n+1)*10)(hi:i<=n)(G:Y.length=10)(m:D.length=(n -i)*10):(A.take (0+(i+1)*10)++D++A.drop (0+(i+1)*10+D.length)).take (0+i*10)++Y++(A.take (0+(i+1)*10)++D++A.drop (0+(i+1)*10+D.length)).drop (0+i*10+Y.length)=A.take (i*10)++Y++D:=by
 rw [D2,D2,SO (l:=A) A1,Cp,a6 (by rw [C2];omega),TX,PB A1,W0 (by rw [C2];omega)]
theorem V5(rows:List Bb)(i:Nat)(y:Bb):(Am rows).take (i*10)++Am [y]++Am (rows.drop i)=Am (rows.take i++[y]++rows.drop i):=by
 rw [Fa,D9,D9]
theorem Qo{c:Array Value}(h:Bz c 0 (Am rows))(i:Nat)(hi:i<=rows.length):Bz c (0+i*10) (Am (rows.drop i)):=by
 have g:=Iw h (i*10) ((rows.length -i)*10) (by rw [BD];omega);rw [LU,Hi (by rw [BD,C3];omega)]at g;exact g
theorem aV{c:Array Value}(h:Bz c 0 (Am rows))(i:Nat)(hi:i<=rows.length):Bz c 0 (Am (rows.take i)):=by
 have g:=Iw h 0 (i*10) (by rw [BD];omega);rw [PC,Fa]at g;exact g
theorem TP(rows:List Bb)(i:Nat)(hi:i<=rows.length)(y:Bb):(rows.take i++[y]++rows.drop i).length=rows.length+1:=by
 simp only [B7,C2,C3,E0];omega
set_option maxHeartbeats 1000000 in
theorem XF(m:Bc 10 310 v rows.length (Am rows) s)(hn:rows.length<=1000000000)(i:Nat)(hi:i<=rows.length)(y:Bb)(U:Nat):Ba prog 298 #[v,I4 (i:Int),I6 U 1 1] [s,[(U,.cells #[I4 y.l.t,I4 y.l.k,I4 y.l.v.a,I4 y.l.v.b,I4 y.l.v.c,I4 y.r.t,I4 y.r.k,I4 y.r.v.a,I4 y.r.v.b,I4 y.r.v.c] 310 (0,0))]] (fun r H'=>∃s' s2,Bc 10 310 r (rows.take i++[y]++rows.drop i).length (Am (rows.take i++[y]++rows.drop i)) s'/\H'=[s',s2,[(U,.cells #[I4 y.l.t,I4 y.l.k,I4 y.l.v.a,I4 y.l.v.b,I4 y.l.v.c,I4 y.r.t,I4 y.r.k,I4 y.r.v.a,I4 y.r.v.b,I4 y.r.v.c] 310 (0,0))]]):=by
 have o8:=mL;obtain ⟨p,cap,rfl⟩:=m.form;have l9:=Es m
 refine Se func298 ntmps298 [0,1,2] ?_;intro u R;refine A0<|A3 Y<|Zq<|BV<|Zg<|Zm Y<|Zm Y<|BX (C8 Ft GC Y Y A1)<|A4<|A0<|Zm Y<|Zv (Ab Ft Y)<|A3 Y<|Zq<|A0<|Zm Y<|Zv (Cb (n:=0) Y Y)<|A4<|Av Y (fun h0=>by cases h0)<|fun h0=>AC<|Zx<|A0<|Zm Y<|Zv (Ab Ft Y)<|A3 Y<|Zq<|A0<|Zm Y<|Zm Y<|Zv (Cb Y Y)<|Z0<|Zn [0,1,2,7,8,22] ?_;refine Zx<|Av Y (fun W=>?_) (fun W=>?_)
 ·
  refine A0<|Zm Y<|Zm Y<|Ze (BQ (by_:=80) (sz:=10) Ft (V:Tryz.prog.info? 310=some Tryz.t310) V rfl V rfl Y (m) Y (DJ 10 U 1 1 310 (0,0) (Am [y]) V) Wo Wo (by exact Eg _) A1 A1) ?_;rintro _ _ ⟨o9,O,rfl⟩;obtain ⟨kv,j5,rfl⟩:=O.form;refine A3 Y<|AJ<|Zt<|AO V results298 Y (by
   have W:i=rows.length:=by omega
   subst W;exact ⟨_,[],BR O (TP rows _ (CT _) y).symm (by rw [FF,fz,Cp,D9]),rfl⟩)
 obtain ⟨g,d9,cur,z,cu,rfl,j3,I⟩:=Dv m A1;injection cu with hv1 hv2 hv3
 subst hv1 hv3;obtain ⟨_,l8,_,l5,Z⟩:=JV m;refine AC<|Zx<|Zq<|A0<|Zm Y<|Zm Y<|Ya Y Y<|Zm Y<|Zv (Qc Ft Y)<|Zv (DF Y Y)<|A4<|Av Y (fun hg=>?_) (fun hg=>?_)
 ·
  refine A0<|Zm Y<|Zm Y<|BX (Bq Ft GC Y Y A1)<|Zm Y<|Zm Y<|Ya Y Y<|Zm Y<|Yb Y Y ?_;refine Ze (Ku (by_:=80) (sz:=10) (xs:=Am (rows.take i)) Ft Cl (rfl:Tryz.prog.info? 310=some Tryz.t310) rfl rfl rfl rfl Y Y Wh (aV I i hi) (by rw [BD,C2];omega) A1 AN A1 A1 A1) ?_;rintro _ _ ⟨s9,J,rfl⟩;rw [show i+(rows.length+1 -i)=rows.length+1 by omega]at J;have G:=J.1
  obtain ⟨g3,cO,ek,z3,rfl,rfl,ic,gy⟩:=Dv J A1;obtain ⟨_,gq,_,gm,K⟩:=JV J;refine AG Y<|Zn [0,1,2,7,9] ?_;refine Zx<|A0<|Zm Y<|Zm Y ?_
  (refine BX (Bo Ft GC Y Y ?_ ?_) ?_;(focus (omega));(focus (omega)))
  refine Zm Y<|Xe (JO (cs:=Am [y]) Ft GC Y Y Wh Wo ((rfl:Bz (#[I4 y.l.t,I4 y.l.k,I4 y.l.v.a,I4 y.l.v.b,I4 y.l.v.c,I4 y.r.t,I4 y.r.k,I4 y.r.v.a,I4 y.r.v.b,I4 y.r.v.c]:Array Value) 0 (Am [y]))) (by rw [BD,E0];omega) (by rw [BD,E0];omega) (K) (Eg _)) ?_;refine A4<|Zq<|Az (n:=9) (0::0::0::6::15::0::0::96::255::[]) 256 A6 A6 V<|A2 0 V (AQ Y)<|A2 1 V (AQ Y)<|A2 2 V (AQ Y)<|A2 3 V (Dz Y Y A1) ?_
  (refine Dl (D':=31) 4 (Bo Ft GC Y Y ?_ ?_) ?_;(focus (omega));(focus (omega)))
  refine A2 5 V (AQ Y)<|A2 6 V (AQ Y) ?_
  (refine Dl (D':=255) 7 (Bo Ft GC Y Y ?_ ?_) ?_;(focus (omega));(focus (omega)))
  refine Yw 8 511 rfl (JO (cs:=Am (rows.drop i)) Ft GC Y Y Wh Wo (Qo I i hi) (by rw [BD,C3];omega) (by rw [BD,C3,GH (by rw [BD,E0];omega)];omega) (by rw [GH (by rw [BD,E0];omega)];exact K) (Eg _))<|CM<|Ai<|Zn [9] ?_;refine Zx<|A0<|Zm Y<|A3 Y<|AJ<|Zt<|AO V results298 Y (by
   refine ⟨_,[(g,.cells cur 310 z)],BR (EP (i:=0+(i+1)*10) (ys:=Am (rows.drop i)) (EP (i:=0+i*10) (ys:=Am [y]) J (by rw [G,BD,E0];omega)) ?_) (TP rows i hi y).symm ?_,rfl⟩
   · simp only [B7,C2,C3,G,BD,E0];omega
   · rw [lV G hi (by rw [BD];rfl) (by rw [BD,C3]),HJ (by rw [BD,C2];omega),<-Fa,V5])
 refine AC<|Zx<|Zq ?_;obtain ⟨p8,bn,ax⟩:=V6 m (rows.length+1) A1 A1;have G:=ax.1
 refine Zg<|Zm Y<|Zm Y<|Zm Y<|Ya Y Y ?_;refine BX (Bq Ft GC Y Y A1)<|A3 Y<|Zq<|Zq<|yE (s1:=[(U,_)]) (s2:=[(g,_)]) (a:=U) (b:=g) Wo Wo (BT.2 V) (BT.2 V) (fun af=>?_);refine Zg<|Zm Y<|Zm Y<|Zm Y<|Zm Y<|Ya Y Y ?_
 (refine BX (Bo Ft GC Y Y ?_ ?_) ?_;(focus (omega));(focus (omega)))
 refine CO (cs:=[(U,.cells #[I4 y.l.t,I4 y.l.k,I4 y.l.v.a,I4 y.l.v.b,I4 y.l.v.c,I4 y.r.t,I4 y.r.k,I4 y.r.v.a,I4 y.r.v.b,I4 y.r.v.c] 310 (0,0)),(g,.cells cur 310 z)]) B0 (Sr (tR:=4) func328 A6 A6 A6 A6 Ft GC Y af A1) V rfl ?_;refine Zv (Br Y)<|Z0<|Zn [0,1,2,7,8,68] ?_;refine Zx<|AV Y (fun X=>?_) (fun X=>?_)
 ·
  refine Zq<|Az (n:=9) (0::0::0::6::15::0::0::96::255::[]) 256 A6 A6 V<|A2 0 V (AQ Y)<|A2 1 V (AQ Y)<|A2 2 V (AQ Y)<|A2 3 V (Dz Y Y A1) ?_
  (refine Dl (D':=31) 4 (Bo Ft GC Y Y ?_ ?_) ?_;(focus (omega));(focus (omega)))
  refine A2 5 V (AQ Y)<|A2 6 V (AQ Y) ?_
  (refine Dl (D':=255) 7 (Bo Ft GC Y Y ?_ ?_) ?_;(focus (omega));(focus (omega)))
  refine Yw 8 511 rfl (JO (cs:=Am (rows.drop i)) Ft GC Y Y Wh Wo (Qo I i hi) (by rw [BD,C3];omega) (by rw [BD,C3];omega) (Z) (Eg _))<|CM<|Ai<|Zx<|A0<|Zm Y<|Zm Y ?_
  (refine BX (Bo Ft GC Y Y ?_ ?_) ?_;(focus (omega));(focus (omega)))
  refine Zm Y<|Xe (JO (cs:=Am [y]) Ft GC Y Y Wh Wo ((rfl:Bz (#[I4 y.l.t,I4 y.l.k,I4 y.l.v.a,I4 y.l.v.b,I4 y.l.v.c,I4 y.r.t,I4 y.r.k,I4 y.r.v.a,I4 y.r.v.b,I4 y.r.v.c]:Array Value) 0 (Am [y]))) (by rw [BD,E0];omega) (by rw [BD,E0,GH (by rw [BD,C3];omega)];omega) (by rw [GH (by rw [BD,C3];omega)];exact Z) (Eg _)) ?_;refine Z0<|Zn [0] ?_;refine Zx<|A0<|Zm Y<|A3 Y<|AJ<|Zt<|AO V results298 Y (by
   refine ⟨_,[],BR (EP (i:=0+i*10) (ys:=Am [y]) (EP (i:=0+(i+1)*10) (ys:=Am (rows.drop i)) ax (by rw [G,BD,C3];omega)) ?_) (TP rows i hi y).symm ?_,rfl⟩
   · simp only [B7,C2,C3,BD,bn,E0];omega
   · rw [fG G hi (by rw [BD];rfl) (by rw [BD,C3]),a6 (by rw [BD];omega),V5])
 cases X
def Ow(pd:Bb->Bool)(rows:List Bb)(y:Bb):List Bb:=rows.take ((rows.findIdx? pd).getD rows.length)++[y]++rows.drop ((rows.findIdx? pd).getD rows.length)
theorem lW(g:Bb->Bool)(rows:List Bb)(y:Bb):(Ow g rows y).length=rows.length+1:=by
 unfold Ow;simp only [B7,C2,C3,E0];omega
theorem sD(g:Bb->Bool)(rows:List Bb):(Gq g rows<0/\(rows.findIdx? g).getD rows.length=rows.length)\/∃i:Nat,i<=rows.length/\Gq g rows=(i:Int)/\(rows.findIdx? g).getD rows.length=i:=by
 unfold Gq;cases h:rows.findIdx? g with
 |none=>exact .inl ⟨by simp,rfl⟩
 |some i=>
  obtain ⟨m,_,_⟩:=Wf.1 h;exact .inr ⟨i,by omega,V,V⟩
theorem Mr(hv:U8 A v rows)(K:rows.length<=1000000000)(g:Nat)(us:List Value)(m:Bb->Bool)(G:∀(args:Array Value) (w:World),(callFunc g args).run prog w= .ok (.enter g args) w)(J:∀x:Bb,BJ prog g (.agg #[I4 x.l.t,I4 x.l.k,I4 x.l.v.a,I4 x.l.v.b,I4 x.l.v.c,I4 x.r.t,I4 x.r.k,I4 x.r.v.a,I4 x.r.v.b,I4 x.r.v.c]::us).toArray [B] (.bool (m x))):Ba prog 258 #[v,.func (.func g) #[] us.toArray] [A,B] (fun r H'=>∃s,Bc 10 310 r (rows.filter fun x=>!m x).length (Am (rows.filter fun x=>!m x)) s/\H'=[s,A,B]):=by
 obtain ⟨p,cap,rfl,_⟩:=id hv;refine Se func258 ntmps258 [0,1] ?_;intro u R;refine A0<|A3 Y<|A0<|Zm Y<|Zc [_] Y call297 Y V (Wv hv A1) ?_;rintro _ _ ⟨_,⟨s1,I,rfl⟩,rfl⟩;obtain ⟨W,O,rfl⟩:=I.form;refine Zm Y<|Zc [_,_] Y call296 Y V (XP I K g us m G J) ?_;rintro _ _ ⟨_,⟨s2,h2,rfl⟩,rfl⟩;obtain ⟨X,U,rfl⟩:=h2.form;refine A3 Y<|AJ<|AO V results258 Y (by exact ⟨_,h2,V⟩)
theorem TN(G:Bc 10 310 v rows.length (Am rows) s)(hn:rows.length<=1000000000)(y:Bb)(g:Nat)(us:List Value)(I:Bb->Bool)(U:∀(args:Array Value) (w:World),(callFunc g args).run prog w= .ok (.enter g args) w)(hf:∀x:Bb,BJ prog g (.agg #[I4 x.l.t,I4 x.l.k,I4 x.l.v.a,I4 x.l.v.b,I4 x.l.v.c,I4 x.r.t,I4 x.r.k,I4 x.r.v.a,I4 x.r.v.b,I4 x.r.v.c]::us).toArray [B] (.bool (I x))):Ba prog 263 #[v,.agg #[I4 y.l.t,I4 y.l.k,I4 y.l.v.a,I4 y.l.v.b,I4 y.l.v.c,I4 y.r.t,I4 y.r.k,I4 y.r.v.a,I4 y.r.v.b,I4 y.r.v.c],.func (.func g) #[] us.toArray] [s,B] (fun r H'=>∃X s2,Bc 10 310 r (Ow I rows y).length (Am (Ow I rows y)) X/\H'=[X,s2,B]):=by
 have af:=mL;obtain ⟨p,cap,rfl⟩:=G.form;have hU:=NP G A1
 refine Se func263 ntmps263 [0,1,2] ?_;intro u R;refine A0<|Ze (Bx #[_,_,_,_,_,_,_,_,_,_])<|AD fun bx=>A3 Y<|A0<|Zm Y<|Zm Y<|Xr [_,_] Y call261 Y V (Lv hU g us I U hf) ?_;obtain ⟨z9,O⟩:∃z,z=Gq I rows:=⟨_,rfl⟩;rw [<-O];have m:=sD I rows
 rw [<-O]at m;refine A3 Y<|Zb [7,0,4] ?_;refine D7 (e0:=[(7,_)]) (H0:=[]) (fun e H=>∃(i:Nat),(i<=rows.length/\(rows.findIdx? I).getD rows.length=i)/\e=[(7,I4 (i:Int))]/\H=[]) Wp ?hx_1 ?hy_1
 case hx_1=>
  refine A0<|Zm Y<|Zv (Dq Y Y)<|A4<|Av Y (fun K=>?_) (fun K=>?_)
  ·
   refine Zg<|Zm Y<|Zv (Ab Ft Y)<|AG Y<|Zn [7,0,4] ?_;refine BL (e':=[(7,_)]) (by exact ⟨rows.length,⟨CT _,by rcases m with⟨_,h⟩|⟨i,h1,h2,J⟩;exact h;omega⟩,rfl,rfl⟩)
  rcases m with⟨h9,_⟩|⟨i,h1,h2,J⟩
  · exact absurd h9 K
  subst h2;refine AC<|Zn [7,0,4] ?_;refine BL (e':=[(7,_)]) (by exact ⟨i,⟨h1,J⟩,V,V⟩)
 rintro _ _ ⟨i,⟨hi,W⟩,rfl,rfl⟩;refine A0<|Zm Y<|Zm Y<|Zo Wh (Pa #[_,_,_,_,_,_,_,_,_,_] isAgg310 GC Y) ?_;refine Ze (Ah (vs:=[_]) (cs:=[_,_,_,_,_,_,_,_,_,_]) Ft GC ef Y V rfl V rfl V)<|AD fun Z=>Zc [_,_,_] Y call298 Y V (XF G hn i hi y Z) ?_;rintro _ _ ⟨_,⟨s3,s4,J,rfl⟩,rfl⟩;obtain ⟨g3,c3,rfl⟩:=J.form;refine A3 Y<|AJ<|AO rfl results263 Y (by exact ⟨_,s4,by unfold Ow;rw [W];exact J,rfl⟩)
def Gy(k:Int)(p:Bb):Bool:=decide (p.r.k=k)
def Q9(k:Int)(p:Bb):Bool:=decide (p.l.k=k)
def Et(rows:List AU):List Bb:=(List.range (rows.length/2)).map fun k=>⟨rows.getD (2*k) AU.zero,rows.getD (2*k+1) AU.zero⟩
def DU(ps:List Bb):List AU:=ps.flatMap fun p=>[p.l,p.r]
def jnT(q:QM)(c:Chg)(ps:List Bb):List Bb×Bool:=
 if c.t=q.ot then
  (if c.has then(ps.map fun p=>if Gy c.k p then⟨p.l,⟨c.t,c.k,c.n⟩⟩else p,c.had)else(ps.filter fun p=>!Gy c.k p,c.had))
 else match afQ q c with
  |none=>(ps.filter fun p=>!Q9 c.k p,true)
  |some y=>if Gq (Gy (mQ q (afQ q c))) ps<0 then(ps.filter fun p=>!Q9 c.k p,(bfQ q c).isSome&&decide (mQ q (bfQ q c)=mQ q (afQ q c)))
   else(Ow (fun p=>KJ q y p.l) (ps.filter fun p=>!Q9 c.k p) ⟨y,(ps.getD (Gq (Gy (mQ q (afQ q c))) ps).toNat ⟨AU.zero,AU.zero⟩).r⟩,true)
def D8(q:QM)(c:Chg)(r:CF):CF×Bool:=if q.tb=q.ot then(r,false)else(⟨DU (jnT q c (Et r.rows)).1,r.val,r.fnd⟩,(jnT q c (Et r.rows)).2)
theorem K5(rows:List AU):(Et rows).length=rows.length/2:=by unfold Et;rw [B2,aq]
theorem qD{rows:List AU}{x y:AU}(m:rows[2*k]?=some x)(g:rows[2*k+1]?=some y):(Et rows)[k]?=some ⟨x,y⟩:=by
 have h:=(BE.1 g).1;unfold Et;rw [DH,Wr A1,Mz,Lw,Lw,m,g];rfl
theorem I1:∀ps:List Bb,(DU ps).length=2*ps.length
 |[]=>rfl
 |p::ps=>by
  have:=I1 ps;unfold DU at*;rw [HH,B7,this,DE];simp;omega
variable{ps:List Bb}{p:Bb}
theorem SA(h:ps[k]?=some p):DU (ps.take (k+1))=DU (ps.take k)++[p.l,p.r]:=by
 unfold DU;rw [Bh h,OK,ml]
theorem iw(q:QM)(c:Chg)(ps:List Bb):(jnT q c ps).1.length<=ps.length+1:=by
 have g:=Mu (fun p=>!Gy c.k p) ps;have h2:=Mu (fun p=>!Q9 c.k p) ps
 unfold jnT;split
 · split
   · simp only [B2];omega
   · simp only;omega
 · split
   · simp only;omega
   · split
     · simp only;omega
     · simp only [lW];omega
theorem wY(q:QM)(c:Chg)(m G:Option Addr)(o n:Int)(g:Nat)(x:Bb):BJ prog 259 #[.agg #[I4 x.l.t,I4 x.l.k,I4 x.l.v.a,I4 x.l.v.b,I4 x.l.v.c,I4 x.r.t,I4 x.r.k,I4 x.r.v.a,I4 x.r.v.b,I4 x.r.v.c],I5 g] [[(g,.cells (q.G0 c m G o n) 167 (0,0))]] (.bool (Gy c.k x)):=by
 refine Se func259 ntmps259 [0,1] ?_;intro u R;refine A0<|Ze (Bx #[I4 x.l.t,I4 x.l.k,I4 x.l.v.a,I4 x.l.v.b,I4 x.l.v.c,I4 x.r.t,I4 x.r.k,I4 x.r.v.a,I4 x.r.v.b,I4 x.r.v.c])<|AD fun I=>A3 Y<|A0<|Zh 5 Tl V rfl AW Y<|Zv (Aq (off:=1) Fi V rfl A5 Y)<|Zl AE Y ?_;refine Zh 7 D3 V rfl C1 Y<|Zv (Aq (off:=1) B8 V rfl A5 Y)<|Zl AE Y ?_;refine Zv (CP Y Y)<|A3 Y<|AJ<|AO V results259 Y (by exact ⟨V,V⟩)
theorem wX(q:QM)(c:Chg)(m G:Option Addr)(o n:Int)(g:Nat)(x:Bb):BJ prog 260 #[.agg #[I4 x.l.t,I4 x.l.k,I4 x.l.v.a,I4 x.l.v.b,I4 x.l.v.c,I4 x.r.t,I4 x.r.k,I4 x.r.v.a,I4 x.r.v.b,I4 x.r.v.c],I5 g] [[(g,.cells (q.G0 c m G o n) 167 (0,0))]] (.bool (Q9 c.k x)):=by
 refine Se func260 ntmps260 [0,1] ?_;intro u R;refine A0<|Ze (Bx #[I4 x.l.t,I4 x.l.k,I4 x.l.v.a,I4 x.l.v.b,I4 x.l.v.c,I4 x.r.t,I4 x.r.k,I4 x.r.v.a,I4 x.r.v.b,I4 x.r.v.c])<|AD fun I=>A3 Y<|A0<|Zh 0 Tl V rfl AW Y<|Zv (Aq (off:=1) Fi V rfl A5 Y)<|Zl AE Y ?_;refine Zh 7 D3 V rfl C1 Y<|Zv (Aq (off:=1) B8 V rfl A5 Y)<|Zl AE Y ?_;refine Zv (CP Y Y)<|A3 Y<|AJ<|AO V results260 Y (by exact ⟨V,V⟩)
theorem wW(q:QM)(c:Chg)(m G:Option Addr)(o n:Int)(g:Nat)(x:Bb):BJ prog 262 #[.agg #[I4 x.l.t,I4 x.l.k,I4 x.l.v.a,I4 x.l.v.b,I4 x.l.v.c,I4 x.r.t,I4 x.r.k,I4 x.r.v.a,I4 x.r.v.b,I4 x.r.v.c],I5 g] [[(g,.cells (q.G0 c m G o n) 167 (0,0))]] (.bool (Gy n x)):=by
 refine Se func262 ntmps262 [0,1] ?_;intro u R;refine A0<|Ze (Bx #[I4 x.l.t,I4 x.l.k,I4 x.l.v.a,I4 x.l.v.b,I4 x.l.v.c,I4 x.r.t,I4 x.r.k,I4 x.r.v.a,I4 x.r.v.b,I4 x.r.v.c])<|AD fun I=>A3 Y<|A0<|Zh 5 Tl V rfl AW Y<|Zv (Aq (off:=1) Fi V rfl A5 Y)<|Zl AE Y ?_;refine Zh 20 D3 V rfl A5 Y<|Zl AE Y ?_;refine Zv (CP Y Y)<|A3 Y<|AJ<|AO V results262 Y (by exact ⟨V,V⟩)
theorem wV(g:Nat)(us:List Value)(I:AU->Bool)(m:∀(args:Array Value) (w:World),(callFunc g args).run prog w= .ok (.enter g args) w)(J:∀x:AU,BJ prog g (.agg x.A16::us).toArray [B] (.bool (I x)))(G:Nat)(x:Bb):BJ prog 264 #[.agg #[I4 x.l.t,I4 x.l.k,I4 x.l.v.a,I4 x.l.v.b,I4 x.l.v.c,I4 x.r.t,I4 x.r.k,I4 x.r.v.a,I4 x.r.v.b,I4 x.r.v.c],I5 G] [[(G,.cells #[.func (.func g) #[] us.toArray] 265 (0,0))],B] (.bool (I x.l)):=by
 refine Se func264 ntmps264 [0,1] ?_;intro u R;refine A0<|Ze (Bx #[I4 x.l.t,I4 x.l.k,I4 x.l.v.a,I4 x.l.v.b,I4 x.l.v.c,I4 x.r.t,I4 x.r.k,I4 x.r.v.a,I4 x.r.v.b,I4 x.r.v.c])<|AD fun K=>A3 Y<|A0<|Zl isAgg265 Y ?_;refine Zh 0 Tl V rfl AW Y<|Zo Wh (AA (cs:=x.l.A16) CH AW Y As AM) ?_;refine Xr [_] Y (m) Y V (J x.l) ?_;refine A3 Y<|AJ<|AO V results264 Y (by exact ⟨V,V⟩)
theorem kG(m:ps[k]?=some p)(x:AU):(Am ps).take (0+k*10+5)++Ae [x]++(Am ps).drop (0+k*10+5+(Ae [x]).length)=Am (ps.set k ⟨p.l,x⟩):=by
 have J:=(BE.1 m).1;have e:(Am (ps.take k)).length=k*10:=by rw [BD,C2];omega
 have I:Am [p]=Ae [p.l]++Ae [p.r]:=rfl;have g:∀r:AU,(Ae [r]).length=5:=fun r=>rfl
 have e1:Am ps=(Am (ps.take k)++Ae [p.l])++(Ae [p.r]++Am (ps.drop (k+1))):=by
  rw [Rj m,I];simp
 have e2:(Am (ps.take k)++Ae [p.l]).length=0+k*10+5:=by rw [B7,e,g];omega
 rw [e1,HJ e2,g,<-XS,W0 e2,W0 (g p.r),ir,AK J];have G:Am (ps.take k++⟨p.l,x⟩::ps.drop (k+1))=Am (ps.take k)++(Am [⟨p.l,x⟩]++Am (ps.drop (k+1))):=by
  rw [<-D9,<-D9];rfl
 rw [G,show Am [⟨p.l,x⟩]=Ae [p.l]++Ae [x] from rfl];simp
theorem QS(G:Bz cur 0 (Am ps))(U:ps[k]?=some p):cur[0+k*10+5+1]?=some (I4 p.r.k)/\0+k*10+5+5<=cur.size/\cur.extract (0+k*10+5) (0+k*10+5+5)=p.r.A16:=by
 have g:∀j u,j<10->(Am [p])[j]?=some u->cur[k*10+j]?=some u:=fun j u J m=>by
  have:=G.get (k*10+j) u ((Io U j J).trans m);rwa [D2]at this
 have K:=g 6 _ AN rfl;have O:=g 9 _ AN rfl
 have W:k*10+9<cur.size:=(HG.1 O).1;refine ⟨by rw [show 0+k*10+5+1=k*10+6 by omega];exact K,by omega,?_⟩;apply HI.1;apply Lz;intro j;rw [HE,ab];split
 · rename_i J
   have I:j<5:=by omega
   obtain ⟨u,m⟩:∃u,(Ae [p.r])[j]?=some u:=⟨_,B4 (by rw [BF];simpa using I)⟩;have h2:=g (5+j) u A1 (by
    rw [show Am [p]=Ae [p.l]++Ae [p.r] from rfl,SJ (by rw [BF];simp),BF];rw [show 5+j - [p.l].length*5=j by simp];exact m)
   rw [show 0+k*10+5+j=k*10+(5+j) by omega,h2];exact m.symm
 · rw [Mp]
   show(Ae [p.r]).length<=j;rw [BF];simp only [E0];omega
def Nb(c:Chg)(ps:List Bb)(i:Nat):List Bb:=(ps.take i).map (fun p=>if Gy c.k p then⟨p.l,⟨c.t,c.k,c.n⟩⟩else p)++ps.drop i
theorem rA(c:Chg)(ps:List Bb)(i:Nat)(hi:i<=ps.length):(Nb c ps i).length=ps.length:=by
 unfold Nb;simp only [B7,B2,C2,C3];omega
variable{c:Chg}
theorem X6(g:ps[i]?=some p):(Nb c ps i)[i]?=some p:=by
 have hi:=(BE.1 g).1;unfold Nb;rw [SJ (by rw [B2,C2];omega),B2,C2,PB A1,W1,OR,N0,g]
theorem Va(g:ps[i]?=some p):Nb c ps (i+1)=(Nb c ps i).set i (if Gy c.k p then⟨p.l,⟨c.t,c.k,c.n⟩⟩else p):=by
 have hi:=(BE.1 g).1;have m:((ps.take i).map (fun p=>if Gy c.k p then(⟨p.l,⟨c.t,c.k,c.n⟩⟩:Bb)else p)).length=i:=by rw [B2,C2];omega
 unfold Nb;rw [Bh g,BW,j1 (h:=by omega),m,W1];obtain ⟨_,rfl⟩:=BE.1 g;rw [R0 hi,List.set_cons_zero];simp
theorem oM(g:ps[i]?=some p):ps.set i p=ps:=by
 obtain ⟨hi,rfl⟩:=BE.1 g;exact List.set_getElem_self hi
theorem yz(g:Nat)(us:List Value)(I:AU->Bool)(G:∀(args:Array Value) (w:World),(callFunc g args).run prog w= .ok (.enter g args) w)(J:∀x:AU,BJ prog g (.agg x.A16::us).toArray [B] (.bool (I x)))(m:Nat)(x:Bb):BJ prog 264 (.agg #[I4 x.l.t,I4 x.l.k,I4 x.l.v.a,I4 x.l.v.b,I4 x.l.v.c,I4 x.r.t,I4 x.r.k,I4 x.r.v.a,I4 x.r.v.b,I4 x.r.v.c]::([I5 m]:List Value)).toArray [[(m,.cells #[.func (.func g) #[] us.toArray] 265 (0,0))]++B] (.bool (I x.l)):=by
 refine Gs (wV g us I G J m x) B0 ?_;rintro r H' ⟨rfl,rfl⟩;exact ⟨_,⟨V,V⟩,by simp⟩
variable{q:QM}
theorem XD{G I:Option Addr}{g:Nat}{f:Bb->Bool}{m:Nat}(h:∀x,BJ prog m #[.agg #[I4 x.l.t,I4 x.l.k,I4 x.l.v.a,I4 x.l.v.b,I4 x.l.v.c,I4 x.r.t,I4 x.r.k,I4 x.r.v.a,I4 x.r.v.b,I4 x.r.v.c],I5 g] [[(g,.cells (q.G0 c G I (mQ q (bfQ q c)) (mQ q (afQ q c))) 167 (0,0))]] (.bool (f x)))(x:Bb):BJ prog m (.agg #[I4 x.l.t,I4 x.l.k,I4 x.l.v.a,I4 x.l.v.b,I4 x.l.v.c,I4 x.r.t,I4 x.r.k,I4 x.r.v.a,I4 x.r.v.b,I4 x.r.v.c]::([I5 g]:List Value)).toArray [[(g,.cells (q.G0 c G I (mQ q (bfQ q c)) (mQ q (afQ q c))) 167 (0,0))]] (.bool (f x)):=h x
theorem x9(h:c.has=true):EK c c.has c.n=⟨c.t,c.k,c.n⟩:=by unfold EK;rw [AK h]
theorem rC(c:Chg)(ps:List Bb):Nb c ps ps.length=ps.map fun p=>if Gy c.k p then⟨p.l,⟨c.t,c.k,c.n⟩⟩else p:=by unfold Nb;rw [FF,fz,Cp]
variable{s2:List A9}
set_option maxHeartbeats 1000000 in
theorem fE(q:QM)(gm:0<=q.cl/\q.cl<=3)(c:Chg)(U p2:Option Addr)(e1:U.isSome=(bfQ q c).isSome)(h2:Ib p2 (afQ q c) s2){sl:List A9}(hl:Bc 10 310 v ps.length (Am ps) sl)(hn:ps.length<=100000000):Ba prog 209 #[.agg (q.G0 c U p2 (mQ q (bfQ q c)) (mQ q (afQ q c))),v] [sl,s2] (fun w H'=>∃v' s',w= .tuple #[v',.bool (jnT q c ps).2]/\Bc 10 310 v' (jnT q c ps).1.length (Am (jnT q c ps).1) s'/\H'=[s']):=by
 have l8:=mL;obtain ⟨pl,ax,rfl⟩:=hl.form;have hU:=NP hl A1
 have l5:(ps.filter fun p=>!Q9 c.k p).length<=ps.length:=Mu _ _;refine Se func209 ntmps209 [0,1] ?_;intro u R;refine A0<|Ze (Eo Y (cs:=(q.G0 c U p2 (mQ q (bfQ q c)) (mQ q (afQ q c)))) (G6 q c U p2 (mQ q (bfQ q c)) (mQ q (afQ q c))))<|AD fun be=>Za Y<|A3 Y<|Zq<|A0<|Zh 7 D3 V rfl C1 Y<|Zv (Aq (off:=0) B8 V rfl A5 Y)<|Zl AE Y ?_;refine Zh 0 D3 V rfl C7 Y<|Zv (Aq (off:=6) C6 V rfl A5 Y)<|Zl AE Y ?_;refine Zv (CP Y Y)<|A4<|Av Y (fun K=>?_) (fun K=>?_)
 ·
  refine A0<|Zh 7 D3 V rfl C1 Y<|Zo Wh (AA (cs:=c.A15) Fk C1 Y As AM) ?_;refine Xr [_] Y call142 Y V (OQ c) ?_;obtain ⟨y9,cO⟩:∃y,y=EK c c.has c.n:=⟨_,rfl⟩;rw [<-cO];refine Zm Y<|Zd Y V<|Zd Y V<|Ze (Al DP #[_,_,_,_,_])<|AD fun kv=>Xe (Xw AW y9.A16) ?_;refine AG Y<|Zn [1,2,6,7] ?_;refine Zx<|Zq<|A0<|Zm Y<|Zv (Br Y)<|A4<|AV Y (fun hh=>?_) (fun hh=>?_)
  ·
   have af:c.has=false:=by simpa using hh
   refine Zq<|Az (n:=8) (0::0::3::0::8::24::7::127::[]) 4 A6 A6 V<|A2 0 V (AQ Y)<|A2 1 V (Bg (vs:=[]) (us:=[_]) Y Y)<|A2 3 V (AB (off:=7) D3 V rfl C1 Y)<|A2 4 V (Aq (off:=2) B8 V rfl CD Y)<|B3 5 V E4 Y ?_;refine Zz (l:=[2])<|B1 [true] [(5,(_,_))] V rfl (Zw [_,_] Y call258 Y V (Mr (B:=[(be,.cells (q.G0 c U p2 (mQ q (bfQ q c)) (mQ q (afQ q c))) 167 (0,0))]) hU A1 259 [I5 be] (Gy c.k) call259 (XD fun x=>wY q c U p2 (mQ q (bfQ q c)) (mQ q (afQ q c)) be x))) ?_ Bv Ag;rintro _ _ ⟨_,⟨s9,h9,rfl⟩,rfl⟩;refine ⟨Zk (AZ),?_⟩;obtain ⟨g9,c9,rfl⟩:=h9.form;refine A2 6 V (Aw Y)<|A2 7 V (Aw Y)<|Ai<|Zx<|AJ<|Zt<|Zt<|Cu V en Y Y (by
    have G:jnT q c ps=(ps.filter fun p=>!Gy c.k p,c.had):=by unfold jnT;rw [AK K,AH (by rw [af];decide)]
    exact ⟨.slice g9 _ c9,s9,by rw [G],by rw [G];exact h9,rfl⟩)
  have af:c.has=true:=by simpa using hh
  rw [x9 af]at cO;refine AC<|Zx<|Zq<|A0<|Zm Y<|Zv (Ab Ft Y)<|Zm Y<|A4<|AP<|Zb [35,1,2,6,34] ?_;refine BB (e0:=[(35,_)]) (fun m e H=>∃(i:Nat) (sk:List A9),m=ps.length -i/\(i<=ps.length/\Bc 10 310 (.slice pl ps.length ax) ps.length (Am (Nb c ps i)) sk)/\e=[(35,I4 (i:Int))]/\H=[sk]) (by exact ⟨0,sl,V,⟨C0 _,hl⟩,V,V⟩) Wp ?_;rintro _ _ _ ⟨i,sk,rfl,⟨hi,O⟩,rfl,rfl⟩;refine A0<|Zv (Au Y Y)<|A4<|Zq<|Av Y (fun Z=>?_) (fun Z=>?_)
  ·
   obtain ⟨p,hp⟩:∃p,ps[i]?=some p:=⟨_,B4 Z⟩;obtain ⟨g,ek,cur,z,cu,rfl,ic,X⟩:=Dv O A1;injection cu with hv1 hv2 hv3
   subst hv1 hv3;obtain ⟨_,W,_,j5,gy⟩:=JV O;obtain ⟨h6,j3,_⟩:=QS X (X6 hp);refine AC<|Zx<|Zq<|AP<|A0<|Zm Y<|A3 Y<|Zq<|Az (n:=10) (0::0::3::7::15::31::0::64::192::511::[]) 0 A6 A6 V<|A2 0 V (AQ Y)<|A2 1 V (AQ Y)<|A2 2 V (Ad Ft GC Y Y A1)<|A2 3 V (Aq (off:=5) Tl V rfl AW Y)<|A2 4 V (Aq (off:=1) Fi V rfl A5 Y)<|B3 5 V AE Y (hv:=by exact h6) ?_;refine A2 6 V (AB (off:=7) D3 V rfl C1 Y)<|A2 7 V (Aq (off:=1) B8 V rfl A5 Y)<|B3 8 V AE Y ?_;refine A2 9 V (CP Y Y)<|Ai<|Zn [1,2,6,8,34,35,47] ?_;refine Zx<|Av Y (fun hk=>?_) (fun hk=>?_)
   ·
    have e9:Nb c ps (i+1)=(Nb c ps i).set i ⟨p.l,y9⟩:=by rw [Va hp,AK (by unfold Gy;simp [hk]),cO]
    have J:=BR (xs':=Am (Nb c ps (i+1))) (EP (i:=0+i*10+5) (ys:=Ae [y9]) O (by rw [BD,BF,E0,rA c ps i hi];omega)) rfl (by rw [e9];exact kG (X6 hp) y9);refine Zg<|Zm Y<|Zm Y<|Zo Wh (AA (cs:=y9.A16) CH AW Y As AM) ?_;refine BX (Ad Ft GC Y Y A1)<|Zv (Aq (off:=5) Tl rfl rfl AW Y)<|Xe (BM AW Y Y HR Wu (by exact (rfl:_=EI cur (0+i*10+5) (Ae [y9]))) E7 A1 (by exact gy)) ?_;refine Z0<|A8<|Zx<|Zg<|Ya (n:=1) Y Y<|Zm Y<|Z0<|Zn [35,1,2,6,34] ?_;refine Aa (e':=[(35,_)]) (by exact ⟨i+1,_,V,⟨by omega,J⟩,V,V⟩)
   have e9:Nb c ps (i+1)=Nb c ps i:=by rw [Va hp,AH (by unfold Gy;simp [hk]),oM (X6 hp)]
   have J:=O;rw [<-e9]at J;refine AC<|A8<|Zx<|Zg<|Ya (n:=1) Y Y<|Zm Y<|Z0<|Zn [35,1,2,6,34] ?_;refine Aa (e':=[(35,_)]) (by exact ⟨i+1,_,V,⟨by omega,J⟩,V,V⟩)
  have ei:i=ps.length:=by omega
  subst ei;rw [rC]at O;refine Ay<|Zt<|Zt<|AR<|Zx<|Zq<|Az (n:=6) (0::0::2::6::1::31::[]) 0 A6 A6 V<|A2 0 V (AQ Y)<|A2 1 V (AB (off:=7) D3 V rfl C1 Y)<|A2 2 V (Aq (off:=2) B8 V rfl CD Y)<|B3 3 V E4 Y ?_;refine A2 4 V (Aw Y)<|A2 5 V (Aw Y)<|Ai<|Zx<|AJ<|Zt<|Cu V en Y Y (by
   have G:jnT q c ps=(ps.map fun p=>if Gy c.k p then⟨p.l,⟨c.t,c.k,c.n⟩⟩else p,c.had):=by unfold jnT;rw [AK K,AK af]
   exact ⟨.slice pl ps.length ax,sk,by rw [G],by rw [G];exact BR O (B2 _).symm rfl,rfl⟩)
 refine AC<|Zx<|A0<|Zm Y<|Zv (Bg (vs:=[]) (us:=[_]) Y Y)<|Zc [_,_] Y call258 Y V (Mr (B:=[(be,.cells (q.G0 c U p2 (mQ q (bfQ q c)) (mQ q (afQ q c))) 167 (0,0))]) hU A1 260 [I5 be] (Q9 c.k) call260 (XD fun x=>wX q c U p2 (mQ q (bfQ q c)) (mQ q (afQ q c)) be x)) ?_;rintro _ _ ⟨_,⟨s9,h9,rfl⟩,rfl⟩;obtain ⟨g9,c9,rfl⟩:=h9.form;refine AG Y<|Zn [1,2,9] ?_;refine Zx<|Zq<|A0<|Zh 18 D3 V rfl ID Y<|Zl Lo Y ?_;refine Zv (NY S1 Y Y)<|A4<|AV Y (fun bn=>?_) (fun bn=>?_)
 ·
  have hy:afQ q c=none:=by have h8:=h2.some_;cases I:afQ q c with|none=>rfl|some y=>(rw [I]at h8;cases p2<;>simp at bn h8)
  refine A0<|Zm Y<|Za Y<|A3 Y<|AJ<|Zt<|Cu V en Y Y (by
   have G:jnT q c ps=(ps.filter fun p=>!Q9 c.k p,true):=by unfold jnT;rw [AH K,hy]
   exact ⟨.slice g9 _ c9,s9,by rw [G],by rw [G];exact h9,rfl⟩)
 obtain ⟨y,hy⟩:∃y,afQ q c=some y:=ff.1 (by rw [<-h2.some_];cases p2<;>simp at bn⊢);rw [hy]at h2;obtain ⟨b2,rfl,rfl⟩:=h2;refine AC<|Zx<|A0<|Zm Y<|Zv (Bg (vs:=[]) (us:=[_]) Y Y)<|Xr [_,_] Y call261 Y V (Lv (B:=[(be,.cells #[I4 q.kd,I4 q.tb,I4 q.cl,I4 q.lo,I4 q.hi,I4 q.bq,I4 q.ot,I4 c.t,I4 c.k,.bool c.had,I4 c.o.a,I4 c.o.b,I4 c.o.c,.bool c.has,I4 c.n.a,I4 c.n.b,I4 c.n.c,.pointer U,I5 b2,I4 (mQ q (bfQ q c)),I4 (mQ q (afQ q c))] 167 (0,0))]) hU 262 [I5 be] (Gy (mQ q (afQ q c))) call262 (XD fun x=>wW q c U (some ⟨b2,0,none⟩) (mQ q (bfQ q c)) (mQ q (afQ q c)) be x)) ?_;have W:=TR (Gy (mQ q (afQ q c))) ps
 obtain ⟨z9,d9⟩:∃z,z=Gq (Gy (mQ q (afQ q c))) ps:=⟨_,rfl⟩;rw [<-d9]at W⊢;refine A3 Y<|Zq<|A0<|Zm Y<|Zv (Dq Y Y)<|A4<|Av Y (fun Z=>?_) (fun Z=>?_)
 ·
  have G:jnT q c ps=(ps.filter fun p=>!Q9 c.k p,(bfQ q c).isSome&&decide (mQ q (bfQ q c)=mQ q (afQ q c))):=by unfold jnT;rw [AH K];split;rename_i I;rw [hy]at I;cases I;rw [AK (by rw [<-d9];exact Z)]
  refine Zq<|Az (n:=13) (0::0::2::6::14::30::62::30::158::510::1022::31::4095::[]) 0 A6 A6 V<|A2 0 V (AQ Y)<|A2 1 V (AB (off:=17) D3 V rfl ID Y)<|B3 2 V Lo Y ?_;refine A2 3 V (El S1 Y Y)<|A2 4 V (AQ Y)<|Cf (t:=74) Y (fun h1=>?_) (fun h1=>?_)
  ·
   rw [h1];refine An 5 V (AB (off:=19) D3 V rfl A5 Y)<|DQ 6 V Wh (BO AE Y AM) ?_;refine An 7 V (AB (off:=20) D3 V rfl A5 Y)<|DQ 8 V Wh (BO AE Y AM) ?_;refine An 9 V (CP Y Y)<|A2 10 V (AX Y Y)<|A2 11 V (Aw Y)<|A2 12 V (Aw Y)<|Ai<|Zn [4,5] ?_;refine Zx<|AJ<|Zt<|Cu rfl en Y Y (by exact ⟨.slice g9 _ c9,s9,by rw [G,<-e1,h1];rfl,by rw [G];exact h9,rfl⟩)
  rw [h1];refine AF 5 V<|AF 6 V<|AF 7 V<|AF 8 V<|AF 9 V<|A2 10 V (AL Y Y)<|A2 11 V (Aw Y)<|A2 12 V (Aw Y)<|Ai<|Zn [4,5] ?_;refine Zx<|AJ<|Zt<|Cu rfl en Y Y (by exact ⟨.slice g9 _ c9,s9,by rw [G,<-e1,h1];rfl,by rw [G];exact h9,rfl⟩)
 rcases W with⟨I,_⟩|⟨k,p,I,hp,_,_⟩
 · exact absurd I A1
 subst I;have G:jnT q c ps=((Ow (fun p=>KJ q y p.l) (ps.filter fun p=>!Q9 c.k p) ⟨y,p.r⟩),true):=by
  unfold jnT;rw [AH K];split
  · rename_i I;rw [hy]at I;cases I
  · rename_i y0 I;rw [hy]at I;injection I with I;subst I;rw [<-d9,AH A1,V2,Lw,hp];rfl
 have hk:=(BE.1 hp).1;obtain ⟨g,ek,cur,z,cu,rfl,ic,X⟩:=Dv hl A1;injection cu with hv1 hv2 hv3
 subst hv1 hv3;obtain ⟨_,j3,gq⟩:=QS X hp;refine AC<|Zx<|A0<|Zo Wh (AA cD Wa Y As (by exact BN V)) ?_;refine Zc [_] Y call207 Y V (Qs q gm c U (mQ q (bfQ q c)) (mQ q (afQ q c)) y b2) ?_;rintro _ _ ⟨_,⟨b8,b9,rfl,rfl⟩,rfl⟩;refine Ze (Al zeroValue265 #[_])<|AD fun bb=>Xe (Zs sizeOf265 Y Y V (hc:=by exact (V:_=(#[.func (.func 257) #[] ([I5 b8,I5 b9]:List Value).toArray]:Array Value))) (hi:=by decide)) ?_;refine Z0<|Zn [1,2,9,10,11] ?_;refine Zx<|Zq<|CK (s1:=[(bb,_)]) (s2:=_++_++[(b2,_)]) Wo Wo ?_;refine Az (n:=15) (0::0::2::6::14::0::0::96::224::480::1022::0::4095::8191::16383::[]) 4096 A6 A6 V<|A2 0 V (AQ Y)<|A2 1 V (AB (off:=18) D3 V rfl ID Y)<|B3 2 V Lo Y ?_;refine A2 3 V (Ap Y V)<|DI (b:=b2) (x:= .cells y.A16 83 (0,0)) (D':=31) 4 V rfl V B0 (Pa y.A16 CH AW Y) ?_;refine A2 5 V (AQ Y)<|A2 6 V (AQ Y)<|A2 7 V (Ad Ft GC Y Y A1)<|A2 8 V (Aq (off:=5) Tl V rfl AW Y)<|E6 9 V Wh (AA (cs:=p.r.A16) CH AW Y A1 (by exact gq)) ?_;refine A2 10 V (BK (vs:=[(0,.agg y.A16),(1,.agg p.r.A16)]) (cs:=#[I4 y.t,I4 y.k,I4 y.v.a,I4 y.v.b,I4 y.v.c,I4 p.r.t,I4 p.r.k,I4 p.r.v.a,I4 p.r.v.b,I4 p.r.v.c]) Y (AY (pl:=#[(0,5),(5,5)]) ef Tl (fun _=>by kernel_rfl) A6))<|A2 11 V (Bg (vs:=[]) (us:=[_]) Y Y)<|Zz (l:=[12])<|B1 [false,false,false] [] V rfl (Zw [_,_,_] Y call263 Y V (TN h9 A1 ⟨y,p.r⟩ 264 [I5 bb] (fun p=>KJ q y p.l) call264 (fun x=>yz 257 ([I5 b8,I5 b9]:List Value) (KJ q y) call257 (fun x=>ae q gm c U (mQ q (bfQ q c)) (mQ q (afQ q c)) y b2 b8 b9 x) bb x))) ?_ Bv Ag;rintro _ _ ⟨_,⟨s5,s6,h5,rfl⟩,rfl⟩;refine ⟨AZ,?_⟩;obtain ⟨g5,c5,rfl⟩:=h5.form;refine A2 13 V (Aw Y)<|A2 14 V (Aw Y)<|Ai<|Zn [4,5] ?_;refine Zx<|AJ<|Cu rfl en Y Y (by exact ⟨.slice g5 _ c5,s5,by rw [G],by rw [G];exact h5,rfl⟩)
theorem dY(q:QM)(c:Chg)(r:CF):(D8 q c r).1.val=r.val:=by unfold D8;split<;>rfl
theorem dZ(q:QM)(c:Chg)(r:CF):(D8 q c r).1.rows.length<=r.rows.length+2:=by
 unfold D8;split
 · exact e6 _ _
 · show(DU _).length<=_
   have h:=iw q c (Et r.rows);rw [K5]at h;rw [I1];omega
theorem jD{rs:List AU}{x:AU}(g:Bz cur 0 (Ae rs))(m:rs[k]?=some x):k*5+5<=cur.size/\cur.extract (0+k*5) (0+k*5+5)=x.A16:=aH g m
theorem tN(g:Bz cur 0 (Am rs))(m:rs[k]?=some x):k*10+10<=cur.size/\cur.extract (0+k*10) (0+k*10+10)=#[I4 x.l.t,I4 x.l.k,I4 x.l.v.a,I4 x.l.v.b,I4 x.l.v.c,I4 x.r.t,I4 x.r.k,I4 x.r.v.a,I4 x.r.v.b,I4 x.r.v.c]:=Vp g m
variable{r:CF}{rv:Value}
set_option maxHeartbeats 1000000 in
theorem dP(q:QM)(l5:0<=q.cl/\q.cl<=3)(c:Chg)(p1 p2:Option Addr)(e1:p1.isSome=(bfQ q c).isSome)(h2:Ib p2 (afQ q c) s2){sr:List A9}(hr:Bc 5 83 rv r.rows.length (Ae r.rows) sr)(hn:r.rows.length<=100000000):Ba prog 138 #[.agg (q.G0 c p1 p2 (mQ q (bfQ q c)) (mQ q (afQ q c))),.agg #[rv,I4 r.val,.bool r.fnd]] [sr,s2] (fun w H'=>∃j3 s',w= .tuple #[.agg #[j3,I4 (D8 q c r).1.val,.bool (D8 q c r).1.fnd],.bool (D8 q c r).2]/\Bc 5 83 j3 (D8 q c r).1.rows.length (Ae (D8 q c r).1.rows) s'/\H'=[s']):=by
 have p9:=mL;obtain ⟨pv,cv,rfl⟩:=hr.form;refine Se func138 ntmps138 [0,1] ?_;intro u R;refine A0<|Ze (Eo Y (cs:=(q.G0 c p1 p2 (mQ q (bfQ q c)) (mQ q (afQ q c)))) (G6 q c p1 p2 (mQ q (bfQ q c)) (mQ q (afQ q c))))<|AD fun be=>Ze (Bx #[.slice pv r.rows.length cv,I4 r.val,.bool r.fnd])<|AD fun br=>Ze (Al G4 #[_,_,_])<|AD fun bo=>A3 Y<|Zq<|A0<|Zh 0 D3 V rfl C7 Y<|Zv (Aq (off:=1) C6 V rfl A5 Y)<|Zl AE Y ?_;refine Zh 0 D3 V rfl C7 Y<|Zv (Aq (off:=6) C6 V rfl A5 Y)<|Zl AE Y ?_;refine Zv (CP Y Y)<|A4<|Av Y (fun X=>?_) (fun X=>?_)
 ·
  refine A0<|Zo Wh (AA (cs:=#[_,_,_]) Bm Ax Y As AM) ?_;refine Xe (Xw Ax _) ?_;refine AG Y<|Zn [4,5] ?_;refine Zx<|AJ<|Zt<|Bn V results138 Y Wh (Ak Bm Ax Wn (V)) Y (by
   have e8:D8 q c r=(r,false):=by unfold D8;rw [AK X]
   exact ⟨.slice pv r.rows.length cv,sr,by rw [e8];rfl,by rw [e8];exact hr,rfl⟩)
 refine AC<|Zx<|A0<|A3 Y<|Zq<|Zq<|BV<|Zg<|AG Y<|Zn [2,3,4,6,7] ?_;refine Zx<|AP<|Zb [6,7,2,3,4] ?_;refine BB (e0:=[(6,_),(7,_)]) (fun m e H=>∃(k:Nat) (K:Option Addr) (ck:Nat) (W:List A9),m=r.rows.length -k/\(k<=r.rows.length/2/\Bc 10 310 (.slice K k ck) k (Am ((Et r.rows).take k)) W)/\e=[(6,.slice K k ck),(7,I4 ((2*k:Nat):Int))]/\H=[W]) (by exact ⟨0,none,0,[],V,⟨C0 _,Bf 10 _⟩,V,V⟩) Wp ?_;rintro _ _ _ ⟨k,K,ck,W,rfl,⟨hk,I⟩,rfl,rfl⟩;refine Zq<|Zq<|BV<|Zg<|Zm Y<|Ya (n:=1) Y Y<|Zh 0 CC V rfl C5 Y<|Zl Fl Y ?_;refine Zv (Ab B6 Y)<|Zv (Au Y Y)<|A4<|Av Y (fun J=>?_) (fun J=>?_)
 ·
  obtain ⟨x,hx⟩:∃x,r.rows[2*k]?=some x:=⟨_,B4 A1⟩;obtain ⟨y,hy⟩:∃y,r.rows[2*k+1]?=some y:=⟨_,B4 A1⟩;obtain ⟨g,af,cur,z,Z,rfl,gy,G⟩:=Dv hr A1;injection Z with hv1 hv2 hv3
  subst hv1 hv3;obtain ⟨o9,d9⟩:=jD G hx;obtain ⟨p8,gm⟩:=jD G hy;refine AC<|Zx<|Zq<|AP<|Az (n:=16) (0::0::2::0::14::30::0::64::0::256::960::1984::4094::8190::16383::32767::[]) 24576 A6 A6 V<|A2 0 V (AQ Y)<|A2 1 V (AB (off:=0) CC V rfl C5 Y)<|B3 2 V Fl Y ?_;refine A2 3 V (AQ Y)<|A2 4 V (Ad B6 AW Y Y A1)<|E6 5 V Wh (AA (cs:=#[_,_,_,_,_]) CH AW Y A1 (by exact d9)) ?_;refine A2 6 V (AB (off:=0) CC V rfl C5 Y)<|B3 7 V Fl Y ?_;refine A2 8 V (AQ Y)<|A2 9 V (Dz (n:=1) Y Y A1)<|A2 10 V (Ad B6 AW Y Y A1)<|E6 11 V Wh (AA (cs:=#[_,_,_,_,_]) CH AW Y A1 (by exact gm)) ?_;refine A2 12 V (BK (vs:=[(0,.agg x.A16),(1,.agg y.A16)]) (cs:=#[I4 x.t,I4 x.k,I4 x.v.a,I4 x.v.b,I4 x.v.c,I4 y.t,I4 y.k,I4 y.v.a,I4 y.v.b,I4 y.v.c]) Y (AY (pl:=#[(0,5),(5,5)]) ef Tl (fun _=>by kernel_rfl) A6))<|Yw 13 16383 V (Ah (vs:=[_]) (cs:=[_,_,_,_,_,_,_,_,_,_]) Ft GC ef Y V rfl V rfl V)<|AD fun gp=>Yw 14 32767 V (BQ (by_:=80) (sz:=10) Ft (V:Tryz.prog.info? 310=some Tryz.t310) V rfl V rfl Y (I) Y (DJ 10 gp 1 1 310 (0,0) (Am [⟨x,y⟩]) V) Wo Wo (by exact Eg _) A1 A1) ?_;rintro _ _ ⟨l8,O,rfl⟩;obtain ⟨kv,j5,rfl⟩:=O.form;refine A2 15 V (Aw Y)<|Ai<|Zn [2,3,4,6,7] ?_;refine A8<|Zx<|BV<|Zg<|Zm Y<|Ya (n:=2) Y Y<|AG Y<|Zn [6,7,2,3,4] ?_;refine Aa (e':=[(6,_),(7,_)]) (by exact ⟨k+1,kv,j5,l8,rfl,⟨by omega,BR O rfl (by rw [Bh (qD hx hy),D9])⟩,rfl,rfl⟩)
 have ek:k=(Et r.rows).length:=by rw [K5];omega
 have ic:=BR I ek (by rw [ek,FF]);refine Ay<|Zt<|Zt<|AR<|Zx<|A0<|Zo Wh (AA cD Wa Y As (by exact BN V)) ?_;refine Zm Y<|Zc [_,_] Y call209 Y rfl (fE q l5 c p1 p2 e1 h2 ic (by rw [K5];omega)) ?_;rintro _ _ ⟨_,⟨lv,s5,rfl,h5,rfl⟩,rfl⟩;have e8:D8 q c r=(⟨DU (jnT q c (Et r.rows)).1,r.val,r.fnd⟩,(jnT q c (Et r.rows)).2):=by unfold D8;rw [AH X]
 have cu:=iw q c (Et r.rows);rw [K5]at cu;obtain ⟨L,hL⟩:∃L,L=(jnT q c (Et r.rows)).1:=⟨_,rfl⟩;rw [<-hL]at h5 e8 cu;obtain ⟨g5,c5,rfl⟩:=h5.form;refine Zm Y<|Zd Y V<|Zd Y V<|Za Y<|AG Y<|Zn [3,4,6,8] ?_;refine Zx<|A0<|Zh 0 CC V rfl C5 Y<|Xe (Zs C5 Y Y V (hc:=by exact (V:_=(#[.slice none 0 0,I4 r.val,.bool r.fnd]:Array Value))) (hi:=by(simp;done))) ?_;refine A4<|Zq<|Zq<|BV<|Zg<|Zm Y<|Zv (Ab Ft Y)<|Zm Y<|A4<|AP<|Zb [51,3,4,8,49,50] ?_;refine BB (e0:=[(51,_)]) (fun m e H=>∃(k:Nat) (K:Option Addr) (ck:Nat) (W:List A9),m=L.length -k/\(k<=L.length/\Bc 5 83 (.slice K (2*k) ck) (2*k) (Ae (DU (L.take k))) W)/\e=[(51,I4 (k:Int))]/\H=[[(br,.cells #[.slice K (2*k) ck,I4 r.val,.bool r.fnd] 53 (0,0))],W]) (by exact ⟨0,none,0,[],V,⟨C0 _,Bf 5 _⟩,V,V⟩) Wp ?_;rintro _ _ _ ⟨k,K,ck,W,rfl,⟨hk,I⟩,rfl,rfl⟩;refine Zq<|BV<|Zg<|Zv (Au Y Y)<|A4<|Zq<|Av Y (fun J=>?_) (fun J=>?_)
 ·
  obtain ⟨p,hp⟩:∃p,L[k]?=some p:=⟨_,B4 J⟩;obtain ⟨g,af,cur,z,Z,rfl,gy,G⟩:=Dv h5 A1;injection Z with hv1 hv2 hv3
  subst hv1 hv3;obtain ⟨o8,cO⟩:=tN G hp;refine AC<|Zx<|Zq<|AP<|Zq<|BV<|Zg<|BX (Ad Ft GC Y Y A1)<|Zo Wh (AA (cs:=#[_,_,_,_,_,_,_,_,_,_]) isAgg310 GC Y A1 (by exact cO)) ?_;refine Ze (Al ef #[_,_,_,_,_,_,_,_,_,_])<|AD fun bp=>Xe (Xw GC #[I4 p.l.t,I4 p.l.k,I4 p.l.v.a,I4 p.l.v.b,I4 p.l.v.c,I4 p.r.t,I4 p.r.k,I4 p.r.v.a,I4 p.r.v.b,I4 p.r.v.c]) ?_;refine A4<|Zg<|Zh 0 CC V rfl C5 Y<|Zl Fl Y ?_;refine Zh 0 Tl V rfl AW Y<|Zo Wh (AA (cs:=#[_,_,_,_,_]) CH AW Y As AM) ?_;refine Zh 5 Tl V rfl AW Y<|Zo Wh (AA (cs:=#[_,_,_,_,_]) CH AW Y As AM) ?_;refine Ze (Ah (vs:=[_,_]) (cs:=[_,_,_,_,_,_,_,_,_,_]) B6 AW DP Y V rfl V rfl V)<|AD fun gq=>Ze (BQ (by_:=40) (sz:=5) B6 (V:Tryz.prog.info? 83=some Tryz.t83) V rfl V rfl Y (I) Y (DJ 5 gq 2 2 83 (0,0) (Ae [p.l,p.r]) V) Wo Wo (by exact CR _) A1 A1) ?_;rintro _ _ ⟨l9,U,rfl⟩;obtain ⟨bn,ax,rfl⟩:=U.form;refine Zh 0 CC V rfl C5 Y<|Xe (Zs C5 Y Y V (hc:=by exact (V:_=(#[.slice bn (2*k+2) ax,I4 r.val,.bool r.fnd]:Array Value))) (hi:=by(simp;done))) ?_;refine Z0<|Zn [3,4,8,49,50,51] ?_;refine A8<|Zx<|BV<|Zg<|Ya (n:=1) Y Y<|Zm Y<|Z0<|Zn [51,3,4,8,49,50] ?_;refine Aa (e':=[(51,_)]) (by exact ⟨k+1,bn,ax,l9,rfl,⟨by omega,BR U rfl (by rw [SA hp,Bi])⟩,rfl,rfl⟩)
 have ek:k=L.length:=by omega
 subst ek;rw [FF]at I;refine Ay<|Zt<|Zt<|AR<|Zx<|A0<|Zo Wh (AA (cs:=#[_,_,_]) Bm Ax Y As AM) ?_;refine Zm Y<|Xe (Xw Ax _) ?_;refine A3 Y<|AJ<|Bn rfl results138 Y Wh (Ak Bm Ax Wn (rfl)) Y (by exact ⟨.slice K (2*L.length) ck,W,by rw [e8];rfl,by rw [e8];exact BR I (I1 L).symm rfl,rfl⟩)
def Bu(q:QM)(c:Chg)(r:CF):CF×Bool:=
 if q.kd=1\/q.kd=2 then(⟨Dx q c r.rows,r.val,r.fnd⟩,true)
 else if q.kd=3 then(⟨r.rows,if(afQ q c).isSome then r.val+1 else r.val -1,r.fnd⟩,true)
 else if q.kd=4 then(⟨r.rows,r.val+(mQ q (afQ q c) -mQ q (bfQ q c)),r.fnd⟩,true)
 else if q.kd=5 then GX (fun a b=>decide (a<b)) (bfQ q c).isSome (afQ q c).isSome (mQ q (bfQ q c)) (mQ q (afQ q c)) r
 else if q.kd=6 then GX (fun a b=>decide (b<a)) (bfQ q c).isSome (afQ q c).isSome (mQ q (bfQ q c)) (mQ q (afQ q c)) r
 else D8 q c r
theorem dX(q:QM)(c:Chg)(r:CF):(Bu q c r).1.rows.length<=r.rows.length+2:=by
 have h:=UJ q c r.rows;unfold Bu;split
 · exact N1 h (Nat.le_succ _)
 · split
   · exact e6 _ _
   · split
     · exact e6 _ _
     · split
       · rw [Mg];exact e6 _ _
       · split
         · rw [Mg];exact e6 _ _
         · exact dZ q c r
set_option maxHeartbeats 1000000 in
theorem VM(q:QM)(c:Chg)(I J:Option Addr)(o n:Int)(r:CF)(pv:Option Addr)(Z O b G:Nat)(lt:Int->Int->Bool)(g:∀(args:Array Value) (w:World),(callFunc G args).run prog w= .ok (.enter G args) w)(m:∀x y:Int,BJ prog G #[I4 x,I4 y] [] (.bool (lt x y))):BJ prog 208 #[.agg (q.G0 c I J o n),.agg #[.slice pv Z O,I4 r.val,.bool r.fnd],I5 b] [[(b,.cells #[.func (.func G) #[] #[]] 73 (0,0))]] (.tuple #[.agg #[.slice pv Z O,I4 (GX lt I.isSome J.isSome o n r).1.val,.bool (GX lt I.isSome J.isSome o n r).1.fnd],.bool (GX lt I.isSome J.isSome o n r).2]):=by
 refine Se func208 ntmps208 [0,1,2] ?_;intro u R;refine A0<|Ze (Eo Y (cs:=(q.G0 c I J o n)) (G6 q c I J o n))<|AD fun be=>Ze (Bx #[.slice pv Z O,I4 r.val,.bool r.fnd])<|AD fun br=>Ze (Al G4 #[_,_,_])<|AD fun b3=>A3 Y<|Zq<|A0<|Zh 17 D3 V rfl ID Y<|Zl Lo Y ?_;refine Zv (El S1 Y Y)<|Zm Y<|Af (t:=11) Y V (fun h1=>?_) (fun h1=>?_)
 ·
  refine Yf 2 CC V rfl CD Y<|Yl E4 Y ?_;refine Yg (Br Y)<|Zf Y Y ?_;refine Af (t:=15) Y V (fun h2=>?_) (fun h2=>?_)
  ·
   repeat refine A7 Y rfl ?_
   refine Yg (AX Y Y)<|Zv (AX Y Y)<|Z0<|Zn [2,3,4,5,24] ?_;refine Zx<|Cn Y<|A0<|Zh 18 D3 V rfl ID Y<|Zl Lo Y ?_;refine Zv (El S1 Y Y)<|Zm Y<|Af (t:=28) Y V (fun h4=>?_) (fun h4=>?_)
   ·
    refine Yf 2 CC V rfl CD Y<|Yl E4 Y ?_;refine Zv (AX Y Y)<|Zm Y<|Af (t:=32) Y V (fun K=>?_) (fun K=>?_)
    ·
     refine Yl isAgg73 Y ?_;refine Yf 1 CC V rfl A5 Y<|Yl AE Y ?_;refine Yf 20 D3 V rfl A5 Y<|Yl AE Y ?_;refine Xr [_,_] Y (g) Y V (m (r.val) (n)) ?_;refine Yg (Br Y)<|Zv (AX Y Y)<|AG Y<|Zn [3,4,5,7] ?_;refine Zx<|A0<|Zh 20 D3 V rfl A5 Y<|Zl AE Y ?_;refine Zh 1 CC V rfl A5 Y<|Xe (Zs A5 Y Y V (hi:=by(simp;done))) ?_;refine A4<|A0<|Zo Wh (AA (cs:=#[_,_,_]) Bm Ax Y As AM) ?_;refine Zm Y<|Xe (Xw Ax _) ?_;refine A3 Y<|AJ<|Zt<|Bn V Q1 Y Wh (Ak Bm Ax Wn (V)) Y (by
      refine ⟨?_,V⟩;unfold GX;simp_all<;>rfl)
    repeat refine A7 Y rfl ?_
    refine Zv (AL Y Y)<|AG Y<|Zn [3,4,5,7] ?_;refine Zx<|A0<|Zh 20 D3 V rfl A5 Y<|Zl AE Y ?_;refine Zh 1 CC V rfl A5 Y<|Xe (Zs A5 Y Y V (hi:=by(simp;done))) ?_;refine A4<|A0<|Zo Wh (AA (cs:=#[_,_,_]) Bm Ax Y As AM) ?_;refine Zm Y<|Xe (Xw Ax _) ?_;refine A3 Y<|AJ<|Zt<|Bn V Q1 Y Wh (Ak Bm Ax Wn (V)) Y (by
     refine ⟨?_,V⟩;unfold GX;simp_all<;>rfl)
   repeat first|refine A7 Y rfl ?_|refine Zv (AL Y Y)<|Zm Y ?_
   refine Zv (AL Y Y)<|AG Y<|Zn [3,4,5,7] ?_;refine Zx<|A0<|Zh 20 D3 V rfl A5 Y<|Zl AE Y ?_;refine Zh 1 CC V rfl A5 Y<|Xe (Zs A5 Y Y V (hi:=by(simp;done))) ?_;refine A4<|A0<|Zo Wh (AA (cs:=#[_,_,_]) Bm Ax Y As AM) ?_;refine Zm Y<|Xe (Xw Ax _) ?_;refine A3 Y<|AJ<|Zt<|Bn V Q1 Y Wh (Ak Bm Ax Wn (V)) Y (by
    refine ⟨?_,V⟩;unfold GX;simp_all<;>rfl)
  refine Yl isAgg73 Y ?_;refine Yf 1 CC V rfl A5 Y<|Yl AE Y ?_;refine Yf 19 D3 V rfl A5 Y<|Yl AE Y ?_;refine Xr [_,_] Y (g) Y V (m (r.val) (o)) ?_;refine Yg (Br Y)<|Yg (AL Y Y)<|Zv (AX Y Y)<|Z0<|Zn [2,3,4,5,24] ?_;refine Zx<|AV Y (fun h3=>?_) (fun h3=>?_)
  ·
   refine A0<|Zh 18 D3 V rfl ID Y<|Zl Lo Y ?_;refine Zv (El S1 Y Y)<|Zm Y<|Af (t:=28) Y V (fun K=>?_) (fun K=>?_)
   ·
    refine Yf 2 CC V rfl CD Y<|Yl E4 Y ?_;refine Zv (AX Y Y)<|Zm Y<|Af (t:=32) Y V (fun K=>?_) (fun K=>?_)
    ·
     refine Yl isAgg73 Y ?_;refine Yf 1 CC V rfl A5 Y<|Yl AE Y ?_;refine Yf 20 D3 V rfl A5 Y<|Yl AE Y ?_;refine Xr [_,_] Y (g) Y V (m (r.val) (n)) ?_;refine Yg (Br Y)<|Zv (AX Y Y)<|AG Y<|Zn [3,4,5,7] ?_;refine Zx<|A0<|Zh 20 D3 V rfl A5 Y<|Zl AE Y ?_;refine Zh 1 CC V rfl A5 Y<|Xe (Zs A5 Y Y V (hi:=by(simp;done))) ?_;refine A4<|A0<|Zo Wh (AA (cs:=#[_,_,_]) Bm Ax Y As AM) ?_;refine Zm Y<|Xe (Xw Ax _) ?_;refine A3 Y<|AJ<|Zt<|Bn V Q1 Y Wh (Ak Bm Ax Wn (V)) Y (by
      refine ⟨?_,V⟩;unfold GX;simp_all<;>rfl)
    repeat refine A7 Y rfl ?_
    refine Zv (AL Y Y)<|AG Y<|Zn [3,4,5,7] ?_;refine Zx<|A0<|Zh 20 D3 V rfl A5 Y<|Zl AE Y ?_;refine Zh 1 CC V rfl A5 Y<|Xe (Zs A5 Y Y V (hi:=by(simp;done))) ?_;refine A4<|A0<|Zo Wh (AA (cs:=#[_,_,_]) Bm Ax Y As AM) ?_;refine Zm Y<|Xe (Xw Ax _) ?_;refine A3 Y<|AJ<|Zt<|Bn V Q1 Y Wh (Ak Bm Ax Wn (V)) Y (by
     refine ⟨?_,V⟩;unfold GX;simp_all<;>rfl)
   repeat first|refine A7 Y rfl ?_|refine Zv (AL Y Y)<|Zm Y ?_
   refine Zv (AL Y Y)<|AG Y<|Zn [3,4,5,7] ?_;refine Zx<|A0<|Zh 20 D3 V rfl A5 Y<|Zl AE Y ?_;refine Zh 1 CC V rfl A5 Y<|Xe (Zs A5 Y Y V (hi:=by(simp;done))) ?_;refine A4<|A0<|Zo Wh (AA (cs:=#[_,_,_]) Bm Ax Y As AM) ?_;refine Zm Y<|Xe (Xw Ax _) ?_;refine A3 Y<|AJ<|Zt<|Bn V Q1 Y Wh (Ak Bm Ax Wn (V)) Y (by
    refine ⟨?_,V⟩;unfold GX;simp_all<;>rfl)
  refine AC<|Zx<|Zq<|A0<|Zh 18 D3 V rfl ID Y<|Zl Lo Y ?_;refine Zv (El S1 Y Y)<|A4<|AV Y (fun U=>?_) (fun U=>?_)
  ·
   refine Zq<|A0<|Zh 2 CC V rfl CD Y<|Zl E4 Y ?_;refine Zv (Br Y)<|Zm Y<|Af (t:=52) Y V (fun W=>?_) (fun W=>?_)
   ·
    repeat refine A7 Y rfl ?_
    refine Zv (AX Y Y)<|Z0<|Zn [3,4,5,59] ?_;refine Zx<|Cn Y<|Zg<|Zh 20 D3 V rfl A5 Y<|Zl AE Y ?_;refine Zh 1 CC V rfl A5 Y<|Xe (Zs A5 Y Y V (hi:=by(simp;done))) ?_;refine A4<|Zg<|Zh 2 CC V rfl CD Y<|Xe (Zs CD Y Y V (hi:=by(simp;done))) ?_;refine A4<|A0<|Zo Wh (AA (cs:=#[_,_,_]) Bm Ax Y As AM) ?_;refine Xe (Xw Ax _) ?_;refine A3 Y<|AJ<|Bn V Q1 Y Wh (Ak Bm Ax Wn (V)) Y (by
     refine ⟨?_,V⟩;unfold GX;simp_all<;>rfl)
   refine Yl isAgg73 Y ?_;refine Yf 20 D3 V rfl A5 Y<|Yl AE Y ?_;refine Yf 1 CC V rfl A5 Y<|Yl AE Y ?_;refine Xr [_,_] Y (g) Y V (m (n) (r.val)) ?_;refine Zv (AL Y Y)<|Z0<|Zn [3,4,5,59] ?_;refine Zx<|AV Y (fun X=>?_) (fun X=>?_)
   ·
    refine Zg<|Zh 20 D3 V rfl A5 Y<|Zl AE Y ?_;refine Zh 1 CC V rfl A5 Y<|Xe (Zs A5 Y Y V (hi:=by(simp;done))) ?_;refine A4<|Zg<|Zh 2 CC V rfl CD Y<|Xe (Zs CD Y Y V (hi:=by(simp;done))) ?_;refine A4<|A0<|Zo Wh (AA (cs:=#[_,_,_]) Bm Ax Y As AM) ?_;refine Xe (Xw Ax _) ?_;refine A3 Y<|AJ<|Bn V Q1 Y Wh (Ak Bm Ax Wn (V)) Y (by
     refine ⟨?_,V⟩;unfold GX;simp_all<;>rfl)
   refine AC<|Zx<|Zg<|Zh 2 CC V rfl CD Y<|Xe (Zs CD Y Y V (hi:=by(simp;done))) ?_;refine A4<|A0<|Zo Wh (AA (cs:=#[_,_,_]) Bm Ax Y As AM) ?_;refine Xe (Xw Ax _) ?_;refine A3 Y<|AJ<|Bn V Q1 Y Wh (Ak Bm Ax Wn (V)) Y (by
    refine ⟨?_,V⟩;unfold GX;simp_all<;>rfl)
  refine AC<|Zx<|A0<|Zo Wh (AA (cs:=#[_,_,_]) Bm Ax Y As AM) ?_;refine Xe (Xw Ax _) ?_;refine A3 Y<|AJ<|Bn V Q1 Y Wh (Ak Bm Ax Wn (V)) Y (by
   refine ⟨?_,V⟩;unfold GX;simp_all<;>rfl)
 repeat refine A7 Y rfl ?_
 refine Zv (AL Y Y)<|Z0<|Zn [2,3,4,5,24] ?_;refine Zx<|D5 Y<|AC<|Zx<|Zq<|A0<|Zh 18 D3 V rfl ID Y<|Zl Lo Y ?_;refine Zv (El S1 Y Y)<|A4<|AV Y (fun U=>?_) (fun U=>?_)
 ·
  refine Zq<|A0<|Zh 2 CC V rfl CD Y<|Zl E4 Y ?_;refine Zv (Br Y)<|Zm Y<|Af (t:=52) Y V (fun W=>?_) (fun W=>?_)
  ·
   repeat refine A7 Y rfl ?_
   refine Zv (AX Y Y)<|Z0<|Zn [3,4,5,59] ?_;refine Zx<|Cn Y<|Zg<|Zh 20 D3 V rfl A5 Y<|Zl AE Y ?_;refine Zh 1 CC V rfl A5 Y<|Xe (Zs A5 Y Y V (hi:=by(simp;done))) ?_;refine A4<|Zg<|Zh 2 CC V rfl CD Y<|Xe (Zs CD Y Y V (hi:=by(simp;done))) ?_;refine A4<|A0<|Zo Wh (AA (cs:=#[_,_,_]) Bm Ax Y As AM) ?_;refine Xe (Xw Ax _) ?_;refine A3 Y<|AJ<|Bn V Q1 Y Wh (Ak Bm Ax Wn (V)) Y (by
    refine ⟨?_,V⟩;unfold GX;simp_all<;>rfl)
  refine Yl isAgg73 Y ?_;refine Yf 20 D3 V rfl A5 Y<|Yl AE Y ?_;refine Yf 1 CC V rfl A5 Y<|Yl AE Y ?_;refine Xr [_,_] Y (g) Y V (m (n) (r.val)) ?_;refine Zv (AL Y Y)<|Z0<|Zn [3,4,5,59] ?_;refine Zx<|AV Y (fun X=>?_) (fun X=>?_)
  ·
   refine Zg<|Zh 20 D3 V rfl A5 Y<|Zl AE Y ?_;refine Zh 1 CC V rfl A5 Y<|Xe (Zs A5 Y Y V (hi:=by(simp;done))) ?_;refine A4<|Zg<|Zh 2 CC V rfl CD Y<|Xe (Zs CD Y Y V (hi:=by(simp;done))) ?_;refine A4<|A0<|Zo Wh (AA (cs:=#[_,_,_]) Bm Ax Y As AM) ?_;refine Xe (Xw Ax _) ?_;refine A3 Y<|AJ<|Bn V Q1 Y Wh (Ak Bm Ax Wn (V)) Y (by
    refine ⟨?_,V⟩;unfold GX;simp_all<;>rfl)
  refine AC<|Zx<|Zg<|Zh 2 CC V rfl CD Y<|Xe (Zs CD Y Y V (hi:=by(simp;done))) ?_;refine A4<|A0<|Zo Wh (AA (cs:=#[_,_,_]) Bm Ax Y As AM) ?_;refine Xe (Xw Ax _) ?_;refine A3 Y<|AJ<|Bn V Q1 Y Wh (Ak Bm Ax Wn (V)) Y (by
   refine ⟨?_,V⟩;unfold GX;simp_all<;>rfl)
 refine AC<|Zx<|A0<|Zo Wh (AA (cs:=#[_,_,_]) Bm Ax Y As AM) ?_;refine Xe (Xw Ax _) ?_;refine A3 Y<|AJ<|Bn V Q1 Y Wh (Ak Bm Ax Wn (V)) Y (by
  refine ⟨?_,V⟩;unfold GX;simp_all<;>rfl)
theorem rP(x y:Int):BJ prog 134 #[I4 x,I4 y] [] (.bool (decide (x<y))):=by
 refine Se func134 ntmps134 [0,1] ?_;intro u R;refine A0<|A3 Y<|A0<|Zm Y<|Zm Y<|Zv (Dq Y Y)<|A3 Y<|AJ<|AO V results134 Y (by exact ⟨V,V⟩)
theorem rR(x y:Int):BJ prog 136 #[I4 x,I4 y] [] (.bool (decide (y<x))):=by
 refine Se func136 ntmps136 [0,1] ?_;intro u R;refine A0<|A3 Y<|A0<|Zm Y<|Zm Y<|Zv (Ep Y Y)<|A3 Y<|AJ<|AO V results136 Y (by exact ⟨V,V⟩)
def GV(k:Int):Nat:=if k=1 then 127 else if k=2 then 127 else if k=3 then 129 else if k=4 then 131 else if k=5 then 208 else if k=6 then 208 else 138
def IZ(b5 b6:Nat)(k:Int):List Value:=if k=5 then [I5 b5]else if k=6 then [I5 b6]else []
theorem Vf{lm:List (Int×Value)}{g m:Nat}(h:∀p,p∈lm↔p∈Lu g m)(G:(lm.map (·.1)).Nodup){k:Int}(I:1<=k/\k<=7):EF k lm=some (.agg #[.func (.func (H7 k)) #[] #[],.func (.func (GV k)) #[] (IZ g m k).toArray]):=by
 obtain h9|h9|h9|h9|h9|h9|h9:k=1\/k=2\/k=3\/k=4\/k=5\/k=6\/k=7:=by omega
 all_goals subst h9
 all_goals exact Z6 h G (by simp [Lu,H7,GV,IZ])
theorem KW{k:Int}(g:1<=k/\k<=7):∀(args:Array Value) (w:World),(callFunc (GV k) args).run prog w= .ok (.enter (GV k) args) w:=by
 obtain h|h|h|h|h|h|h:k=1\/k=2\/k=3\/k=4\/k=5\/k=6\/k=7:=by omega
 all_goals (subst h;simp only [GV];first|exact call127|exact call129|exact call131|exact call208|exact call138)
theorem Hw{P:Program}{f:FuncId}{args:Array Value}{H H1:Hp}{Q G:Value->Hp->Prop}(h:Ba P f args H Q)(F:Hp)(O:H1.flatten.Perm (H++F).flatten)(U:∀v H',Q v H'->∃g E,G v g/\(H'.flatten++F.flatten).Perm (g.flatten++E)):Ba P f args H1 G:=fun u R w W=>
 Calls.mono (h u (F++R) w (W.perm (by rw [GP,<-CA,GP (L₁:=H++F)];exact O.append_right _))) fun e X K=>by
  rcases K with⟨v,H',rfl,m,h2⟩|⟨ch,H',rfl,m,h2⟩
  · obtain ⟨g,E,I,J⟩:=U v H' m
    refine .inl ⟨v,g,V,I,h2.sub ⟨E,?_⟩⟩;rw [GP,GP,GP,<-CA];refine (J.append_right _).trans ?_;rw [CA,CA];exact LO.append_left _
  · exact m.elim
def MIn(q:QM)(c:Chg):Prop:=(-1000000000<=mQ q (bfQ q c)/\mQ q (bfQ q c)<=1000000000)/\-1000000000<=mQ q (afQ q c)/\mQ q (afQ q c)<=1000000000
theorem xz{b:Bool}{x:AU}(h:b=true->x.ok):-1000000000<=mQ q (Ho q b x)/\mQ q (Ho q b x)<=1000000000:=by
 unfold Ho;split
 · rename_i h9
   rw [Fo]at h9;exact WQ (h h9.1) q.bq
 · exact ⟨by show(-1000000000:Int)<=0;decide,by show(0:Int)<=1000000000;decide⟩
theorem rE(q:QM)(h:c.ok):MIn q c:=by
 obtain ⟨_,h2,_⟩:=h;refine ⟨xz fun g=>?_,xz fun g=>?_⟩
 · rw [PK g]at h2
   exact HS.1 fun m=>h2 (.inl ⟨g,m⟩)
 · rw [Kr g]at h2
   exact HS.1 fun m=>h2 (.inr ⟨g,m⟩)
theorem Ke(q:QM)(c:Chg)(hq:BI q)(hm:MIn q c){O U:Option Addr}{s1:List A9}(ax:Ib O (bfQ q c) s1)(W:Ib U (afQ q c) s2)(g m:Nat)(r:CF)(pv:Option Addr)(X:Nat)(I:List A9)(Z:Bc 5 83 (.slice pv r.rows.length X) r.rows.length (Ae r.rows) I)(hn:r.rows.length<=100000000)(hv:-4000000000000000000<=r.val/\r.val<=4000000000000000000):
 Ba prog (GV q.kd) (.agg (q.G0 c O U (mQ q (bfQ q c)) (mQ q (afQ q c))):: .agg #[.slice pv r.rows.length X,I4 r.val,.bool r.fnd]::IZ g m q.kd).toArray [I,s2,[(g,.cells #[.func (.func 134) #[] #[]] 73 (0,0))],[(m,.cells #[.func (.func 136) #[] #[]] 73 (0,0))]] (fun w H'=>∃G K,w= .tuple #[.agg #[G,I4 (Bu q c r).1.val,.bool (Bu q c r).1.fnd],.bool (Bu q c r).2]/\Bc 5 83 G (Bu q c r).1.rows.length (Ae (Bu q c r).1.rows) K/\H'=[K]):=by
 have e1:=ax.some_;have e2:=W.some_
 have af:=hq.2.1;have hk:q.kd=1\/q.kd=2\/q.kd=3\/q.kd=4\/q.kd=5\/q.kd=6\/q.kd=7:=by have:=hq.2.2.2;omega
 have J:(q.kd=1\/q.kd=2)->Bu q c r=(⟨Dx q c r.rows,r.val,r.fnd⟩,true):=fun h=>by unfold Bu;rw [AK h]
 have P1:=dJ q c O U (mQ q (bfQ q c)) (mQ q (afQ q c)) af Z hn W;have P7:=dP q af c O U e1 W Z hn
 have P3:=YX q c O U (mQ q (bfQ q c)) (mQ q (afQ q c)) pv r.rows.length X hv;have P4:=kF q c O U (mQ q (bfQ q c)) (mQ q (afQ q c)) pv r.rows.length X hv hm
 have P5:=VM q c O U (mQ q (bfQ q c)) (mQ q (afQ q c)) r pv r.rows.length X g 134 (fun a b=>decide (a<b)) call134 rP;have P6:=VM q c O U (mQ q (bfQ q c)) (mQ q (afQ q c)) r pv r.rows.length X m 136 (fun a b=>decide (b<a)) call136 rR
 rw [e2]at P3;rw [e1,e2]at P5 P6;rcases hk with h|h|h|h|h|h|h
 · rw [show GV q.kd=127 by rw [h];rfl,show IZ g m q.kd=[] by rw [h];rfl,J (.inl h)]
   refine Hw P1 [[(g,.cells #[.func (.func 134) #[] #[]] 73 (0,0))],[(m,.cells #[.func (.func 136) #[] #[]] 73 (0,0))]] B0 ?_;rintro w H' ⟨G,K,rfl,h3,rfl⟩;exact ⟨[K],_,⟨G,K,V,h3,V⟩,by simp;exact .refl _⟩
 · rw [show GV q.kd=127 by rw [h];rfl,show IZ g m q.kd=[] by rw [h];rfl,J (.inr h)]
   refine Hw P1 [[(g,.cells #[.func (.func 134) #[] #[]] 73 (0,0))],[(m,.cells #[.func (.func 136) #[] #[]] 73 (0,0))]] B0 ?_;rintro w H' ⟨G,K,rfl,h3,rfl⟩;exact ⟨[K],_,⟨G,K,V,h3,V⟩,by simp;exact .refl _⟩
 · rw [show GV q.kd=129 by rw [h];rfl,show IZ g m q.kd=[] by rw [h];rfl,show Bu q c r=(⟨r.rows,if(afQ q c).isSome then r.val+1 else r.val -1,r.fnd⟩,true) by unfold Bu;rw [AH A1,AK h]]
   refine Hw P3 [I,s2,[(g,.cells #[.func (.func 134) #[] #[]] 73 (0,0))],[(m,.cells #[.func (.func 136) #[] #[]] 73 (0,0))]] B0 ?_;rintro w H' ⟨rfl,rfl⟩;exact ⟨[I],_,⟨_,I,V,Z,V⟩,by simp;exact .refl _⟩
 · rw [show GV q.kd=131 by rw [h];rfl,show IZ g m q.kd=[] by rw [h];rfl,show Bu q c r=(⟨r.rows,r.val+(mQ q (afQ q c) -mQ q (bfQ q c)),r.fnd⟩,true) by unfold Bu;rw [AH A1,AH A1,AK h]]
   refine Hw P4 [I,s2,[(g,.cells #[.func (.func 134) #[] #[]] 73 (0,0))],[(m,.cells #[.func (.func 136) #[] #[]] 73 (0,0))]] B0 ?_;rintro w H' ⟨rfl,rfl⟩;exact ⟨[I],_,⟨_,I,V,Z,V⟩,by simp;exact .refl _⟩
 · have e9:Bu q c r=GX (fun a b=>decide (a<b)) (bfQ q c).isSome (afQ q c).isSome (mQ q (bfQ q c)) (mQ q (afQ q c)) r:=by unfold Bu;rw [AH A1,AH A1,AH A1,AK h]
   have e8:(Bu q c r).1.rows=r.rows:=by rw [e9,Mg]
   rw [show GV q.kd=208 by rw [h];rfl,show IZ g m q.kd=[I5 g] by rw [h];rfl];rw [<-e9]at P5;refine Hw P5 [I,s2,[(m,.cells #[.func (.func 136) #[] #[]] 73 (0,0))]] (by simp;rw [<-CA,<-CA];exact RR) ?_;rintro w H' ⟨rfl,rfl⟩;exact ⟨[I],[(g,_)]++s2++_,⟨_,I,rfl,by rw [e8];exact Z,rfl⟩,by simp;exact RR.symm⟩
 · have e9:Bu q c r=GX (fun a b=>decide (b<a)) (bfQ q c).isSome (afQ q c).isSome (mQ q (bfQ q c)) (mQ q (afQ q c)) r:=by unfold Bu;rw [AH A1,AH A1,AH A1,AH A1,AK h]
   have e8:(Bu q c r).1.rows=r.rows:=by rw [e9,Mg]
   rw [show GV q.kd=208 by rw [h];rfl,show IZ g m q.kd=[I5 m] by rw [h];rfl];rw [<-e9]at P6;refine Hw P6 [I,s2,[(g,.cells #[.func (.func 134) #[] #[]] 73 (0,0))]] (by simp;rw [<-CA,<-CA];exact ((List.Perm.swap _ _ []).append_left _).trans RR) ?_;rintro w H' ⟨rfl,rfl⟩;exact ⟨[I],[(m,_)]++s2++_,⟨_,I,rfl,by rw [e8];exact Z,rfl⟩,by simp;exact RR.symm⟩
 · rw [show GV q.kd=138 by rw [h];rfl,show IZ g m q.kd=[] by rw [h];rfl,show Bu q c r=D8 q c r by unfold Bu;rw [AH A1,AH A1,AH A1,AH A1,AH A1]]
   refine Hw P7 [[(g,.cells #[.func (.func 134) #[] #[]] 73 (0,0))],[(m,.cells #[.func (.func 136) #[] #[]] 73 (0,0))]] B0 ?_;rintro w H' ⟨G,K,rfl,h3,rfl⟩;exact ⟨[K],_,⟨G,K,V,h3,V⟩,by simp;exact .refl _⟩
def Df(q:QM)(c:Chg):Bool:=decide c.ok&&Ce q c
def D6(q:QM)(c:Chg)(r:CF):CF×Bool:=if Df q c then(if(Bu q c r).2 then((Bu q c r).1,true)else(CF.none,false))else(r,true)
def Ha(q:QM)(r:CF):List Chg->Option CF
 |[]=>some r
 |c::cs=>if(D6 q c r).2 then Ha q (D6 q c r).1 cs else none
theorem Rz(q:QM):∀(a:List Chg) (r:CF) (b:List Chg),Ha q r (a++b)=(Ha q r a).bind fun g=>Ha q g b
 |[],_,_=>rfl
 |c::a,r,b=>by
  show(if(D6 q c r).2 then Ha q (D6 q c r).1 (a++b)else none)=(if(D6 q c r).2 then Ha q (D6 q c r).1 a else none).bind fun g=>Ha q g b;split
  · exact Rz q a _ b
  · rfl
def BZ(q:QM)(r:CF)(cs:List Chg):CF×Bool×Bool:=match Ha q r cs with
 |some r'=>(r',cs.any (Df q),true)
 |none=>(CF.none,true,false)
theorem jb(q:QM)(c:Chg)(r:CF):(D6 q c r).1.rows.length<=r.rows.length+2:=by
 have h:=dX q c r;unfold D6;split
 · split
   · exact h
   · exact C0 _
 · exact e6 _ _
theorem dW(m:MIn q c){B:Int}(h:-B<=r.val/\r.val<=B)(h0:0<=B):-(B+2000000000)<=(Bu q c r).1.val/\(Bu q c r).1.val<=B+2000000000:=by
 obtain ⟨⟨G,h2⟩,I,J⟩:=m;have g:∀lt b a,-(B+2000000000)<=(GX lt b a (mQ q (bfQ q c)) (mQ q (afQ q c)) r).1.val/\(GX lt b a (mQ q (bfQ q c)) (mQ q (afQ q c)) r).1.val<=B+2000000000:=fun lt b a=>by
  unfold GX;split
  · constructor<;>(simp only;omega)
  · split
    · simp only
      split<;>(constructor<;>omega)
    · constructor<;>(simp only;omega)
 unfold Bu;split
 · constructor<;>(simp only;omega)
 · split
   · simp only
     split<;>(constructor<;>omega)
   · split
     · constructor<;>(simp only;omega)
     · split
       · exact g _ _ _
       · split
         · exact g _ _ _
         · rw [dY];constructor<;>omega
theorem ja{B:Int}(h:-B<=r.val/\r.val<=B)(h0:0<=B):-(B+2000000000)<=(D6 q c r).1.val/\(D6 q c r).1.val<=B+2000000000:=by
 unfold D6;split
 · rename_i h9
   unfold Df at h9;rw [Fo]at h9;split
   · exact dW (rE q (HP h9.1)) h h0
   · constructor<;>(simp only [CF.none];omega)
 · constructor<;>(simp only;omega)
variable{cs:List Chg}
theorem Jt{g:CF}{x:Chg}(h:Ha q r (cs.take k)=some g)(m:cs[k]?=some x):Ha q r (cs.take (k+1))=if(D6 q x g).2 then some (D6 q x g).1 else none:=by
 rw [Bh m,Rz,h];show Ha q g [x]=_
 unfold Ha Ha;rfl
theorem Ph(h:Ha q r (cs.take k)=none):Ha q r cs=none:=by
 rw [<-Hx k cs,Rz,h];rfl
theorem Vy{x:Chg}(f:Chg->Bool)(g:cs[k]?=some x):(cs.take (k+1)).any f=((cs.take k).any f||f x):=by
 rw [Bh g,nn,kj,kl,eE]
theorem Wd{q:QM}:∀(cs:List Chg) (r r':CF) (B:Int) (n:Nat),Ha q r cs=some r'->(-B<=r.val/\r.val<=B)->0<=B->r.rows.length<=n->(-(B+2000000000*(cs.length:Int))<=r'.val/\r'.val<=B+2000000000*(cs.length:Int))/\r'.rows.length<=n+2*cs.length
 |[],r,r',B,n,h,h1,h2,h3=>by
  unfold Ha at h;injection h with h
  subst h;simp only [It];exact ⟨⟨by omega,by omega⟩,h3⟩
 |c::cs,r,r',B,n,h,h1,h2,h3=>by
  unfold Ha at h;split at h
  · have g:=ja (q:=q) (c:=c) h1 h2
    have G:=jb q c r;have m:=Wd cs _ r' (B+2000000000) (n+2) h g A1 A1
    rw [DE];obtain ⟨⟨I,J⟩,K⟩:=m;refine ⟨⟨?_,?_⟩,by omega⟩<;>(push_cast;omega)
  · cases h
set_option maxHeartbeats 1000000 in
theorem Sd(q:QM)(g:BI q)(c:Chg)(hr:E8 A rv r.rows)(hn:r.rows.length<=100000000)(hv:-4000000000000000000<=r.val/\r.val<=4000000000000000000):Ba prog 110 #[.agg q.A17,.agg #[rv,I4 r.val,.bool r.fnd],.agg c.A15] [A] (fun w H'=>∃bn s',w= .tuple #[.agg #[bn,I4 (D6 q c r).1.val,.bool (D6 q c r).1.fnd],.bool (D6 q c r).2]/\Bc 5 83 bn (D6 q c r).1.rows.length (Ae (D6 q c r).1.rows) s'/\H'=[s',A]):=by
 have d9:=mL;obtain ⟨pv,cv,rfl,_⟩:=id hr;refine Se func110 ntmps110 [0,1,2] ?_;intro u R;refine A0<|Ze (Bx q.A17)<|AD fun bq=>Ze (Bx #[.slice pv r.rows.length cv,I4 r.val,.bool r.fnd])<|AD fun br=>Ze (Bx c.A15)<|AD fun bc=>Ze (Al G4 #[_,_,_])<|AD fun bo=>A3 Y<|A0<|Zh 0 CC V rfl C5 Y<|Zl Fl Y ?_;refine Zc [_] Y call109 Y V (Gd hr A1) ?_;rintro _ _ ⟨_,⟨s1,h1,rfl⟩,rfl⟩;obtain ⟨g1,c1,rfl⟩:=h1.form;refine Zh 0 CC V rfl C5 Y<|Xe (Zs C5 Y Y V (hi:=by(simp;done))) ?_;refine A4<|Zq<|A0<|Zo Wh (AA (cs:=#[_,_,_,_,_,_,_]) Dg C7 Y As AM) ?_;refine Zo Wh (AA (cs:=#[_,_,_,_,_,_,_,_,_,_]) Fk C1 Y As AM) ?_;refine Xr [_,_] Y call22 Y V (Im q c) ?_;rw [show(decide (BI q)&&(decide c.ok&&Ce q c))=Df q c by rw [DA g];rfl];refine Zv (Br Y)<|Z0<|Zn [3,4,5,6,17] ?_;refine Zx<|AV Y (fun ht=>?_) (fun ht=>?_)
 ·
  have I:Df q c=false:=by simpa using ht
  refine A0<|Zo Wh (AA (cs:=#[_,_,_]) Bm Ax Y As AM) ?_;refine Xe (Xw Ax _) ?_;refine A3 Y<|AJ<|Zt<|Bn V results110 Y Wh (Ak Bm Ax Wn (V)) Y (by
   have e9:D6 q c r=(r,true):=by unfold D6;rw [I];rfl
   exact ⟨.slice g1 r.rows.length c1,s1,by rw [e9];rfl,by rw [e9];exact h1,rfl⟩)
 have I:Df q c=true:=by simpa using ht
 have Z:c.ok:=by unfold Df at I;rw [Fo]at I;exact HP I.1
 refine AC<|Zx<|Zb [3,4,5,6] ?_;refine D7 (e0:=[(3,_),(4,_),(5,_)]) (H0:=[s1]) (fun e H=>∃(W:Nat) (G:Option Addr) (m:Nat) (U:List A9),(Bc 5 83 (.slice G (Bu q c r).1.rows.length m) (Bu q c r).1.rows.length (Ae (Bu q c r).1.rows) U)/\e=[(8,I5 W),(9,.bool (Bu q c r).2)]/\H=[[(W,.cells #[.slice G (Bu q c r).1.rows.length m,I4 (Bu q c r).1.val,.bool (Bu q c r).1.fnd] 53 (0,0))],U]) Wp ?hx_2 ?hy_2
 case hx_2=>
  refine Az (n:=16) (0::0::2::7::15::0::0::97::0::511::1023::2047::2047::0::12287::32767::[]) 25217 A6 A6 V<|A2 1 V (AB (off:=0) C6 V rfl A5 Y)<|B3 2 V AE Y ?_;refine E6 5 V Wh (AA (cs:=#[_,_,_,_,_,_,_]) Dg C7 Y As AM) ?_;refine E6 6 V Wh (AA (cs:=#[_,_,_,_,_,_,_,_,_,_]) Fk C1 Y As AM) ?_;refine E6 8 V Wh (AA (cs:=#[_,_,_]) Bm Ax Y As AM) ?_;refine Zz (l:=[0,13])<|B1 [true,true,true,true] [(8,(_,_)),(6,(_,_)),(5,(_,_)),(2,(_,_))] V rfl (Zw [] Y call68 Y V (Ng)) ?_ Bv ?_
  ·
   rintro _ _ ⟨_,⟨mb,es,ck,lm,b5,b6,rfl,hm,hp,rfl⟩,rfl⟩;refine ⟨Zk (Zk (Zk (Zk (AZ)))),?_⟩;have X:=Vf hp hm.keys g.kind
   refine E6 3 rfl Wh (Dj Hr W6 WD hm (fun _ _=>trivial) (trivial) ((by rw [X];exact rfl:_=Value.agg #[.func (.func (H7 q.kd)) #[] #[],.func (.func (GV q.kd)) #[] (IZ b5 b6 q.kd).toArray])) Y Y) ?_;refine A2 4 V (Wz W5 V isAgg160 Y V)<|Zz (l:=[7,13])<|B1 [true,true,false,false,true] [(3,(_,_)),(8,(_,_)),(2,(_,_))] V rfl (Zw [_,_] Y call69 Y V (Jd q g.2.1 (by have:=g.2.2.2;omega) c)) ?_ Bv ?_
   ·
    rintro _ _ ⟨_,⟨p1,p2,cu,cO,rfl,K,O,rfl⟩,rfl⟩;refine B5<|Zz (l:=[9,13])<|B1 [false,false,false] [] V rfl (Zw [_,_] Y (KW g.kind) Y V (Ke q c g (rE q Z) K O b5 b6 r g1 c1 s1 h1 hn hv)) ?_ Bv ?_
    ·
     rintro _ _ ⟨_,⟨ax,U,rfl,J,rfl⟩,rfl⟩;refine ⟨AZ,?_⟩;obtain ⟨G,m,rfl⟩:=J.form;refine A2 10 V (AQ Y)<|A2 11 V (Bw Y V)<|A2 12 V (Bw Y V)<|Zz (l:=[13])<|B1 [] [] V rfl (Al G4 #[_,_,_]) ?_ (fun _ _ h=>h.elim) Ag;rintro _ _ ⟨W,rfl,rfl⟩;refine B5<|Yw 14 32767 V (Xw Ax #[.slice G (Bu q c r).1.rows.length m,I4 (Bu q c r).1.val,.bool (Bu q c r).1.fnd])<|CM<|A2 15 V (Aw Y)<|Ai<|Zn [8,9,6] ?_;refine BL (e':=[(8,_),(9,_)]) (by exact ⟨W,G,m,U,J,V,V⟩)
    refine B1 [true,true,true] [(3,(_,_)),(8,(_,_)),(2,(_,_))] V rfl (Al G4 #[_,_,_]) ?_ (fun _ _ h=>h.elim) Ag;rintro _ _ ⟨W,rfl,rfl⟩;refine B5<|Zz (l:=[9])<|B1 [false,false,false] [] V rfl (Zw [_,_] Y (KW g.kind) Y V (Ke q c g (rE q Z) K O b5 b6 r g1 c1 s1 h1 hn hv)) ?_ Bv Ag;rintro _ _ ⟨_,⟨ax,U,rfl,J,rfl⟩,rfl⟩;refine ⟨AZ,?_⟩;obtain ⟨G,m,rfl⟩:=J.form;refine A2 10 V (AQ Y)<|A2 11 V (Bw Y V)<|A2 12 V (Bw Y V)<|Zz (l:=[14])<|B1 [] [] V rfl (Xw Ax #[.slice G (Bu q c r).1.rows.length m,I4 (Bu q c r).1.val,.bool (Bu q c r).1.fnd]) ?_ (fun _ _ h=>h.elim) Ag;rintro _ _ ⟨rfl,rfl⟩;refine B5<|A2 15 V (Aw Y)<|Ai<|Zn [8,9,6] ?_;refine BL (e':=[(8,_),(9,_)]) (by exact ⟨W,G,m,U,J,V,V⟩)
   refine B1 [true,true,true,true,true] [(3,(_,_)),(8,(_,_)),(6,(_,_)),(5,(_,_)),(2,(_,_))] V rfl (Al G4 #[_,_,_]) ?_ (fun _ _ h=>h.elim) Ag;rintro _ _ ⟨W,rfl,rfl⟩;refine B5<|Zz (l:=[7])<|B1 [true,true,false,false,true] [(3,(_,_)),(8,(_,_)),(2,(_,_))] V rfl (Zw [_,_] Y call69 Y V (Jd q g.2.1 (by have:=g.2.2.2;omega) c)) ?_ Bv Ag;rintro _ _ ⟨_,⟨p1,p2,cu,cO,rfl,K,O,rfl⟩,rfl⟩;refine B5<|Zz (l:=[9])<|B1 [false,false,false] [] V rfl (Zw [_,_] Y (KW g.kind) Y V (Ke q c g (rE q Z) K O b5 b6 r g1 c1 s1 h1 hn hv)) ?_ Bv Ag;rintro _ _ ⟨_,⟨ax,U,rfl,J,rfl⟩,rfl⟩;refine ⟨AZ,?_⟩;obtain ⟨G,m,rfl⟩:=J.form;refine A2 10 V (AQ Y)<|A2 11 V (Bw Y V)<|A2 12 V (Bw Y V)<|Zz (l:=[14])<|B1 [] [] V rfl (Xw Ax #[.slice G (Bu q c r).1.rows.length m,I4 (Bu q c r).1.val,.bool (Bu q c r).1.fnd]) ?_ (fun _ _ h=>h.elim) Ag;rintro _ _ ⟨rfl,rfl⟩;refine B5<|A2 15 V (Aw Y)<|Ai<|Zn [8,9,6] ?_;refine BL (e':=[(8,_),(9,_)]) (by exact ⟨W,G,m,U,J,V,V⟩)
  refine B1 [true,true,true,true] [(8,(_,_)),(6,(_,_)),(5,(_,_)),(2,(_,_))] V rfl (Al G4 #[_,_,_]) ?_ (fun _ _ h=>h.elim) Ag;rintro _ _ ⟨W,rfl,rfl⟩;refine B5<|Zz (l:=[0])<|B1 [true,true,true,true] [(8,(_,_)),(6,(_,_)),(5,(_,_)),(2,(_,_))] V rfl (Zw [] Y call68 Y V (Ng)) ?_ Bv Ag;rintro _ _ ⟨_,⟨mb,es,ck,lm,b5,b6,rfl,hm,hp,rfl⟩,rfl⟩;refine ⟨Zk (Zk (Zk (Zk (AZ)))),?_⟩;have X:=Vf hp hm.keys g.kind
  refine E6 3 rfl Wh (Dj Hr W6 WD hm (fun _ _=>trivial) (trivial) ((by rw [X];exact rfl:_=Value.agg #[.func (.func (H7 q.kd)) #[] #[],.func (.func (GV q.kd)) #[] (IZ b5 b6 q.kd).toArray])) Y Y) ?_;refine A2 4 V (Wz W5 V isAgg160 Y V)<|Zz (l:=[7])<|B1 [true,true,false,false,true] [(3,(_,_)),(8,(_,_)),(2,(_,_))] V rfl (Zw [_,_] Y call69 Y V (Jd q g.2.1 (by have:=g.2.2.2;omega) c)) ?_ Bv Ag;rintro _ _ ⟨_,⟨p1,p2,cu,cO,rfl,K,O,rfl⟩,rfl⟩;refine B5<|Zz (l:=[9])<|B1 [false,false,false] [] V rfl (Zw [_,_] Y (KW g.kind) Y V (Ke q c g (rE q Z) K O b5 b6 r g1 c1 s1 h1 hn hv)) ?_ Bv Ag;rintro _ _ ⟨_,⟨ax,U,rfl,J,rfl⟩,rfl⟩;refine ⟨AZ,?_⟩;obtain ⟨G,m,rfl⟩:=J.form;refine A2 10 V (AQ Y)<|A2 11 V (Bw Y V)<|A2 12 V (Bw Y V)<|Zz (l:=[14])<|B1 [] [] V rfl (Xw Ax #[.slice G (Bu q c r).1.rows.length m,I4 (Bu q c r).1.val,.bool (Bu q c r).1.fnd]) ?_ (fun _ _ h=>h.elim) Ag;rintro _ _ ⟨rfl,rfl⟩;refine B5<|A2 15 V (Aw Y)<|Ai<|Zn [8,9,6] ?_;refine BL (e':=[(8,_),(9,_)]) (by exact ⟨W,G,m,U,J,V,V⟩)
 rintro _ _ ⟨W,G,m,U,J,rfl,rfl⟩;refine Zq<|A0<|Zm Y<|Zv (Br Y)<|A4<|AV Y (fun hk=>?_) (fun hk=>?_)
 ·
  have af:(Bu q c r).2=false:=by simpa using hk
  refine Zq<|BV<|Zg<|Zv (BK (vs:=[]) (cs:=#[_,_,_]) Y (AY (pl:=#[(0,1),(1,1),(2,1)]) G4 CC (fun _=>by kernel_rfl) V))<|Xe (Xw Ax _) ?_;refine A3 Y<|AJ<|Zt<|Bn V results110 Y Wh (Ak Bm Ax Wn (V)) Y (by
   have e9:D6 q c r=(CF.none,false):=by unfold D6;rw [I,AK rfl,af];rfl
   exact ⟨.slice none 0 0,[],by rw [e9];rfl,by rw [e9];exact Bf 5 _,rfl⟩)
 have af:(Bu q c r).2=true:=by simpa using hk
 refine AC<|Zx<|A0<|Zo Wh (AA (cs:=#[_,_,_]) Bm Ax Y As AM) ?_;refine Xe (Xw Ax _) ?_;refine A3 Y<|AJ<|Bn V results110 Y Wh (Ak Bm Ax Wn (V)) Y (by
  have e9:D6 q c r=((Bu q c r).1,true):=by unfold D6;rw [I,AK rfl,af];rfl
  exact ⟨.slice G _ m,U,by rw [e9];rfl,by rw [e9];exact J,rfl⟩)
set_option maxHeartbeats 1000000 in
theorem JH(q:QM)(hq:BI q)(p:Int)(qa:Option Addr)(cap:Nat)(cs:List Chg){MC:List A9}(hC:Ck MC (.slice qa cs.length cap) cs)(o8:cs.length<=1000)(hr:E8 A rv r.rows)(hn:r.rows.length<=10000000)(hv:-2000000000000000000<=r.val/\r.val<=2000000000000000000):Ba prog 55 #[.agg q.A17,.agg #[rv,I4 r.val,.bool r.fnd],.agg #[I4 p,.slice qa cs.length cap]] [A,MC] (fun w H'=>∃cO s',w= .tuple #[.agg #[cO,I4 (BZ q r cs).1.val,.bool (BZ q r cs).1.fnd],.bool (BZ q r cs).2.1,.bool (BZ q r cs).2.2]/\Bc 5 83 cO (BZ q r cs).1.rows.length (Ae (BZ q r cs).1.rows) s'/\H'=[s',A,MC]):=by
 have p8:=mL;obtain ⟨pv,cv,rfl,_⟩:=id hr;obtain ⟨pc,l5,j3,o9,d9⟩:=id hC;injection j3 with hv1 hv2 hv3
 subst hv1 hv3;refine Se func55 ntmps55 [0,1,2] ?_;intro u R;refine A0<|Ze (Bx q.A17)<|AD fun bq=>Ze (Bx #[.slice pv r.rows.length cv,I4 r.val,.bool r.fnd])<|AD fun br=>Ze (Bx #[I4 p,.slice qa cs.length cap])<|AD fun bc=>Ze (Al G4 #[_,_,_])<|AD fun bo=>Za Y<|A3 Y<|A0<|A3 Y<|A0<|Zh 0 CC V rfl C5 Y<|Zl Fl Y ?_;refine Zc [_] Y call109 Y V (Gd hr A1) ?_;rintro _ _ ⟨_,⟨s1,h1,rfl⟩,rfl⟩;obtain ⟨g1,c1,rfl⟩:=h1.form;refine Zh 0 CC V rfl C5 Y<|Xe (Zs C5 Y Y V (hi:=by(simp;done))) ?_;refine A4<|Zq<|A0<|Zh 1 GF V rfl Ks Y<|Zl Lq Y ?_;refine Zv (Ab G3 Y)<|Zm Y<|Z0<|Zn [3,4,6,9,18,19,20] ?_;refine Zx<|AP<|Zb [9,20,3,4,6,18,19] ?_;refine BB (e0:=[(9,_),(20,_)]) (fun m e H=>∃(k:Nat) (g:CF) (gk:Option Addr) (ck:Nat) (sk:List A9),m=cs.length -k/\(k<=cs.length/\Ha q r (cs.take k)=some g/\Bc 5 83 (.slice gk g.rows.length ck) g.rows.length (Ae g.rows) sk)/\e=[(9,.bool ((cs.take k).any (Df q))),(20,I4 (k:Int))]/\H=[[(br,.cells #[.slice gk g.rows.length ck,I4 g.val,.bool g.fnd] 53 (0,0))],sk]) (by exact ⟨0,r,g1,c1,s1,rfl,⟨C0 _,by rw [HX];rfl,h1⟩,rfl,rfl⟩) Wp ?_;rintro _ _ _ ⟨k,g,gk,ck,sk,rfl,⟨hk,J,cu⟩,rfl,rfl⟩;obtain ⟨gy,gq⟩:=Wd (cs.take k) r g 2000000000000000000 10000000 J hv A1 hn;have gm:(cs.take k).length=k:=by rw [C2];omega
 rw [gm]at gy gq;have af:=DT cu A1
 refine A0<|Zv (Au Y Y)<|A4<|Zq<|Av Y (fun bn=>?_) (fun bn=>?_)
 ·
  obtain ⟨y,U⟩:∃y,cs[k]?=some y:=⟨_,B4 bn⟩;obtain ⟨g2,l9,X,T2,kv,rfl,ic,l8,ax⟩:=d9 k y U;refine AC<|Zx<|Zq<|AP<|A0<|BX (Ad G3 C1 Y Y A1)<|CO (cs:=[(g2,.cells X T2 kv)]) (by simp [ic]) (AA (cs:=y.A15) Fk C1 Y A1 ax) V rfl ?_;refine Ze (Al LI #[_,_,_,_,_,_,_,_,_,_])<|AD fun bx=>Xe (Xw C1 y.A15) ?_;refine A4<|A0<|Zm Y<|Zm Y<|Af (t:=25) Y V (fun O=>?_) (fun O=>?_)
  ·
   have e9:(cs.take (k+1)).any (Df q)=true:=by rw [Vy _ U,O];rfl
   refine A7 Y V<|A7 Y V<|A7 Y V<|Zv (AX Y Y)<|A3 Y<|A0<|AG Y<|Zn [3,4,6,9,11,18,19,20] ?_;refine Zx<|A0<|Zo Wh (AA (cs:=#[_,_,_,_,_,_,_]) Dg C7 Y As AM) ?_;refine Zo Wh (AA (cs:=#[_,_,_]) Bm Ax Y As AM) ?_;refine Zo Wh (AA (cs:=#[_,_,_,_,_,_,_,_,_,_]) Fk C1 Y As AM) ?_;refine Zc [_,_,_] Y call110 Y V (Sd q hq y af A1 A1) ?_;rintro _ _ ⟨_,⟨j5,s3,rfl,h3,rfl⟩,rfl⟩;obtain ⟨Z,W,rfl⟩:=h3.form;refine Zm Y<|Zd Y rfl<|Zd Y rfl<|Xe (BM Ax Y Y HR Wu (by exact (rfl:_=(#[.slice Z (D6 q y g).1.rows.length W,I4 (D6 q y g).1.val,.bool (D6 q y g).1.fnd]:Array Value))) E7 As (by exact BA _)) ?_;refine A3 Y<|A0<|Zm Y<|Zv (Br Y)<|A4<|AV Y (fun I=>?_) (fun I=>?_)
   ·
    have G:(D6 q y g).2=false:=by simpa using I
    have K:BZ q r cs=(CF.none,true,false):=by unfold BZ;rw [Ph (k:=k+1) (by rw [Jt J U,G];rfl)]
    refine Zq<|BV<|Zg<|Zv (BK (vs:=[]) (cs:=#[_,_,_]) Y (AY (pl:=#[(0,1),(1,1),(2,1)]) G4 CC (fun _=>by kernel_rfl) V))<|Xe (Xw Ax _) ?_;refine Za Y<|AG Y<|Zn [6,7,8] ?_;refine Zx<|AJ<|Ac<|Zt<|Zt<|Ac<|Zt<|Hq rfl results55 Y Wh (Ak Bm Ax Wn (rfl)) Y Y (by exact ⟨.slice none 0 0,[],by rw [K];rfl,by rw [K];exact Bf 5 _,rfl⟩)
   have G:(D6 q y g).2=true:=by simpa using I
   refine AC<|A8<|Zx<|Zg<|Ya (n:=1) Y Y<|Zm Y<|Z0<|Zn [9,20,3,4,6,18,19] ?_;refine Aa (e':=[(9,_),(20,_)]) (by exact ⟨k+1,(D6 q y g).1,Z,W,s3,rfl,⟨by omega,by rw [Jt J U,AK G],h3⟩,by rw [e9],rfl⟩)
  have e9:(cs.take (k+1)).any (Df q)=Df q y:=by rw [Vy _ U,O];rfl
  refine E5 Y Wh (AA (cs:=#[_,_,_,_,_,_,_]) Dg C7 Y As AM) V rfl ?_;refine E5 Y Wh (AA (cs:=#[_,_,_,_,_,_,_,_,_,_]) Fk C1 Y As AM) V rfl ?_;refine Xr [_,_] Y call22 Y V (Im q y) ?_;rw [show(decide (BI q)&&(decide y.ok&&Ce q y))=Df q y by rw [DA hq];rfl];refine Zv (AL Y Y)<|A3 Y<|A0<|AG Y<|Zn [3,4,6,9,11,18,19,20] ?_;refine Zx<|A0<|Zo Wh (AA (cs:=#[_,_,_,_,_,_,_]) Dg C7 Y As AM) ?_;refine Zo Wh (AA (cs:=#[_,_,_]) Bm Ax Y As AM) ?_;refine Zo Wh (AA (cs:=#[_,_,_,_,_,_,_,_,_,_]) Fk C1 Y As AM) ?_;refine Zc [_,_,_] Y call110 Y V (Sd q hq y af A1 A1) ?_;rintro _ _ ⟨_,⟨j5,s3,rfl,h3,rfl⟩,rfl⟩;obtain ⟨Z,W,rfl⟩:=h3.form;refine Zm Y<|Zd Y rfl<|Zd Y rfl<|Xe (BM Ax Y Y HR Wu (by exact (rfl:_=(#[.slice Z (D6 q y g).1.rows.length W,I4 (D6 q y g).1.val,.bool (D6 q y g).1.fnd]:Array Value))) E7 As (by exact BA _)) ?_;refine A3 Y<|A0<|Zm Y<|Zv (Br Y)<|A4<|AV Y (fun I=>?_) (fun I=>?_)
  ·
   have G:(D6 q y g).2=false:=by simpa using I
   have K:BZ q r cs=(CF.none,true,false):=by unfold BZ;rw [Ph (k:=k+1) (by rw [Jt J U,G];rfl)]
   refine Zq<|BV<|Zg<|Zv (BK (vs:=[]) (cs:=#[_,_,_]) Y (AY (pl:=#[(0,1),(1,1),(2,1)]) G4 CC (fun _=>by kernel_rfl) V))<|Xe (Xw Ax _) ?_;refine Za Y<|AG Y<|Zn [6,7,8] ?_;refine Zx<|AJ<|Ac<|Zt<|Zt<|Ac<|Zt<|Hq rfl results55 Y Wh (Ak Bm Ax Wn (rfl)) Y Y (by exact ⟨.slice none 0 0,[],by rw [K];rfl,by rw [K];exact Bf 5 _,rfl⟩)
  have G:(D6 q y g).2=true:=by simpa using I
  refine AC<|A8<|Zx<|Zg<|Ya (n:=1) Y Y<|Zm Y<|Z0<|Zn [9,20,3,4,6,18,19] ?_;refine Aa (e':=[(9,_),(20,_)]) (by exact ⟨k+1,(D6 q y g).1,Z,W,s3,rfl,⟨by omega,by rw [Jt J U,AK G],h3⟩,by rw [e9],rfl⟩)
 have ek:k=cs.length:=by omega
 subst ek;rw [FF]at J⊢;have K:BZ q r cs=(g,cs.any (Df q),true):=by unfold BZ;rw [J]
 refine Ay<|Zt<|Zt<|AR<|Zx<|A0<|Zo Wh (AA (cs:=#[_,_,_]) Bm Ax Y As AM) ?_;refine Zm Y<|Xe (Xw Ax _) ?_;refine Za Y<|A3 Y<|AJ<|Hq rfl results55 Y Wh (Ak Bm Ax Wn (rfl)) Y Y (by exact ⟨.slice gk _ ck,sk,by rw [K];rfl,by rw [K];exact cu,rfl⟩)
end Go.Proofs.YteaiajghbkenoaaGreatDoor
