/- Pairs of rows in memory; slices.Clone, IndexFunc, DeleteFunc, Insert at pairs. -/
import Derived.Test.YtfhjaegddfehhabGreatDoorPr3
set_option linter.unusedVariables false
set_option linter.unusedSimpArgs false
namespace Go.Proofs.YtfhjaegddfehhabGreatDoor
open Go.Proofs.Tryz
open Go Go.RowKit Gw
set_option maxRecDepth 100000
attribute [local irreducible] Gw.At Gw.Nx Gw.Ops
structure Bc where
 l:AX
 r:AX
deriving DecidableEq
def Ao(ps:List Bc):List A3:=ps.flatMap fun p=>[I4 p.l.t,I4 p.l.k,I4 p.l.v.a,I4 p.l.v.b,I4 p.l.v.c,I4 p.r.t,I4 p.r.k,I4 p.r.v.a,I4 p.r.v.b,I4 p.r.v.c]
theorem DJ(a b:List Bc):Ao (a++b)=Ao a++Ao b:=by unfold Ao;rw [Pu]
theorem BG:∀(rs:List Bc),(Ao rs).length=rs.length*10
 |[]=>rfl
 |r::rs=>by
  have:=BG rs;unfold Ao at*;rw [HW,BW,this,Dd];simp;omega
theorem Fj(rs:List Bc)(k:Nat):(Ao rs).take (k*10)=Ao (rs.take k):=by
 rcases E4 rs.length k with h|h
 · rw [J0 (by rw [BG];omega),J0 A1]
 · have e:Ao rs=Ao (rs.take k)++Ao (rs.drop k):=by rw [<-DJ,K1]
   rw [e,Hb (by rw [BG,CC];omega)]
theorem Lt(rs:List Bc)(k:Nat):(Ao rs).drop (k*10)=Ao (rs.drop k):=by
 rcases E4 rs.length k with h|h
 · rw [T6 (by rw [BG];omega),T6 A1];rfl
 · have e:Ao rs=Ao (rs.take k)++Ao (rs.drop k):=by rw [<-DJ,K1]
   rw [e,Wc (by rw [BG,CC];omega)]
theorem Ej(rs:List Bc):∀u∈Ao rs,u.oneCell'=true:=by
 intro u g;unfold Ao at g;obtain ⟨r,_,h⟩:=SM.1 g;simp only [DB,RR,PF]at h;rcases h with rfl|rfl|rfl|rfl|rfl|rfl|rfl|rfl|rfl|rfl<;>rfl
def UX(M:List A9)(v:A3)(rs:List Bc):Prop:=∃p cap,v= .slice p rs.length cap/\(rs.length<=maxLen/\rs.length<=cap)/\∀(i:Nat) (x:Bc),rs[i]?=some x->∃g off cur T zz,p=some ⟨g,off,none⟩/\(g,Obj.cells cur T zz)∈M/\off+i*10+10<=cur.size/\cur.extract (off+i*10) (off+i*10+10)=#[I4 x.l.t,I4 x.l.k,I4 x.l.v.a,I4 x.l.v.b,I4 x.l.v.c,I4 x.r.t,I4 x.r.k,I4 x.r.v.a,I4 x.r.v.b,I4 x.r.v.c]
variable{v:A3}{rs:List Bc}{s:List A9}
theorem Np{e:AK}(h:Bd 10 e v rs.length (Ao rs) s)(hn:rs.length<=maxLen):UX s v rs:=by
 obtain ⟨b,cap,rfl⟩:=h.form;refine ⟨b,cap,V,⟨hn,Ew h⟩,fun i x hx=>?_⟩;obtain ⟨g,G,cur,z,hv,rfl,I,m⟩:=KH h i (C4.1 hx).1;injection hv with hv1 hv2 hv3
 refine ⟨g,0,cur,e,z,hv1,by simp,by omega,?_⟩;unfold Ao at m;rw [J7 _ 10 (fun _=>rfl) rs i x hx]at m;rw [DM];exact HX.1 m
variable{k:Nat}
theorem SH{r:Bc}(h:rs[k]?=some r):Ao rs=Ao (rs.take k)++(Ao [r]++Ao (rs.drop (k+1))):=by
 rw [<-DJ,<-DJ];congr 1;obtain ⟨g,rfl⟩:=C4.1 h;rw [Mb,<-S8 g,K1]
theorem J5{r:Bc}(h:rs[k]?=some r)(j:Nat)(g:j<10):(Ao rs)[k*10+j]?=(Ao [r])[j]?:=by
 have m:=(C4.1 h).1;have e:(Ao (rs.take k)).length=k*10:=by rw [BG,CC];omega
 rw [SH h,T0 A1,cP (by rw [e,BG];simp;omega),e,Nat.add_sub_cancel_left]
variable{n:Nat}
theorem XG{M:List A9}{p:B6}{cap:Nat}(h:UX M (.slice p n cap) rs):FP M p (Ao rs):=by
 obtain ⟨p',J,e,Z,W⟩:=h;injection e with e1 e2 e3
 subst e1;intro j u O;have G:=(C4.1 O).1
 rw [BG]at G;obtain ⟨x,hx⟩:∃x,rs[j/10]?=some x:=⟨_,B7 A1⟩;obtain ⟨g,off,cur,T,zz,rfl,X,I,m⟩:=W (j/10) x hx;refine ⟨g,off,cur,T,zz,V,X,?_⟩;have U:=Pd m I (j%10) A1
 have h2:=J5 hx (j%10) A1;rw [show j/10*10+j%10=j by omega,O]at h2;rw [show off+j=off+j/10*10+j%10 by omega,U,h2,<-HR];rfl
theorem XR{M:List A9}(hv:UX M v rs)(hb:rs.length<=1000000000000):BZ prog 322 #[v] [M] (fun r H'=>∃U,Bd 10 364 r rs.length (Ao rs) U/\H'=[U,M]):=by
 have af:=mL;obtain ⟨p,cap,rfl,⟨hl,Z⟩,X⟩:=id hv;have G:FP M p (Ao rs):=XG hv
 refine Se func322 ntmps322 [0] ?_;intro u R;refine A0<|A4 Y<|Zq<|A0<|Zm Y<|Zv (Dq GC Y Y)<|A5<|AU Y (fun O=>?_) (fun O=>?_);·
  have I:p=none:=by cases p with
   |none=>rfl
   |some x=>cases O
  have h0:rs=[]:=by
   cases rs with
   |nil=>rfl
   |cons x l=>obtain ⟨g,off,cur,T,zz,J,_⟩:=X 0 x rfl;rw [I]at J;cases J
  refine Zq<|BX<|Zg<|A4 Y<|AJ<|Zt<|AO rfl results322 Y (by exact ⟨[],by rw [h0];exact Bf 10 _,rfl⟩)
 refine AC<|Zx<|A0<|Ze (ER GC H3)<|AG fun W=>Zm Y<|Ze (Hm (by_:=80) (sz:=10) GC (V:Tryz.prog.info? 364=some Tryz.t364) V rfl V rfl Y (IZ 10 364 W 0 [] V AW) Y (G) (by exact BG _) AW Wo Wo (by exact Ej _) A1 A1) ?_;rintro _ _ ⟨ax,m,rfl⟩;replace m:=BS m (DM _) (Ln _);refine A4 Y<|AJ<|AO V results322 Y (by exact ⟨_,m,V⟩)
def Gy(pd:Bc->Bool)(rows:List Bc):Int:=(rows.findIdx? pd).elim (-1) fun i=>(i:Int)
variable{rows:List Bc}{i:Nat}{x:Bc}
theorem nY{g:Bc->Bool}(h:∀(j:Nat) (y:Bc),j<i->rows[j]?=some y->g y=false)(hx:rows[i]?=some x)(G:g x=true):Gy g rows=(i:Int):=by
 obtain ⟨hi,rfl⟩:=C4.1 hx;unfold Gy;rw [ab.2 ⟨hi,G,fun j m=>by simp [h j _ m (B7 A1)]⟩];rfl
theorem nZ{m:Bc->Bool}(h:∀(j:Nat) (y:Bc),j<rows.length->rows[j]?=some y->m y=false):Gy m rows=-1:=by
 unfold Gy;rw [e6.2 fun y hy=>by
  obtain ⟨j,g⟩:=HE hy;exact h j y (C4.1 g).1 g]
 rfl
theorem U2(g:Bc->Bool)(rows:List Bc):(Gy g rows=-1/\∀y∈rows,g y=false)\/∃(i:Nat) (x:Bc),Gy g rows=(i:Int)/\rows[i]?=some x/\g x=true/\∀(j:Nat) (y:Bc),j<i->rows[j]?=some y->g y=false:=by
 unfold Gy;cases h:rows.findIdx? g with
 |none=>exact .inl ⟨rfl,e6.1 h⟩
 |some i=>
  obtain ⟨m,h2,G⟩:=ab.1 h;refine .inr ⟨i,_,V,B7 m,h2,fun j y I hy=>?_⟩;obtain ⟨J,rfl⟩:=C4.1 hy;simpa using G j I
theorem mE(g:k<rs.length)(x:Bc):(Ao rs).take (k*10)++Ao [x]++(Ao rs).drop (k*10+(Ao [x]).length)=Ao (rs.set k x):=by
 rw [show k*10+(Ao [x]).length=(k+1)*10 by rw [BG];simp;omega,Fj,Lt,<-DJ,<-DJ,ln,Ax g];simp
variable{cur:AH}
theorem WR(g:C9 cur 0 (Ao rs))(hx:rs[k]?=some x):k*10+10<=cur.size/\cur.extract (0+k*10) (0+k*10+10)=(Ao [x]).toArray:=by
 have W:=(C4.1 hx).1;have U:k*10+10<=cur.size:=by
  have J:=J5 hx 9 AW;have O:=g.get (k*10+9) _ (J.trans As)
  have:=(HU.1 O).1;omega
 refine ⟨U,?_⟩;apply HX.1;apply Mu;intro j;rw [HR,eA];split
 · rename_i hj
   have m:j<10:=by omega
   have G:=J5 hx j m;obtain ⟨u,I⟩:∃u,(Ao [x])[j]?=some u:=⟨_,B7 (by rw [BG];simpa using m)⟩;rw [I]at G;have h2:=g.get _ _ G
   rw [DM]at h2;rw [DM,h2];exact I.symm
 · rw [MY]
   show(Ao [x]).length<=j;rw [BG];simp only [Fl];omega
theorem LG{j:Nat}(f:Bc->Bool)(hx:rows[j]?=some x):(rows.take (j+1)).filter f=(rows.take j).filter f++(if f x then [x]else []):=by
 rw [Bn hx,IH];congr 1;rw [cV,nc]
theorem MZ{f:Bc->Bool}(h:∀(j:Nat) (y:Bc),rows[j]?=some y->f y=true):rows.filter f=rows:=mT.2 fun y hy=>by
 obtain ⟨j,g⟩:=HE hy;exact h j y g
variable{B A:List A9}
theorem MW(hv:UX A v rows)(G:Nat)(us:List A3)(Z:Bc->Bool)(W:∀(args:AH) (w:AD),(callFunc G args).run prog w= .ok (.enter G args) w)(hf:∀x:Bc,BB prog G (.agg #[I4 x.l.t,I4 x.l.k,I4 x.l.v.a,I4 x.l.v.b,I4 x.l.v.c,I4 x.r.t,I4 x.r.k,I4 x.r.v.a,I4 x.r.v.b,I4 x.r.v.c]::us).toArray [B] (.bool (Z x))):BB prog 296 #[v,.func (.func G) #[] us.toArray] [A,B] (I4 (Gy Z rows)):=by
 have bn:=mL;obtain ⟨p,cap,rfl,⟨hl,ax⟩,hg⟩:=id hv;refine Se func296 ntmps296 [0,1] ?_;intro u R;refine A0<|A4 Y<|Zq<|A0<|Zm Y<|Zv (AY GC Y)<|Zm Y<|A5<|AQ<|Zb [8,0,1,7] ?_;refine BA (e0:=[(8,_)]) (fun m e H=>∃(i:Nat),m=rows.length -i/\(i<=rows.length/\∀(j:Nat) (y:Bc),j<i->rows[j]?=some y->Z y=false)/\e=[(8,I4 (i:Int))]/\H=[]) (by exact ⟨0,V,⟨C5 _,fun j y h=>by omega⟩,V,V⟩) Wp ?_;rintro _ _ _ ⟨i,rfl,⟨hi,I⟩,rfl,rfl⟩;refine A0<|Zv (Au Y Y)<|A5<|Zq<|Aq Y (fun U=>?_) (fun U=>?_);·
  obtain ⟨x,hx⟩:∃x,rows[i]?=some x:=⟨_,B7 U⟩;obtain ⟨g,off,cur,T,zz,rfl,X,af,O⟩:=hg i x hx;refine AC<|Zx<|Zq<|AQ<|A0<|Zm Y<|A4 Y<|A0<|Zm Y<|Zm Y<|Zm Y<|BV (Ad GC H3 Y Y A1)<|CG (cs:=[(g,.cells cur T zz)]) (by simp [X]) (AA (cs:=#[_,_,_,_,_,_,_,_,_,_]) isAgg364 H3 Y A1 O) V rfl<|Xr [_] Y (W) Y V (hf x)<|A5<|AU Y (fun J=>?_) (fun J=>?_);·
   refine A0<|Zm Y<|A4 Y<|AJ<|Ac<|Zt<|Zt<|Ac<|Zt<|AO V results296 Y (by exact ⟨congrArg (Value.int .i64) (nY I hx J).symm,V⟩)
  refine AC<|A8<|Zx<|Zg<|Ya (n:=1) Y Y<|Zm Y<|Z0<|Zn [8,0,1,7] ?_;refine Ab (e':=[(8,_)]) (by exact ⟨i+1,rfl,⟨by omega,fun j y h1 h2=>by rcases E4 j i with h9|h9;exact I j y h9 h2;obtain rfl:j=i:=A1;rw [hx]at h2;injection h2 with h2;subst h2;exact J⟩,rfl,rfl⟩)
 have ei:i=rows.length:=by omega
 subst ei;refine Ay<|Zt<|Zt<|AR<|Zx<|A0<|A4 Y<|AJ<|AO V results296 Y (by exact ⟨congrArg (Value.int .i64) (nZ I).symm,V⟩)
set_option maxHeartbeats 1000000 in
theorem Xz(G:Bd 10 364 v rows.length (Ao rows) s)(hn:rows.length<=1000000000)(J:Nat)(us:List A3)(X:Bc->Bool)(cu:∀(args:AH) (w:AD),(callFunc J args).run prog w= .ok (.enter J args) w)(hf:∀x:Bc,BB prog J (.agg #[I4 x.l.t,I4 x.l.k,I4 x.l.v.a,I4 x.l.v.b,I4 x.l.v.c,I4 x.r.t,I4 x.r.k,I4 x.r.v.a,I4 x.r.v.b,I4 x.r.v.c]::us).toArray [B] (.bool (X x))):BZ prog 321 #[v,.func (.func J) #[] us.toArray] [s,B] (fun r H'=>∃s',Bd 10 364 r (rows.filter fun x=>!X x).length (Ao (rows.filter fun x=>!X x)) s'/\H'=[s',B]):=by
 have p9:=mL;obtain ⟨p,cap,rfl⟩:=G.form;have hU:=Np G A1
 refine Se func321 ntmps321 [0,1] ?_;intro u R;refine A0<|A4 Y<|A0<|Zm Y<|Zm Y<|Xr [_,_] Y call296 Y V (MW hU J us X cu hf) ?_;rcases U2 X rows with⟨e9,Z⟩|⟨k,x0,e9,hx0,hp0,hno⟩
 ·
  rw [e9];refine A4 Y<|Zq<|A0<|Zm Y<|Zv (CK Y Y)<|A5<|Aq Y (fun h1=>?_) (fun h1=>?_);·
   refine A0<|Zm Y<|A4 Y<|AJ<|Zt<|AO rfl results321 Y (by exact ⟨_,BS G (congrArg List.length (MZ fun j y hy=>by rw [Z y (Dg hy)];rfl).symm) (congrArg Ao (MZ fun j y hy=>by rw [Z y (Dg hy)];rfl).symm),rfl⟩)
  exact absurd V h1
 rw [e9];have p8:=(C4.1 hx0).1
 obtain ⟨g,j5,cur,z,j3,rfl,l8,l5⟩:=E9 G A1;injection j3 with hv1 hv2 hv3
 subst hv1 hv3;refine A4 Y<|Zq<|A0<|Zm Y<|Zv (CK Y Y)<|A5<|Aq Y (fun h2=>by omega)<|fun h2=>AC<|Zx<|Zq<|A0<|Zm Y<|Ya (n:=1) Y Y<|A4 Y<|AQ<|Zb [5,6,0,1] ?_;refine BA (e0:=[(5,_),(6,_)]) (fun m e H=>∃(i j:Nat) (W:List Bc) (cur:AH),m=rows.length -j/\((i<j/\j<=rows.length)/\W.length=rows.length/\Bd 10 364 (I6 g rows.length cap) rows.length (Ao W) [(g,.cells cur 364 z)]/\W.take i=(rows.take j).filter (fun x=>!X x)/\∀t,j<=t->W[t]?=rows[t]?)/\e=[(5,I4 (i:Int)),(6,I4 (j:Int))]/\H=[[(g,.cells cur 364 z)]]) (by exact ⟨k,k+1,rows,cur,rfl,⟨⟨by omega,by omega⟩,rfl,G,by rw [LG _ hx0,hp0];simp only [SR,Mn,HO,DG];exact (MZ (fun j y hy=>by rw [HJ]at hy;split at hy;rw [hno j y fN hy];rfl;cases hy)).symm,fun t _=>rfl⟩,rfl,rfl⟩) Wp ?_;rintro _ _ _ ⟨i,j,W,cur,rfl,⟨o9,bn,U,O,ax⟩,rfl,rfl⟩;obtain ⟨ek,cO,l9,kv,af⟩:=Jf U;refine Zq<|A0<|Zm Y<|Zm Y<|Zv (AY GC Y)<|Zv (Au Y Y)<|A5<|Aq Y (fun gm=>?_) (fun gm=>?_);·
  obtain ⟨x,hx⟩:∃x,rows[j]?=some x:=⟨_,B7 gm⟩;obtain ⟨o8,d9⟩:=WR ek ((ax j (D2 _)).trans hx);refine AC<|Zx<|Zq<|AQ<|A0<|Zm Y<|Zm Y<|BV (Ad GC H3 Y Y A1)<|Zo Wh (AA (cs:=#[_,_,_,_,_,_,_,_,_,_]) isAgg364 H3 Y A1 d9)<|Ze (Al gS #[_,_,_,_,_,_,_,_,_,_])<|AG fun bx=>Xe (Xw H3 #[I4 x.l.t,I4 x.l.k,I4 x.l.v.a,I4 x.l.v.b,I4 x.l.v.c,I4 x.r.t,I4 x.r.k,I4 x.r.v.a,I4 x.r.v.b,I4 x.r.v.c])<|A5<|A0<|Zm Y<|Zo Wh (AA (cs:=#[_,_,_,_,_,_,_,_,_,_]) isAgg364 H3 Y B1 As)<|Xr [_] Y (cu) Y V (hf x)<|Zv (Br Y)<|Z0<|Zn [0,1,5,6,7,29] ?_;refine Zx<|AU Y (fun I=>?_) (fun I=>?_);·
   have I:X x=false:=by simpa using I
   have gq:=BS (xs':=Ao (W.set i x)) (EU (i:=0+i*10) (ys:=Ao [x]) U (by rw [BG,BG,Fl];omega)) rfl (by rw [DM];exact mE A1 x);refine A0<|Zm Y<|Zm Y<|Zo Wh (AA (cs:=#[_,_,_,_,_,_,_,_,_,_]) isAgg364 H3 Y B1 As)<|BV (Ad GC H3 Y Y A1)<|Xe (BM H3 Y Y HT Wu (by exact (rfl:_=EO cur (0+i*10) (Ao [x]))) Fc A1 af)<|A5<|Zg<|Zm Y<|Ya (n:=1) Y Y<|AN Y<|A8<|Zx<|Zg<|Zm Y<|Ya (n:=1) Y Y<|AN Y<|Zn [5,6,0,1] ?_;refine Ab (e':=[(5,_),(6,_)]) (by exact ⟨i+1,j+1,W.set i x,_,rfl,⟨by omega,by rw [eI];exact bn,gq,by rw [Yd A1,O,LG _ hx];simp [I],fun t ht=>by rw [List.getElem?_set_ne A1];exact ax t A1⟩,rfl,rfl⟩)
  have I:X x=true:=by simpa using I
  refine AC<|A8<|Zx<|Zg<|Zm Y<|Ya (n:=1) Y Y<|AN Y<|Zn [5,6,0,1] ?_;refine Ab (e':=[(5,_),(6,_)]) (by exact ⟨i,j+1,W,cur,rfl,⟨by omega,bn,U,by rw [O,LG _ hx];simp [I],fun t ht=>ax t A1⟩,rfl,rfl⟩)
 have ej:j=rows.length:=by omega
 subst ej;rw [GS]at O;have ic:(rows.filter fun x=>!X x).length=i:=by rw [<-O,CC];omega
 refine Ay<|Zt<|Zt<|AR<|Zx<|A0<|Zm Y<|Zm Y<|BV (CE GC H3 Y Y A1)<|Ze (OW GC (V:Tryz.prog.info? 364=some Tryz.t364) V rfl (by simp [Value.cells,Value.oneCell']) Y A1 cO af Wo) ?_;rintro _ _ rfl;have gy:=VY (EU (i:=i*10) (ys:=(Builtin.zeroCells (Value.agg #[I4 0,I4 0,I4 0,I4 0,I4 0,I4 0,I4 0,I4 0,I4 0,I4 0]).cells (rows.length -i)).toList) U (by rw [TO,size_zeroCells,BG];show i*10+(rows.length -i)*10<=_;omega)) i A1
 refine A5<|A0<|Zm Y<|Zm Y<|BV (Bu GC H3 Y Y A1)<|A4 Y<|AJ<|AO V results321 Y (by
  refine ⟨_,BS gy ic.symm ?_,V⟩;rw [D3,Hb (by rw [CC,BG];omega),Fj,O])
theorem nV{A Y D:List A3}(g:A.length=(n+1)*10)(hi:i<=n)(G:Y.length=10)(m:D.length=(n -i)*10):(A.take (0+i*10)++Y++A.drop (0+i*10+Y.length)).take (0+(i+1)*10)++D++(A.take (0+i*10)++Y++A.drop (0+i*10+Y.length)).drop (0+(i+1)*10+D.length)=A.take (i*10)++Y++D:=by
 rw [DM,DM,Hb (by rw [BW,CC];omega),T6 (by simp only [BW,CC,CD];omega),DG]
theorem iB{A Y D:List A3}(g:A.length=(n+1)*10)(hi:i<=n)(G:Y.length=10)(m:D.length=(n -i)*10):(A.take (0+(i+1)*10)++D++A.drop (0+(i+1)*10+D.length)).take (0+i*10)++Y++(A.take (0+(i+1)*10)++D++A.drop (0+(i+1)*10+D.length)).drop (0+i*10+Y.length)=A.take (i*10)++Y++D:=by
 rw [DM,DM,T6 (l:=A) A1,DG,cN (by rw [CC];omega),V2,RT A1,Wc (by rw [CC];omega)]
theorem VW(rows:List Bc)(i:Nat)(y:Bc):(Ao rows).take (i*10)++Ao [y]++Ao (rows.drop i)=Ao (rows.take i++[y]++rows.drop i):=by
 rw [Fj,DJ,DJ]
theorem RH{c:AH}(h:C9 c 0 (Ao rows))(i:Nat)(hi:i<=rows.length):C9 c (0+i*10) (Ao (rows.drop i)):=by
 have g:=JA h (i*10) ((rows.length -i)*10) (by rw [BG];omega);rw [Lt,J0 (by rw [BG,CD];omega)]at g;exact g
theorem bX{c:AH}(h:C9 c 0 (Ao rows))(i:Nat)(hi:i<=rows.length):C9 c 0 (Ao (rows.take i)):=by
 have g:=JA h 0 (i*10) (by rw [BG];omega);rw [RW,Fj]at g;exact g
theorem U0(rows:List Bc)(i:Nat)(hi:i<=rows.length)(y:Bc):(rows.take i++[y]++rows.drop i).length=rows.length+1:=by
 simp only [BW,CC,CD,Fl];omega
set_option maxHeartbeats 1000000 in
theorem Xm(m:Bd 10 364 v rows.length (Ao rows) s)(hn:rows.length<=1000000000)(i:Nat)(hi:i<=rows.length)(y:Bc)(W:Nat):BZ prog 323 #[v,I4 (i:Int),I6 W 1 1] [s,[(W,.cells #[I4 y.l.t,I4 y.l.k,I4 y.l.v.a,I4 y.l.v.b,I4 y.l.v.c,I4 y.r.t,I4 y.r.k,I4 y.r.v.a,I4 y.r.v.b,I4 y.r.v.c] 364 (0,0))]] (fun r H'=>∃s' s2,Bd 10 364 r (rows.take i++[y]++rows.drop i).length (Ao (rows.take i++[y]++rows.drop i)) s'/\H'=[s',s2,[(W,.cells #[I4 y.l.t,I4 y.l.k,I4 y.l.v.a,I4 y.l.v.b,I4 y.l.v.c,I4 y.r.t,I4 y.r.k,I4 y.r.v.a,I4 y.r.v.b,I4 y.r.v.c] 364 (0,0))]]):=by
 have o9:=mL;obtain ⟨p,cap,rfl⟩:=m.form;have o8:=Ew m
 refine Se func323 ntmps323 [0,1,2] ?_;intro u R;refine A0<|A4 Y<|Zq<|BX<|Zg<|Zm Y<|Zm Y<|BV (CE GC H3 Y Y A1)<|A5<|A0<|Zm Y<|Zv (AY GC Y)<|A4 Y<|Zq<|A0<|Zm Y<|Zv (CR (n:=0) Y Y)<|A5<|Aq Y (fun h0=>by cases h0)<|fun h0=>AC<|Zx<|A0<|Zm Y<|Zv (AY GC Y)<|A4 Y<|Zq<|A0<|Zm Y<|Zm Y<|Zv (CR Y Y)<|Z0<|Zn [0,1,2,7,8,22] ?_;refine Zx<|Aq Y (fun X=>?_) (fun X=>?_);·
  refine A0<|Zm Y<|Zm Y<|Ze (BR (by_:=80) (sz:=10) GC (V:Tryz.prog.info? 364=some Tryz.t364) V rfl V rfl Y (m) Y (DN 10 W 1 1 364 (0,0) (Ao [y]) V) Wo Wo (by exact Ej _) A1 A1) ?_;rintro _ _ ⟨p8,U,rfl⟩;obtain ⟨l5,kv,rfl⟩:=U.form;refine A4 Y<|AJ<|Zt<|AO V results323 Y (by
   have X:i=rows.length:=by omega
   subst X;exact ⟨_,[],BS U (U0 rows _ (D2 _) y).symm (by rw [GS,k8,DG,DJ]),rfl⟩)
 obtain ⟨g,ek,cur,z,cO,rfl,j5,I⟩:=E9 m A1;injection cO with hv1 hv2 hv3
 subst hv1 hv3;obtain ⟨_,l9,_,l8,af⟩:=Jf m;refine AC<|Zx<|Zq<|A0<|Zm Y<|Zm Y<|Ya Y Y<|Zm Y<|Zv (R6 GC Y)<|Zv (DK Y Y)<|A5<|Aq Y (fun hg=>?_) (fun hg=>?_);·
  refine A0<|Zm Y<|Zm Y<|BV (Bu GC H3 Y Y A1)<|Zm Y<|Zm Y<|Ya Y Y<|Zm Y<|Yb Y Y ?_;refine Ze (LX (by_:=80) (sz:=10) (xs:=Ao (rows.take i)) GC CM (rfl:Tryz.prog.info? 364=some Tryz.t364) rfl rfl rfl rfl Y Y Wh (bX I i hi) (by rw [BG,CC];omega) A1 AW A1 A1 A1) ?_;rintro _ _ ⟨s9,J,rfl⟩;rw [show i+(rows.length+1 -i)=rows.length+1 by omega]at J;have G:=J.1
  obtain ⟨g3,d9,gm,z3,rfl,rfl,j3,ic⟩:=E9 J A1;obtain ⟨_,gy,_,gq,O⟩:=Jf J;refine AN Y<|Zn [0,1,2,7,9] ?_;refine Zx<|A0<|Zm Y<|Zm Y ?_
  (refine BV (Bq GC H3 Y Y ?_ ?_) ?_;(focus (omega));(focus (omega)))
  refine Zm Y<|Xe (JZ (cs:=Ao [y]) GC H3 Y Y Wh Wo ((rfl:C9 (#[I4 y.l.t,I4 y.l.k,I4 y.l.v.a,I4 y.l.v.b,I4 y.l.v.c,I4 y.r.t,I4 y.r.k,I4 y.r.v.a,I4 y.r.v.b,I4 y.r.v.c]:AH) 0 (Ao [y]))) (by rw [BG,Fl];omega) (by rw [BG,Fl];omega) (O) (Ej _)) ?_;refine A5<|Zq<|Az (n:=9) (0::0::0::6::15::0::0::96::255::[]) 256 AE AE V<|A2 0 V (AP Y)<|A2 1 V (AP Y)<|A2 2 V (AP Y)<|A2 3 V (ED Y Y A1) ?_
  (refine Dr (D':=31) 4 (Bq GC H3 Y Y ?_ ?_) ?_;(focus (omega));(focus (omega)))
  refine A2 5 V (AP Y)<|A2 6 V (AP Y) ?_
  (refine Dr (D':=255) 7 (Bq GC H3 Y Y ?_ ?_) ?_;(focus (omega));(focus (omega)))
  refine Yw 8 511 rfl (JZ (cs:=Ao (rows.drop i)) GC H3 Y Y Wh Wo (RH I i hi) (by rw [BG,CD];omega) (by rw [BG,CD,GQ (by rw [BG,Fl];omega)];omega) (by rw [GQ (by rw [BG,Fl];omega)];exact O) (Ej _))<|D4<|Ag<|Zn [9] ?_;refine Zx<|A0<|Zm Y<|A4 Y<|AJ<|Zt<|AO V results323 Y (by
   refine ⟨_,[(g,.cells cur 364 z)],BS (EU (i:=0+(i+1)*10) (ys:=Ao (rows.drop i)) (EU (i:=0+i*10) (ys:=Ao [y]) J (by rw [G,BG,Fl];omega)) ?_) (U0 rows i hi y).symm ?_,rfl⟩;· simp only [BW,CC,CD,G,BG,Fl];omega
   · rw [nV G hi (by rw [BG];rfl) (by rw [BG,CD]),Hb (by rw [BG,CC];omega),<-Fj,VW])
 refine AC<|Zx<|Zq ?_;obtain ⟨p9,cu,bn⟩:=VX m (rows.length+1) A1 A1;have G:=bn.1
 refine Zg<|Zm Y<|Zm Y<|Zm Y<|Ya Y Y ?_;refine BV (Bu GC H3 Y Y A1)<|A4 Y<|Zq<|Zq<|zo (s1:=[(W,_)]) (s2:=[(g,_)]) (a:=W) (b:=g) Wo Wo (C1.2 V) (C1.2 V) (fun ax=>?_);refine Zg<|Zm Y<|Zm Y<|Zm Y<|Zm Y<|Ya Y Y ?_
 (refine BV (Bq GC H3 Y Y ?_ ?_) ?_;(focus (omega));(focus (omega)))
 refine CG (cs:=[(W,.cells #[I4 y.l.t,I4 y.l.k,I4 y.l.v.a,I4 y.l.v.b,I4 y.l.v.c,I4 y.r.t,I4 y.r.k,I4 y.r.v.a,I4 y.r.v.b,I4 y.r.v.c] 364 (0,0)),(g,.cells cur 364 z)]) B4 (TT (tR:=4) func332 AE AE AE AE GC H3 Y ax A1) V rfl ?_;refine Zv (Br Y)<|Z0<|Zn [0,1,2,7,8,68] ?_;refine Zx<|AU Y (fun Z=>?_) (fun Z=>?_);·
  refine Zq<|Az (n:=9) (0::0::0::6::15::0::0::96::255::[]) 256 AE AE V<|A2 0 V (AP Y)<|A2 1 V (AP Y)<|A2 2 V (AP Y)<|A2 3 V (ED Y Y A1) ?_
  (refine Dr (D':=31) 4 (Bq GC H3 Y Y ?_ ?_) ?_;(focus (omega));(focus (omega)))
  refine A2 5 V (AP Y)<|A2 6 V (AP Y) ?_
  (refine Dr (D':=255) 7 (Bq GC H3 Y Y ?_ ?_) ?_;(focus (omega));(focus (omega)))
  refine Yw 8 511 rfl (JZ (cs:=Ao (rows.drop i)) GC H3 Y Y Wh Wo (RH I i hi) (by rw [BG,CD];omega) (by rw [BG,CD];omega) (af) (Ej _))<|D4<|Ag<|Zx<|A0<|Zm Y<|Zm Y ?_
  (refine BV (Bq GC H3 Y Y ?_ ?_) ?_;(focus (omega));(focus (omega)))
  refine Zm Y<|Xe (JZ (cs:=Ao [y]) GC H3 Y Y Wh Wo ((rfl:C9 (#[I4 y.l.t,I4 y.l.k,I4 y.l.v.a,I4 y.l.v.b,I4 y.l.v.c,I4 y.r.t,I4 y.r.k,I4 y.r.v.a,I4 y.r.v.b,I4 y.r.v.c]:AH) 0 (Ao [y]))) (by rw [BG,Fl];omega) (by rw [BG,Fl,GQ (by rw [BG,CD];omega)];omega) (by rw [GQ (by rw [BG,CD];omega)];exact af) (Ej _)) ?_;refine Z0<|Zn [0] ?_;refine Zx<|A0<|Zm Y<|A4 Y<|AJ<|Zt<|AO V results323 Y (by
   refine ⟨_,[],BS (EU (i:=0+i*10) (ys:=Ao [y]) (EU (i:=0+(i+1)*10) (ys:=Ao (rows.drop i)) bn (by rw [G,BG,CD];omega)) ?_) (U0 rows i hi y).symm ?_,rfl⟩;· simp only [BW,CC,CD,BG,cu,Fl];omega
   · rw [iB G hi (by rw [BG];rfl) (by rw [BG,CD]),cN (by rw [BG];omega),VW])
 cases Z
def PV(pd:Bc->Bool)(rows:List Bc)(y:Bc):List Bc:=rows.take ((rows.findIdx? pd).getD rows.length)++[y]++rows.drop ((rows.findIdx? pd).getD rows.length)
theorem nW(g:Bc->Bool)(rows:List Bc)(y:Bc):(PV g rows y).length=rows.length+1:=by
 unfold PV;simp only [BW,CC,CD,Fl];omega
theorem uX(g:Bc->Bool)(rows:List Bc):(Gy g rows<0/\(rows.findIdx? g).getD rows.length=rows.length)\/∃i:Nat,i<=rows.length/\Gy g rows=(i:Int)/\(rows.findIdx? g).getD rows.length=i:=by
 unfold Gy;cases h:rows.findIdx? g with
 |none=>exact .inl ⟨by simp,rfl⟩
 |some i=>
  obtain ⟨m,_,_⟩:=ab.1 h;exact .inr ⟨i,by omega,V,V⟩
theorem NN(hv:UX A v rows)(hn:rows.length<=1000000000)(g:Nat)(us:List A3)(m:Bc->Bool)(G:∀(args:AH) (w:AD),(callFunc g args).run prog w= .ok (.enter g args) w)(J:∀x:Bc,BB prog g (.agg #[I4 x.l.t,I4 x.l.k,I4 x.l.v.a,I4 x.l.v.b,I4 x.l.v.c,I4 x.r.t,I4 x.r.k,I4 x.r.v.a,I4 x.r.v.b,I4 x.r.v.c]::us).toArray [B] (.bool (m x))):BZ prog 293 #[v,.func (.func g) #[] us.toArray] [A,B] (fun r H'=>∃s,Bd 10 364 r (rows.filter fun x=>!m x).length (Ao (rows.filter fun x=>!m x)) s/\H'=[s,A,B]):=by
 obtain ⟨p,cap,rfl,_⟩:=id hv;refine Se func293 ntmps293 [0,1] ?_;intro u R;refine A0<|A4 Y<|A0<|Zm Y<|Zc [_] Y call322 Y V (XR hv A1) ?_;rintro _ _ ⟨_,⟨s1,I,rfl⟩,rfl⟩;obtain ⟨W,O,rfl⟩:=I.form;refine Zm Y<|Zc [_,_] Y call321 Y V (Xz I hn g us m G J) ?_;rintro _ _ ⟨_,⟨s2,h2,rfl⟩,rfl⟩;obtain ⟨X,U,rfl⟩:=h2.form;refine A4 Y<|AJ<|AO V results293 Y (by exact ⟨_,h2,V⟩)
theorem Tz(G:Bd 10 364 v rows.length (Ao rows) s)(hn:rows.length<=1000000000)(y:Bc)(g:Nat)(us:List A3)(I:Bc->Bool)(W:∀(args:AH) (w:AD),(callFunc g args).run prog w= .ok (.enter g args) w)(hf:∀x:Bc,BB prog g (.agg #[I4 x.l.t,I4 x.l.k,I4 x.l.v.a,I4 x.l.v.b,I4 x.l.v.c,I4 x.r.t,I4 x.r.k,I4 x.r.v.a,I4 x.r.v.b,I4 x.r.v.c]::us).toArray [B] (.bool (I x))):BZ prog 298 #[v,.agg #[I4 y.l.t,I4 y.l.k,I4 y.l.v.a,I4 y.l.v.b,I4 y.l.v.c,I4 y.r.t,I4 y.r.k,I4 y.r.v.a,I4 y.r.v.b,I4 y.r.v.c],.func (.func g) #[] us.toArray] [s,B] (fun r H'=>∃Z s2,Bd 10 364 r (PV I rows y).length (Ao (PV I rows y)) Z/\H'=[Z,s2,B]):=by
 have af:=mL;obtain ⟨p,cap,rfl⟩:=G.form;have hU:=Np G A1
 refine Se func298 ntmps298 [0,1,2] ?_;intro u R;refine A0<|Ze (Bx #[_,_,_,_,_,_,_,_,_,_])<|AG fun bx=>A4 Y<|A0<|Zm Y<|Zm Y<|Xr [_,_] Y call296 Y V (MW hU g us I W hf) ?_;obtain ⟨z9,U⟩:∃z,z=Gy I rows:=⟨_,rfl⟩;rw [<-U];have m:=uX I rows
 rw [<-U]at m;refine A4 Y<|Zb [7,0,4] ?_;refine DL (e0:=[(7,_)]) (H0:=[]) (fun e H=>∃(i:Nat),(i<=rows.length/\(rows.findIdx? I).getD rows.length=i)/\e=[(7,I4 (i:Int))]/\H=[]) Wp ?hx_1 ?hy_1
 case hx_1=>
  refine A0<|Zm Y<|Zv (Dw Y Y)<|A5<|Aq Y (fun O=>?_) (fun O=>?_);·
   refine Zg<|Zm Y<|Zv (AY GC Y)<|AN Y<|Zn [7,0,4] ?_;refine BN (e':=[(7,_)]) (by exact ⟨rows.length,⟨D2 _,by rcases m with⟨_,h⟩|⟨i,h1,h2,J⟩;exact h;omega⟩,rfl,rfl⟩)
  rcases m with⟨h9,_⟩|⟨i,h1,h2,J⟩
  · exact absurd h9 O
  subst h2;refine AC<|Zn [7,0,4] ?_;refine BN (e':=[(7,_)]) (by exact ⟨i,⟨h1,J⟩,V,V⟩)
 rintro _ _ ⟨i,⟨hi,X⟩,rfl,rfl⟩;refine A0<|Zm Y<|Zm Y<|Zo Wh (Pa #[_,_,_,_,_,_,_,_,_,_] isAgg364 H3 Y)<|Ze (Ai (vs:=[_]) (cs:=[_,_,_,_,_,_,_,_,_,_]) GC H3 gS Y V rfl V rfl V)<|AG fun gy=>Zc [_,_,_] Y call323 Y V (Xm G hn i hi y gy) ?_;rintro _ _ ⟨_,⟨s3,s4,J,rfl⟩,rfl⟩;obtain ⟨g3,c3,rfl⟩:=J.form;refine A4 Y<|AJ<|AO rfl results298 Y (by exact ⟨_,s4,by unfold PV;rw [X];exact J,rfl⟩)
def Ha(k:Int)(p:Bc):Bool:=decide (p.r.k=k)
def QY(k:Int)(p:Bc):Bool:=decide (p.l.k=k)
def Ex(rows:List AX):List Bc:=(List.range (rows.length/2)).map fun k=>⟨rows.getD (2*k) AX.zero,rows.getD (2*k+1) AX.zero⟩
def DZ(ps:List Bc):List AX:=ps.flatMap fun p=>[p.l,p.r]
def jnT(q:QM)(c:Chg)(ps:List Bc):List Bc×Bool:=
 if c.t=q.ot then
  (if c.has then(ps.map fun p=>if Ha c.k p then⟨p.l,⟨c.t,c.k,c.n⟩⟩else p,c.had)else(ps.filter fun p=>!Ha c.k p,c.had))
 else match afQ q c with
  |none=>(ps.filter fun p=>!QY c.k p,true)
  |some y=>if Gy (Ha (mQ q (afQ q c))) ps<0 then(ps.filter fun p=>!QY c.k p,(bfQ q c).isSome&&decide (mQ q (bfQ q c)=mQ q (afQ q c)))
   else(PV (fun p=>Kc q y p.l) (ps.filter fun p=>!QY c.k p) ⟨y,(ps.getD (Gy (Ha (mQ q (afQ q c))) ps).toNat ⟨AX.zero,AX.zero⟩).r⟩,true)
def DD(q:QM)(c:Chg)(r:CB):CB×Bool:=if q.tb=q.ot then(r,false)else(⟨DZ (jnT q c (Ex r.rows)).1,r.val,r.fnd⟩,(jnT q c (Ex r.rows)).2)
theorem KP(rows:List AX):(Ex rows).length=rows.length/2:=by unfold Ex;rw [B8,cU]
theorem ry{rows:List AX}{x y:AX}(hx:rows[2*k]?=some x)(hy:rows[2*k+1]?=some y):(Ex rows)[k]?=some ⟨x,y⟩:=by
 have h:=(C4.1 hy).1;unfold Ex;rw [E0,aq A1,NX,N6,N6,hx,hy];rfl
theorem IJ:∀ps:List Bc,(DZ ps).length=2*ps.length
 |[]=>rfl
 |p::ps=>by
  have:=IJ ps;unfold DZ at*;rw [HW,BW,this,Dd];simp;omega
variable{ps:List Bc}{p:Bc}
theorem Sk(h:ps[k]?=some p):DZ (ps.take (k+1))=DZ (ps.take k)++[p.l,p.r]:=by
 unfold DZ;rw [Bn h,Pu,oe]
theorem kC(q:QM)(c:Chg)(ps:List Bc):(jnT q c ps).1.length<=ps.length+1:=by
 have g:=ON (fun p=>!Ha c.k p) ps;have h2:=ON (fun p=>!QY c.k p) ps
 unfold jnT;split
 · split
   · simp only [B8];omega
   · simp only;omega
 · split
   · simp only;omega
   · split
     · simp only;omega
     · simp only [nW];omega
theorem yP(q:QM)(c:Chg)(m G:B6)(o n:Int)(g:Nat)(x:Bc):BB prog 294 #[.agg #[I4 x.l.t,I4 x.l.k,I4 x.l.v.a,I4 x.l.v.b,I4 x.l.v.c,I4 x.r.t,I4 x.r.k,I4 x.r.v.a,I4 x.r.v.b,I4 x.r.v.c],I5 g] [[(g,.cells (q.GW c m G o n) 262 (0,0))]] (.bool (Ha c.k x)):=by
 refine Se func294 ntmps294 [0,1] ?_;intro u R;refine A0<|Ze (Bx #[I4 x.l.t,I4 x.l.k,I4 x.l.v.a,I4 x.l.v.b,I4 x.l.v.c,I4 x.r.t,I4 x.r.k,I4 x.r.v.a,I4 x.r.v.b,I4 x.r.v.c])<|AG fun I=>A4 Y<|A0<|Zh 5 W1 V rfl B0 Y<|Zv (Ar (off:=1) G0 V rfl A6 Y)<|Zl AF Y<|Zh 7 DP V rfl C7 Y<|Zv (Ar (off:=1) C0 V rfl A6 Y)<|Zl AF Y<|Zv (CK Y Y)<|A4 Y<|AJ<|AO V results294 Y (by exact ⟨V,V⟩)
theorem yO(q:QM)(c:Chg)(m G:B6)(o n:Int)(g:Nat)(x:Bc):BB prog 295 #[.agg #[I4 x.l.t,I4 x.l.k,I4 x.l.v.a,I4 x.l.v.b,I4 x.l.v.c,I4 x.r.t,I4 x.r.k,I4 x.r.v.a,I4 x.r.v.b,I4 x.r.v.c],I5 g] [[(g,.cells (q.GW c m G o n) 262 (0,0))]] (.bool (QY c.k x)):=by
 refine Se func295 ntmps295 [0,1] ?_;intro u R;refine A0<|Ze (Bx #[I4 x.l.t,I4 x.l.k,I4 x.l.v.a,I4 x.l.v.b,I4 x.l.v.c,I4 x.r.t,I4 x.r.k,I4 x.r.v.a,I4 x.r.v.b,I4 x.r.v.c])<|AG fun I=>A4 Y<|A0<|Zh 0 W1 V rfl B0 Y<|Zv (Ar (off:=1) G0 V rfl A6 Y)<|Zl AF Y<|Zh 7 DP V rfl C7 Y<|Zv (Ar (off:=1) C0 V rfl A6 Y)<|Zl AF Y<|Zv (CK Y Y)<|A4 Y<|AJ<|AO V results295 Y (by exact ⟨V,V⟩)
theorem yN(q:QM)(c:Chg)(m G:B6)(o n:Int)(g:Nat)(x:Bc):BB prog 297 #[.agg #[I4 x.l.t,I4 x.l.k,I4 x.l.v.a,I4 x.l.v.b,I4 x.l.v.c,I4 x.r.t,I4 x.r.k,I4 x.r.v.a,I4 x.r.v.b,I4 x.r.v.c],I5 g] [[(g,.cells (q.GW c m G o n) 262 (0,0))]] (.bool (Ha n x)):=by
 refine Se func297 ntmps297 [0,1] ?_;intro u R;refine A0<|Ze (Bx #[I4 x.l.t,I4 x.l.k,I4 x.l.v.a,I4 x.l.v.b,I4 x.l.v.c,I4 x.r.t,I4 x.r.k,I4 x.r.v.a,I4 x.r.v.b,I4 x.r.v.c])<|AG fun I=>A4 Y<|A0<|Zh 5 W1 V rfl B0 Y<|Zv (Ar (off:=1) G0 V rfl A6 Y)<|Zl AF Y<|Zh 20 DP V rfl A6 Y<|Zl AF Y<|Zv (CK Y Y)<|A4 Y<|AJ<|AO V results297 Y (by exact ⟨V,V⟩)
theorem yM(g:Nat)(us:List A3)(I:AX->Bool)(m:∀(args:AH) (w:AD),(callFunc g args).run prog w= .ok (.enter g args) w)(J:∀x:AX,BB prog g (.agg x.A97::us).toArray [B] (.bool (I x)))(G:Nat)(x:Bc):BB prog 299 #[.agg #[I4 x.l.t,I4 x.l.k,I4 x.l.v.a,I4 x.l.v.b,I4 x.l.v.c,I4 x.r.t,I4 x.r.k,I4 x.r.v.a,I4 x.r.v.b,I4 x.r.v.c],I5 G] [[(G,.cells #[.func (.func g) #[] us.toArray] 242 (0,0))],B] (.bool (I x.l)):=by
 refine Se func299 ntmps299 [0,1] ?_;intro u R;refine A0<|Ze (Bx #[I4 x.l.t,I4 x.l.k,I4 x.l.v.a,I4 x.l.v.b,I4 x.l.v.c,I4 x.r.t,I4 x.r.k,I4 x.r.v.a,I4 x.r.v.b,I4 x.r.v.c])<|AG fun O=>A4 Y<|A0<|Zl isAgg242 Y ?_;refine Zh 0 W1 V rfl B0 Y<|Zo Wh (AA (cs:=x.l.A97) D0 B0 Y B1 As) ?_;refine Xr [_] Y (m) Y V (J x.l) ?_;refine A4 Y<|AJ<|AO V results299 Y (by exact ⟨V,V⟩)
theorem lu(m:ps[k]?=some p)(x:AX):(Ao ps).take (0+k*10+5)++Af [x]++(Ao ps).drop (0+k*10+5+(Af [x]).length)=Ao (ps.set k ⟨p.l,x⟩):=by
 have J:=(C4.1 m).1;have e:(Ao (ps.take k)).length=k*10:=by rw [BG,CC];omega
 have I:Ao [p]=Af [p.l]++Af [p.r]:=rfl;have g:∀r:AX,(Af [r]).length=5:=fun r=>rfl
 have e1:Ao ps=(Ao (ps.take k)++Af [p.l])++(Af [p.r]++Ao (ps.drop (k+1))):=by
  rw [SH m,I];simp
 have e2:(Ao (ps.take k)++Af [p.l]).length=0+k*10+5:=by rw [BW,e,g];omega
 rw [e1,Hb e2,g,<-bj,Wc e2,Wc (g p.r),ln,Ax J];have G:Ao (ps.take k++⟨p.l,x⟩::ps.drop (k+1))=Ao (ps.take k)++(Ao [⟨p.l,x⟩]++Ao (ps.drop (k+1))):=by
  rw [<-DJ,<-DJ];rfl
 rw [G,show Ao [⟨p.l,x⟩]=Af [p.l]++Af [x] from rfl];simp
theorem Qt(G:C9 cur 0 (Ao ps))(W:ps[k]?=some p):cur[0+k*10+5+1]?=some (I4 p.r.k)/\0+k*10+5+5<=cur.size/\cur.extract (0+k*10+5) (0+k*10+5+5)=p.r.A97:=by
 have g:∀j u,j<10->(Ao [p])[j]?=some u->cur[k*10+j]?=some u:=fun j u J m=>by
  have:=G.get (k*10+j) u ((J5 W j J).trans m);rwa [DM]at this
 have O:=g 6 _ AW rfl;have U:=g 9 _ AW rfl
 have X:k*10+9<cur.size:=(HU.1 U).1;refine ⟨by rw [show 0+k*10+5+1=k*10+6 by omega];exact O,by omega,?_⟩;apply HX.1;apply Mu;intro j;rw [HR,eA];split
 · rename_i J
   have I:j<5:=by omega
   obtain ⟨u,m⟩:∃u,(Af [p.r])[j]?=some u:=⟨_,B7 (by rw [BH];simpa using I)⟩;have h2:=g (5+j) u A1 (by
    rw [show Ao [p]=Af [p.l]++Af [p.r] from rfl,T0 (by rw [BH];simp),BH];rw [show 5+j - [p.l].length*5=j by simp];exact m)
   rw [show 0+k*10+5+j=k*10+(5+j) by omega,h2];exact m.symm
 · rw [MY]
   show(Af [p.r]).length<=j;rw [BH];simp only [Fl];omega
def Nz(c:Chg)(ps:List Bc)(i:Nat):List Bc:=(ps.take i).map (fun p=>if Ha c.k p then⟨p.l,⟨c.t,c.k,c.n⟩⟩else p)++ps.drop i
theorem tZ(c:Chg)(ps:List Bc)(i:Nat)(hi:i<=ps.length):(Nz c ps i).length=ps.length:=by
 unfold Nz;simp only [BW,B8,CC,CD];omega
variable{c:Chg}
theorem Xb(g:ps[i]?=some p):(Nz c ps i)[i]?=some p:=by
 have hi:=(C4.1 g).1;unfold Nz;rw [T0 (by rw [B8,CC];omega),B8,CC,RT A1,Wf,Q2,Rg,g]
theorem WB(g:ps[i]?=some p):Nz c ps (i+1)=(Nz c ps i).set i (if Ha c.k p then⟨p.l,⟨c.t,c.k,c.n⟩⟩else p):=by
 have hi:=(C4.1 g).1;have m:((ps.take i).map (fun p=>if Ha c.k p then(⟨p.l,⟨c.t,c.k,c.n⟩⟩:Bc)else p)).length=i:=by rw [B8,CC];omega
 unfold Nz;rw [Bn g,C2,mB (h:=by omega),m,Wf];obtain ⟨_,rfl⟩:=C4.1 g;rw [S8 hi,List.set_cons_zero];simp
theorem qW(g:ps[i]?=some p):ps.set i p=ps:=by
 obtain ⟨hi,rfl⟩:=C4.1 g;exact List.set_getElem_self hi
theorem tx(g:Nat)(us:List A3)(I:AX->Bool)(G:∀(args:AH) (w:AD),(callFunc g args).run prog w= .ok (.enter g args) w)(J:∀x:AX,BB prog g (.agg x.A97::us).toArray [B] (.bool (I x)))(m:Nat)(x:Bc):BB prog 299 (.agg #[I4 x.l.t,I4 x.l.k,I4 x.l.v.a,I4 x.l.v.b,I4 x.l.v.c,I4 x.r.t,I4 x.r.k,I4 x.r.v.a,I4 x.r.v.b,I4 x.r.v.c]::([I5 m]:List A3)).toArray [[(m,.cells #[.func (.func g) #[] us.toArray] 242 (0,0))]++B] (.bool (I x.l)):=by
 refine H6 (yM g us I G J m x) B4 ?_;rintro r H' ⟨rfl,rfl⟩;exact ⟨_,⟨V,V⟩,by simp⟩
variable{q:QM}
theorem Xk{G I:B6}{g:Nat}{f:Bc->Bool}{m:Nat}(h:∀x,BB prog m #[.agg #[I4 x.l.t,I4 x.l.k,I4 x.l.v.a,I4 x.l.v.b,I4 x.l.v.c,I4 x.r.t,I4 x.r.k,I4 x.r.v.a,I4 x.r.v.b,I4 x.r.v.c],I5 g] [[(g,.cells (q.GW c G I (mQ q (bfQ q c)) (mQ q (afQ q c))) 262 (0,0))]] (.bool (f x)))(x:Bc):BB prog m (.agg #[I4 x.l.t,I4 x.l.k,I4 x.l.v.a,I4 x.l.v.b,I4 x.l.v.c,I4 x.r.t,I4 x.r.k,I4 x.r.v.a,I4 x.r.v.b,I4 x.r.v.c]::([I5 g]:List A3)).toArray [[(g,.cells (q.GW c G I (mQ q (bfQ q c)) (mQ q (afQ q c))) 262 (0,0))]] (.bool (f x)):=h x
theorem yY(h:c.has=true):EP c c.has c.n=⟨c.t,c.k,c.n⟩:=by unfold EP;rw [Ax h]
theorem tq(c:Chg)(ps:List Bc):Nz c ps ps.length=ps.map fun p=>if Ha c.k p then⟨p.l,⟨c.t,c.k,c.n⟩⟩else p:=by unfold Nz;rw [GS,k8,DG]
variable{s2:List A9}
set_option maxHeartbeats 1000000 in
theorem gu(q:QM)(gq:0<=q.cl/\q.cl<=3)(c:Chg)(W p2:B6)(e1:W.isSome=(bfQ q c).isSome)(h2:Iq p2 (afQ q c) s2){sl:List A9}(hl:Bd 10 364 v ps.length (Ao ps) sl)(hn:ps.length<=100000000):BZ prog 260 #[.agg (q.GW c W p2 (mQ q (bfQ q c)) (mQ q (afQ q c))),v] [sl,s2] (fun w H'=>∃v' s',w= .tuple #[v',.bool (jnT q c ps).2]/\Bd 10 364 v' (jnT q c ps).1.length (Ao (jnT q c ps).1) s'/\H'=[s']):=by
 have l9:=mL;obtain ⟨pl,bn,rfl⟩:=hl.form;have hU:=Np hl A1
 have l8:(ps.filter fun p=>!QY c.k p).length<=ps.length:=ON _ _;refine Se func260 ntmps260 [0,1] ?_;intro u R;refine A0<|Ze (Es Y (cs:=(q.GW c W p2 (mQ q (bfQ q c)) (mQ q (afQ q c)))) (GA q c W p2 (mQ q (bfQ q c)) (mQ q (afQ q c))))<|AG fun be=>Za Y<|A4 Y<|Zq<|A0<|Zh 7 DP V rfl C7 Y<|Zv (Ar (off:=0) C0 V rfl A6 Y)<|Zl AF Y<|Zh 0 DP V rfl CN Y<|Zv (Ar (off:=6) CT V rfl A6 Y)<|Zl AF Y<|Zv (CK Y Y)<|A5<|Aq Y (fun O=>?_) (fun O=>?_);·
  refine A0<|Zh 7 DP V rfl C7 Y<|Zo Wh (AA (cs:=c.A96) G2 C7 Y B1 As)<|Xr [_] Y call136 Y V (Oo c) ?_;obtain ⟨y9,d9⟩:∃y,y=EP c c.has c.n:=⟨_,rfl⟩;rw [<-d9];refine Zm Y<|Zd Y V<|Zd Y V<|Ze (Al F0 #[_,_,_,_,_])<|AG fun l5=>Xe (Xw B0 y9.A97)<|AN Y<|Zn [1,2,6,7] ?_;refine Zx<|Zq<|A0<|Zm Y<|Zv (Br Y)<|A5<|AU Y (fun hh=>?_) (fun hh=>?_);·
   have ax:c.has=false:=by simpa using hh
   refine Zq<|Az (n:=8) (0::0::3::0::8::24::7::127::[]) 4 AE AE V<|A2 0 V (AP Y)<|A2 1 V (Bh (vs:=[]) (us:=[_]) Y Y)<|A2 3 V (AB (off:=7) DP V rfl C7 Y)<|A2 4 V (Ar (off:=2) C0 V rfl Cp Y)<|B9 5 V E6 Y<|Zz (l:=[2])<|B5 [true] [(5,(_,_))] V rfl (Zw [_,_] Y call293 Y V (NN (B:=[(be,.cells (q.GW c W p2 (mQ q (bfQ q c)) (mQ q (afQ q c))) 262 (0,0))]) hU A1 294 [I5 be] (Ha c.k) call294 (Xk fun x=>yP q c W p2 (mQ q (bfQ q c)) (mQ q (afQ q c)) be x))) ?_ Bw Ah;rintro _ _ ⟨_,⟨s9,h9,rfl⟩,rfl⟩;refine ⟨Zk (Aa),?_⟩;obtain ⟨g9,c9,rfl⟩:=h9.form;refine A2 6 V (Aw Y)<|A2 7 V (Aw Y)<|Ag<|Zx<|AJ<|Zt<|Zt<|Cv V ef Y Y (by
    have G:jnT q c ps=(ps.filter fun p=>!Ha c.k p,c.had):=by unfold jnT;rw [Ax O,An (by rw [ax];decide)]
    exact ⟨.slice g9 _ c9,s9,by rw [G],by rw [G];exact h9,rfl⟩)
  have ax:c.has=true:=by simpa using hh
  rw [yY ax]at d9;refine AC<|Zx<|Zq<|A0<|Zm Y<|Zv (AY GC Y)<|Zm Y<|A5<|AQ<|Zb [35,1,2,6,34] ?_;refine BA (e0:=[(35,_)]) (fun m e H=>∃(i:Nat) (sk:List A9),m=ps.length -i/\(i<=ps.length/\Bd 10 364 (.slice pl ps.length bn) ps.length (Ao (Nz c ps i)) sk)/\e=[(35,I4 (i:Int))]/\H=[sk]) (by exact ⟨0,sl,V,⟨C5 _,hl⟩,V,V⟩) Wp ?_;rintro _ _ _ ⟨i,sk,rfl,⟨hi,U⟩,rfl,rfl⟩;refine A0<|Zv (Au Y Y)<|A5<|Zq<|Aq Y (fun af=>?_) (fun af=>?_);·
   obtain ⟨p,hp⟩:∃p,ps[i]?=some p:=⟨_,B7 af⟩;obtain ⟨g,gm,cur,z,cO,rfl,j3,Z⟩:=E9 U A1;injection cO with hv1 hv2 hv3
   subst hv1 hv3;obtain ⟨_,X,_,kv,ic⟩:=Jf U;obtain ⟨h6,j5,_⟩:=Qt Z (Xb hp);refine AC<|Zx<|Zq<|AQ<|A0<|Zm Y<|A4 Y<|Zq<|Az (n:=10) (0::0::3::7::15::31::0::64::192::511::[]) 0 AE AE V<|A2 0 V (AP Y)<|A2 1 V (AP Y)<|A2 2 V (Ad GC H3 Y Y A1)<|A2 3 V (Ar (off:=5) W1 V rfl B0 Y)<|A2 4 V (Ar (off:=1) G0 V rfl A6 Y)<|B9 5 V AF Y (hv:=by exact h6)<|A2 6 V (AB (off:=7) DP V rfl C7 Y)<|A2 7 V (Ar (off:=1) C0 V rfl A6 Y)<|B9 8 V AF Y<|A2 9 V (CK Y Y)<|Ag<|Zn [1,2,6,8,34,35,47] ?_;refine Zx<|Aq Y (fun hk=>?_) (fun hk=>?_);·
    have e9:Nz c ps (i+1)=(Nz c ps i).set i ⟨p.l,y9⟩:=by rw [WB hp,Ax (by unfold Ha;simp [hk]),d9]
    have J:=BS (xs':=Ao (Nz c ps (i+1))) (EU (i:=0+i*10+5) (ys:=Af [y9]) U (by rw [BG,BH,Fl,tZ c ps i hi];omega)) rfl (by rw [e9];exact lu (Xb hp) y9);refine Zg<|Zm Y<|Zm Y<|Zo Wh (AA (cs:=y9.A97) D0 B0 Y B1 As)<|BV (Ad GC H3 Y Y A1)<|Zv (Ar (off:=5) W1 rfl rfl B0 Y)<|Xe (BM B0 Y Y HT Wu (by exact (rfl:_=EO cur (0+i*10+5) (Af [y9]))) Fc A1 ic)<|Z0<|A8<|Zx<|Zg<|Ya (n:=1) Y Y<|Zm Y<|Z0<|Zn [35,1,2,6,34] ?_;refine Ab (e':=[(35,_)]) (by exact ⟨i+1,_,V,⟨by omega,J⟩,V,V⟩)
   have e9:Nz c ps (i+1)=Nz c ps i:=by rw [WB hp,An (by unfold Ha;simp [hk]),qW (Xb hp)]
   have J:=U;rw [<-e9]at J;refine AC<|A8<|Zx<|Zg<|Ya (n:=1) Y Y<|Zm Y<|Z0<|Zn [35,1,2,6,34] ?_;refine Ab (e':=[(35,_)]) (by exact ⟨i+1,_,V,⟨by omega,J⟩,V,V⟩)
  have ei:i=ps.length:=by omega
  subst ei;rw [tq]at U;refine Ay<|Zt<|Zt<|AR<|Zx<|Zq<|Az (n:=6) (0::0::2::6::1::31::[]) 0 AE AE V<|A2 0 V (AP Y)<|A2 1 V (AB (off:=7) DP V rfl C7 Y)<|A2 2 V (Ar (off:=2) C0 V rfl Cp Y)<|B9 3 V E6 Y<|A2 4 V (Aw Y)<|A2 5 V (Aw Y)<|Ag<|Zx<|AJ<|Zt<|Cv V ef Y Y (by
   have G:jnT q c ps=(ps.map fun p=>if Ha c.k p then⟨p.l,⟨c.t,c.k,c.n⟩⟩else p,c.had):=by unfold jnT;rw [Ax O,Ax ax]
   exact ⟨.slice pl ps.length bn,sk,by rw [G],by rw [G];exact BS U (B8 _).symm rfl,rfl⟩)
 refine AC<|Zx<|A0<|Zm Y<|Zv (Bh (vs:=[]) (us:=[_]) Y Y)<|Zc [_,_] Y call293 Y V (NN (B:=[(be,.cells (q.GW c W p2 (mQ q (bfQ q c)) (mQ q (afQ q c))) 262 (0,0))]) hU A1 295 [I5 be] (QY c.k) call295 (Xk fun x=>yO q c W p2 (mQ q (bfQ q c)) (mQ q (afQ q c)) be x)) ?_;rintro _ _ ⟨_,⟨s9,h9,rfl⟩,rfl⟩;obtain ⟨g9,c9,rfl⟩:=h9.form;refine AN Y<|Zn [1,2,9] ?_;refine Zx<|Zq<|A0<|Zh 18 DP V rfl Kx Y<|Zl N3 Y<|Zv (Nw Sf Y Y)<|A5<|AU Y (fun cu=>?_) (fun cu=>?_);·
  have hy:afQ q c=none:=by have h8:=h2.some_;cases I:afQ q c with|none=>rfl|some y=>(rw [I]at h8;cases p2<;>simp at cu h8)
  refine A0<|Zm Y<|Za Y<|A4 Y<|AJ<|Zt<|Cv V ef Y Y (by
   have G:jnT q c ps=(ps.filter fun p=>!QY c.k p,true):=by unfold jnT;rw [An O,hy]
   exact ⟨.slice g9 _ c9,s9,by rw [G],by rw [G];exact h9,rfl⟩)
 obtain ⟨y,hy⟩:∃y,afQ q c=some y:=j1.1 (by rw [<-h2.some_];cases p2<;>simp at cu⊢);rw [hy]at h2;obtain ⟨b2,rfl,rfl⟩:=h2;refine AC<|Zx<|A0<|Zm Y<|Zv (Bh (vs:=[]) (us:=[_]) Y Y)<|Xr [_,_] Y call296 Y V (MW (B:=[(be,.cells #[I4 q.kd,I4 q.tb,I4 q.cl,I4 q.lo,I4 q.hi,I4 q.bq,I4 q.ot,I4 c.t,I4 c.k,.bool c.had,I4 c.o.a,I4 c.o.b,I4 c.o.c,.bool c.has,I4 c.n.a,I4 c.n.b,I4 c.n.c,.pointer W,I5 b2,I4 (mQ q (bfQ q c)),I4 (mQ q (afQ q c))] 262 (0,0))]) hU 297 [I5 be] (Ha (mQ q (afQ q c))) call297 (Xk fun x=>yN q c W (some ⟨b2,0,none⟩) (mQ q (bfQ q c)) (mQ q (afQ q c)) be x)) ?_;have X:=U2 (Ha (mQ q (afQ q c))) ps
 obtain ⟨z9,ek⟩:∃z,z=Gy (Ha (mQ q (afQ q c))) ps:=⟨_,rfl⟩;rw [<-ek]at X⊢;refine A4 Y<|Zq<|A0<|Zm Y<|Zv (Dw Y Y)<|A5<|Aq Y (fun af=>?_) (fun af=>?_);·
  have G:jnT q c ps=(ps.filter fun p=>!QY c.k p,(bfQ q c).isSome&&decide (mQ q (bfQ q c)=mQ q (afQ q c))):=by unfold jnT;rw [An O];split;rename_i I;rw [hy]at I;cases I;rw [Ax (by rw [<-ek];exact af)]
  refine Zq<|Az (n:=13) (0::0::2::6::14::30::62::30::158::510::1022::31::4095::[]) 0 AE AE V<|A2 0 V (AP Y)<|A2 1 V (AB (off:=17) DP V rfl Kx Y)<|B9 2 V N3 Y<|A2 3 V (Eo Sf Y Y)<|A2 4 V (AP Y)<|Ch (t:=74) Y (fun h1=>?_) (fun h1=>?_);·
   rw [h1];refine B3 5 V (AB (off:=19) DP V rfl A6 Y)<|DQ 6 V Wh (BO AF Y As)<|B3 7 V (AB (off:=20) DP V rfl A6 Y)<|DQ 8 V Wh (BO AF Y As)<|B3 9 V (CK Y Y)<|A2 10 V (AV Y Y)<|A2 11 V (Aw Y)<|A2 12 V (Aw Y)<|Ag<|Zn [4,5] ?_;refine Zx<|AJ<|Zt<|Cv rfl ef Y Y (by exact ⟨.slice g9 _ c9,s9,by rw [G,<-e1,h1];rfl,by rw [G];exact h9,rfl⟩)
  rw [h1];refine AM 5 V<|AM 6 V<|AM 7 V<|AM 8 V<|AM 9 V<|A2 10 V (AL Y Y)<|A2 11 V (Aw Y)<|A2 12 V (Aw Y)<|Ag<|Zn [4,5] ?_;refine Zx<|AJ<|Zt<|Cv rfl ef Y Y (by exact ⟨.slice g9 _ c9,s9,by rw [G,<-e1,h1];rfl,by rw [G];exact h9,rfl⟩)
 rcases X with⟨I,_⟩|⟨k,p,I,hp,_,_⟩
 · exact absurd I A1
 subst I;have G:jnT q c ps=((PV (fun p=>Kc q y p.l) (ps.filter fun p=>!QY c.k p) ⟨y,p.r⟩),true):=by
  unfold jnT;rw [An O];split;· rename_i I;rw [hy]at I;cases I
  · rename_i y0 I;rw [hy]at I;injection I with I;subst I;rw [<-ek,An A1,W8,N6,hp];rfl
 have hk:=(C4.1 hp).1;obtain ⟨g,gm,cur,z,cO,rfl,j3,Z⟩:=E9 hl A1;injection cO with hv1 hv2 hv3
 subst hv1 hv3;obtain ⟨_,j5,gy⟩:=Qt Z hp;refine AC<|Zx<|A0<|Zo Wh (AA cG Z2 Y B1 (BK V))<|Zc [_] Y call258 Y V (RL q gq c W (mQ q (bfQ q c)) (mQ q (afQ q c)) y b2) ?_;rintro _ _ ⟨_,⟨b8,b9,rfl,rfl⟩,rfl⟩;refine Ze (Al zeroValue242 #[_])<|AG fun bb=>Xe (Zs sizeOf242 Y Y V (hc:=by exact (V:_=(#[.func (.func 292) #[] ([I5 b8,I5 b9]:List A3).toArray]:AH))) (hi:=by decide))<|Z0<|Zn [1,2,9,10,11] ?_;refine Zx<|Zq<|CP (s1:=[(bb,_)]) (s2:=_++_++[(b2,_)]) Wo Wo ?_;refine Az (n:=15) (0::0::2::6::14::0::0::96::224::480::1022::0::4095::8191::16383::[]) 4096 AE AE V<|A2 0 V (AP Y)<|A2 1 V (AB (off:=18) DP V rfl Kx Y)<|B9 2 V N3 Y<|A2 3 V (Ap Y V)<|Ce (b:=b2) (x:= .cells y.A97 72 (0,0)) (D':=31) 4 V rfl V B4 (Pa y.A97 D0 B0 Y) ?_;refine A2 5 V (AP Y)<|A2 6 V (AP Y)<|A2 7 V (Ad GC H3 Y Y A1)<|A2 8 V (Ar (off:=5) W1 V rfl B0 Y)<|Fk 9 V Wh (AA (cs:=p.r.A97) D0 B0 Y A1 gy)<|A2 10 V (BL (vs:=[(0,.agg y.A97),(1,.agg p.r.A97)]) (cs:=#[I4 y.t,I4 y.k,I4 y.v.a,I4 y.v.b,I4 y.v.c,I4 p.r.t,I4 p.r.k,I4 p.r.v.a,I4 p.r.v.b,I4 p.r.v.c]) Y (AZ (pl:=#[(0,5),(5,5)]) gS W1 (fun _=>by kernel_rfl) AE))<|A2 11 V (Bh (vs:=[]) (us:=[_]) Y Y)<|Zz (l:=[12])<|B5 [false,false,false] [] V rfl (Zw [_,_,_] Y call298 Y V (Tz h9 A1 ⟨y,p.r⟩ 299 [I5 bb] (fun p=>Kc q y p.l) call299 (fun x=>tx 292 ([I5 b8,I5 b9]:List A3) (Kc q y) call292 (fun x=>cK q gq c W (mQ q (bfQ q c)) (mQ q (afQ q c)) y b2 b8 b9 x) bb x))) ?_ Bw Ah;rintro _ _ ⟨_,⟨s5,s6,h5,rfl⟩,rfl⟩;refine ⟨Aa,?_⟩;obtain ⟨g5,c5,rfl⟩:=h5.form;refine A2 13 V (Aw Y)<|A2 14 V (Aw Y)<|Ag<|Zn [4,5] ?_;refine Zx<|AJ<|Cv rfl ef Y Y (by exact ⟨.slice g5 _ c5,s5,by rw [G],by rw [G];exact h5,rfl⟩)
theorem fT(q:QM)(c:Chg)(r:CB):(DD q c r).1.val=r.val:=by unfold DD;split<;>rfl
theorem fU(q:QM)(c:Chg)(r:CB):(DD q c r).1.rows.length<=r.rows.length+2:=by
 unfold DD;split;· exact fh _ _
 · show(DZ _).length<=_
   have h:=kC q c (Ex r.rows);rw [KP]at h;rw [IJ];omega
theorem kM{rs:List AX}{x:AX}(g:C9 cur 0 (Af rs))(hx:rs[k]?=some x):k*5+5<=cur.size/\cur.extract (0+k*5) (0+k*5+5)=x.A97:=bD g hx
theorem vC(g:C9 cur 0 (Ao rs))(hx:rs[k]?=some x):k*10+10<=cur.size/\cur.extract (0+k*10) (0+k*10+10)=#[I4 x.l.t,I4 x.l.k,I4 x.l.v.a,I4 x.l.v.b,I4 x.l.v.c,I4 x.r.t,I4 x.r.k,I4 x.r.v.a,I4 x.r.v.b,I4 x.r.v.c]:=WR g hx
variable{r:CB}{rv:A3}
set_option maxHeartbeats 1000000 in
theorem fH(q:QM)(l8:0<=q.cl/\q.cl<=3)(c:Chg)(p1 p2:B6)(e1:p1.isSome=(bfQ q c).isSome)(h2:Iq p2 (afQ q c) s2){sr:List A9}(hr:Bd 5 72 rv r.rows.length (Af r.rows) sr)(hn:r.rows.length<=100000000):BZ prog 220 #[.agg (q.GW c p1 p2 (mQ q (bfQ q c)) (mQ q (afQ q c))),.agg #[rv,I4 r.val,.bool r.fnd]] [sr,s2] (fun w H'=>∃j5 s',w= .tuple #[.agg #[j5,I4 (DD q c r).1.val,.bool (DD q c r).1.fnd],.bool (DD q c r).2]/\Bd 5 72 j5 (DD q c r).1.rows.length (Af (DD q c r).1.rows) s'/\H'=[s']):=by
 have pg:=mL;obtain ⟨pv,cv,rfl⟩:=hr.form;refine Se func220 ntmps220 [0,1] ?_;intro u R;refine A0<|Ze (Es Y (cs:=(q.GW c p1 p2 (mQ q (bfQ q c)) (mQ q (afQ q c)))) (GA q c p1 p2 (mQ q (bfQ q c)) (mQ q (afQ q c))))<|AG fun be=>Ze (Bx #[.slice pv r.rows.length cv,I4 r.val,.bool r.fnd])<|AG fun br=>Ze (Al Gk #[_,_,_])<|AG fun bo=>A4 Y<|Zq<|A0<|Zh 0 DP V rfl CN Y<|Zv (Ar (off:=1) CT V rfl A6 Y)<|Zl AF Y ?_;refine Zh 0 DP V rfl CN Y<|Zv (Ar (off:=6) CT V rfl A6 Y)<|Zl AF Y ?_;refine Zv (CK Y Y)<|A5<|Aq Y (fun Z=>?_) (fun Z=>?_);·
  refine A0<|Zo Wh (AA (cs:=#[_,_,_]) C6 B2 Y B1 As) ?_;refine Xe (Xw B2 _) ?_;refine AN Y<|Zn [4,5] ?_;refine Zx<|AJ<|Zt<|Bj V results220 Y Wh (Am C6 B2 Wn (V)) Y (by
   have e8:DD q c r=(r,false):=by unfold DD;rw [Ax Z]
   exact ⟨.slice pv r.rows.length cv,sr,by rw [e8];rfl,by rw [e8];exact hr,rfl⟩)
 refine AC<|Zx<|A0<|A4 Y<|Zq<|Zq<|BX<|Zg<|AN Y<|Zn [2,3,4,6,7] ?_;refine Zx<|AQ<|Zb [6,7,2,3,4] ?_;refine BA (e0:=[(6,_),(7,_)]) (fun m e H=>∃(k:Nat) (O:B6) (ck:Nat) (X:List A9),m=r.rows.length -k/\(k<=r.rows.length/2/\Bd 10 364 (.slice O k ck) k (Ao ((Ex r.rows).take k)) X)/\e=[(6,.slice O k ck),(7,I4 ((2*k:Nat):Int))]/\H=[X]) (by exact ⟨0,none,0,[],V,⟨C5 _,Bf 10 _⟩,V,V⟩) Wp ?_;rintro _ _ _ ⟨k,O,ck,X,rfl,⟨hk,I⟩,rfl,rfl⟩;refine Zq<|Zq<|BX<|Zg<|Zm Y<|Ya (n:=1) Y Y<|Zh 0 CH V rfl CI Y<|Zl Fm Y ?_;refine Zv (AY BE Y)<|Zv (Au Y Y)<|A5<|Aq Y (fun J=>?_) (fun J=>?_);·
  obtain ⟨x,hx⟩:∃x,r.rows[2*k]?=some x:=⟨_,B7 A1⟩;obtain ⟨y,hy⟩:∃y,r.rows[2*k+1]?=some y:=⟨_,B7 A1⟩;obtain ⟨g,ax,cur,z,af,rfl,ic,G⟩:=E9 hr A1;injection af with hv1 hv2 hv3
  subst hv1 hv3;obtain ⟨p8,gm⟩:=kM G hx;obtain ⟨p9,gy⟩:=kM G hy;refine AC<|Zx<|Zq<|AQ<|Az (n:=16) (0::0::2::0::14::30::0::64::0::256::960::1984::4094::8190::16383::32767::[]) 24576 AE AE V<|A2 0 V (AP Y)<|A2 1 V (AB (off:=0) CH V rfl CI Y)<|B9 2 V Fm Y ?_;refine A2 3 V (AP Y)<|A2 4 V (Ad BE B0 Y Y A1)<|Fk 5 V Wh (AA (cs:=#[_,_,_,_,_]) D0 B0 Y A1 gm) ?_;refine A2 6 V (AB (off:=0) CH V rfl CI Y)<|B9 7 V Fm Y ?_;refine A2 8 V (AP Y)<|A2 9 V (ED (n:=1) Y Y A1)<|A2 10 V (Ad BE B0 Y Y A1)<|Fk 11 V Wh (AA (cs:=#[_,_,_,_,_]) D0 B0 Y A1 gy) ?_;refine A2 12 V (BL (vs:=[(0,.agg x.A97),(1,.agg y.A97)]) (cs:=#[I4 x.t,I4 x.k,I4 x.v.a,I4 x.v.b,I4 x.v.c,I4 y.t,I4 y.k,I4 y.v.a,I4 y.v.b,I4 y.v.c]) Y (AZ (pl:=#[(0,5),(5,5)]) gS W1 (fun _=>by kernel_rfl) AE))<|Yw 13 16383 V (Ai (vs:=[_]) (cs:=[_,_,_,_,_,_,_,_,_,_]) GC H3 gS Y V rfl V rfl V)<|AG fun gp=>Yw 14 32767 V (BR (by_:=80) (sz:=10) GC (V:Tryz.prog.info? 364=some Tryz.t364) V rfl V rfl Y (I) Y (DN 10 gp 1 1 364 (0,0) (Ao [⟨x,y⟩]) V) Wo Wo (by exact Ej _) A1 A1) ?_;rintro _ _ ⟨l9,U,rfl⟩;obtain ⟨l5,kv,rfl⟩:=U.form;refine A2 15 V (Aw Y)<|Ag<|Zn [2,3,4,6,7] ?_;refine A8<|Zx<|BX<|Zg<|Zm Y<|Ya (n:=2) Y Y<|AN Y<|Zn [6,7,2,3,4] ?_;refine Ab (e':=[(6,_),(7,_)]) (by exact ⟨k+1,l5,kv,l9,rfl,⟨by omega,BS U rfl (by rw [Bn (ry hx hy),DJ])⟩,rfl,rfl⟩)
 have ek:k=(Ex r.rows).length:=by rw [KP];omega
 have j3:=BS I ek (by rw [ek,GS]);refine Ay<|Zt<|Zt<|AR<|Zx<|A0<|Zo Wh (AA cG Z2 Y B1 (BK V)) ?_;refine Zm Y<|Zc [_,_] Y call260 Y rfl (gu q l8 c p1 p2 e1 h2 j3 (by rw [KP];omega)) ?_;rintro _ _ ⟨_,⟨lv,s5,rfl,h5,rfl⟩,rfl⟩;have e8:DD q c r=(⟨DZ (jnT q c (Ex r.rows)).1,r.val,r.fnd⟩,(jnT q c (Ex r.rows)).2):=by unfold DD;rw [An Z]
 have cO:=kC q c (Ex r.rows);rw [KP]at cO;obtain ⟨L,hL⟩:∃L,L=(jnT q c (Ex r.rows)).1:=⟨_,rfl⟩;rw [<-hL]at h5 e8 cO;obtain ⟨g5,c5,rfl⟩:=h5.form;refine Zm Y<|Zd Y V<|Zd Y V<|Za Y<|AN Y<|Zn [3,4,6,8] ?_;refine Zx<|A0<|Zh 0 CH V rfl CI Y<|Xe (Zs CI Y Y V (hc:=by exact (V:_=(#[.slice none 0 0,I4 r.val,.bool r.fnd]:AH))) (hi:=by(simp;done))) ?_;refine A5<|Zq<|Zq<|BX<|Zg<|Zm Y<|Zv (AY GC Y)<|Zm Y<|A5<|AQ<|Zb [51,3,4,8,49,50] ?_;refine BA (e0:=[(51,_)]) (fun m e H=>∃(k:Nat) (O:B6) (ck:Nat) (X:List A9),m=L.length -k/\(k<=L.length/\Bd 5 72 (.slice O (2*k) ck) (2*k) (Af (DZ (L.take k))) X)/\e=[(51,I4 (k:Int))]/\H=[[(br,.cells #[.slice O (2*k) ck,I4 r.val,.bool r.fnd] 54 (0,0))],X]) (by exact ⟨0,none,0,[],V,⟨C5 _,Bf 5 _⟩,V,V⟩) Wp ?_;rintro _ _ _ ⟨k,O,ck,X,rfl,⟨hk,I⟩,rfl,rfl⟩;refine Zq<|BX<|Zg<|Zv (Au Y Y)<|A5<|Zq<|Aq Y (fun J=>?_) (fun J=>?_);·
  obtain ⟨p,hp⟩:∃p,L[k]?=some p:=⟨_,B7 J⟩;obtain ⟨g,ax,cur,z,af,rfl,ic,G⟩:=E9 h5 A1;injection af with hv1 hv2 hv3
  subst hv1 hv3;obtain ⟨o9,d9⟩:=vC G hp;refine AC<|Zx<|Zq<|AQ<|Zq<|BX<|Zg<|BV (Ad GC H3 Y Y A1)<|Zo Wh (AA (cs:=#[_,_,_,_,_,_,_,_,_,_]) isAgg364 H3 Y A1 d9) ?_;refine Ze (Al gS #[_,_,_,_,_,_,_,_,_,_])<|AG fun bp=>Xe (Xw H3 #[I4 p.l.t,I4 p.l.k,I4 p.l.v.a,I4 p.l.v.b,I4 p.l.v.c,I4 p.r.t,I4 p.r.k,I4 p.r.v.a,I4 p.r.v.b,I4 p.r.v.c]) ?_;refine A5<|Zg<|Zh 0 CH V rfl CI Y<|Zl Fm Y ?_;refine Zh 0 W1 V rfl B0 Y<|Zo Wh (AA (cs:=#[_,_,_,_,_]) D0 B0 Y B1 As) ?_;refine Zh 5 W1 V rfl B0 Y<|Zo Wh (AA (cs:=#[_,_,_,_,_]) D0 B0 Y B1 As) ?_;refine Ze (Ai (vs:=[_,_]) (cs:=[_,_,_,_,_,_,_,_,_,_]) BE B0 F0 Y V rfl V rfl V)<|AG fun gq=>Ze (BR (by_:=40) (sz:=5) BE (V:Tryz.prog.info? 72=some Tryz.t72) V rfl V rfl Y (I) Y (DN 5 gq 2 2 72 (0,0) (Af [p.l,p.r]) V) Wo Wo (by exact CU _) A1 A1) ?_;rintro _ _ ⟨o8,W,rfl⟩;obtain ⟨cu,bn,rfl⟩:=W.form;refine Zh 0 CH V rfl CI Y<|Xe (Zs CI Y Y V (hc:=by exact (V:_=(#[.slice cu (2*k+2) bn,I4 r.val,.bool r.fnd]:AH))) (hi:=by(simp;done))) ?_;refine Z0<|Zn [3,4,8,49,50,51] ?_;refine A8<|Zx<|BX<|Zg<|Ya (n:=1) Y Y<|Zm Y<|Z0<|Zn [51,3,4,8,49,50] ?_;refine Ab (e':=[(51,_)]) (by exact ⟨k+1,cu,bn,o8,rfl,⟨by omega,BS W rfl (by rw [Sk hp,Bi])⟩,rfl,rfl⟩)
 have ek:k=L.length:=by omega
 subst ek;rw [GS]at I;refine Ay<|Zt<|Zt<|AR<|Zx<|A0<|Zo Wh (AA (cs:=#[_,_,_]) C6 B2 Y B1 As) ?_;refine Zm Y<|Xe (Xw B2 _) ?_;refine A4 Y<|AJ<|Bj rfl results220 Y Wh (Am C6 B2 Wn (rfl)) Y (by exact ⟨.slice O (2*L.length) ck,X,by rw [e8];rfl,by rw [e8];exact BS I (IJ L).symm rfl,rfl⟩)
def Bv(q:QM)(c:Chg)(r:CB):CB×Bool:=
 if q.kd=1\/q.kd=2 then(⟨EB q c r.rows,r.val,r.fnd⟩,true)
 else if q.kd=3 then(⟨r.rows,if(afQ q c).isSome then r.val+1 else r.val -1,r.fnd⟩,true)
 else if q.kd=4 then(⟨r.rows,r.val+(mQ q (afQ q c) -mQ q (bfQ q c)),r.fnd⟩,true)
 else if q.kd=5 then Gf (fun a b=>decide (a<b)) (bfQ q c).isSome (afQ q c).isSome (mQ q (bfQ q c)) (mQ q (afQ q c)) r
 else if q.kd=6 then Gf (fun a b=>decide (b<a)) (bfQ q c).isSome (afQ q c).isSome (mQ q (bfQ q c)) (mQ q (afQ q c)) r
 else DD q c r
theorem fQ(q:QM)(c:Chg)(r:CB):(Bv q c r).1.rows.length<=r.rows.length+2:=by
 have h:=Uk q c r.rows;unfold Bv;split;· exact My h (Nat.le_succ _)
 · split
   · exact fh _ _
   · split
     · exact fh _ _
     · split
       · rw [NE];exact fh _ _
       · split
         · rw [NE];exact fh _ _
         · exact fU q c r
set_option maxHeartbeats 1000000 in
theorem Vm(q:QM)(c:Chg)(I J:B6)(o n:Int)(r:CB)(pv:B6)(kv U b G:Nat)(lt:Int->Int->Bool)(g:∀(args:AH) (w:AD),(callFunc G args).run prog w= .ok (.enter G args) w)(m:∀x y:Int,BB prog G #[I4 x,I4 y] [] (.bool (lt x y))):BB prog 259 #[.agg (q.GW c I J o n),.agg #[.slice pv kv U,I4 r.val,.bool r.fnd],I5 b] [[(b,.cells #[.func (.func G) #[] #[]] 224 (0,0))]] (.tuple #[.agg #[.slice pv kv U,I4 (Gf lt I.isSome J.isSome o n r).1.val,.bool (Gf lt I.isSome J.isSome o n r).1.fnd],.bool (Gf lt I.isSome J.isSome o n r).2]):=by
 refine Se func259 ntmps259 [0,1,2] ?_;intro u R;refine A0<|Ze (Es Y (cs:=(q.GW c I J o n)) (GA q c I J o n))<|AG fun be=>Ze (Bx #[.slice pv kv U,I4 r.val,.bool r.fnd])<|AG fun br=>Ze (Al Gk #[_,_,_])<|AG fun b3=>A4 Y<|Zq<|A0<|Zh 17 DP V rfl Kx Y<|Zl N3 Y ?_;refine Zv (Eo Sf Y Y)<|Zm Y<|Ae (t:=11) Y V (fun h1=>?_) (fun h1=>?_);·
  refine Yf 2 CH V rfl Cp Y<|Yl E6 Y ?_;refine Yg (Br Y)<|Zf Y Y ?_;refine Ae (t:=15) Y V (fun h2=>?_) (fun h2=>?_);·
   refine A7 Y V<|A7 Y V<|A7 Y V<|A7 Y V<|A7 Y V<|A7 Y V<|A7 Y V<|Yg (AV Y Y)<|Zv (AV Y Y)<|Z0<|Zn [2,3,4,5,24] ?_;refine Zx<|Co Y<|A0<|Zh 18 DP V rfl Kx Y<|Zl N3 Y ?_;refine Zv (Eo Sf Y Y)<|Zm Y<|Ae (t:=28) Y V (fun h4=>?_) (fun h4=>?_);·
    refine Yf 2 CH V rfl Cp Y<|Yl E6 Y ?_;refine Zv (AV Y Y)<|Zm Y<|Ae (t:=32) Y V (fun O=>?_) (fun O=>?_);·
     refine Yl isAgg224 Y ?_;refine Yf 1 CH V rfl A6 Y<|Yl AF Y ?_;refine Yf 20 DP V rfl A6 Y<|Yl AF Y ?_;refine Xr [_,_] Y (g) Y V (m (r.val) (n)) ?_;refine Yg (Br Y)<|Zv (AV Y Y)<|AN Y<|Zn [3,4,5,7] ?_;refine Zx<|A0<|Zh 20 DP V rfl A6 Y<|Zl AF Y ?_;refine Zh 1 CH V rfl A6 Y<|Xe (Zs A6 Y Y V (hi:=by(simp;done))) ?_;refine A5<|A0<|Zo Wh (AA (cs:=#[_,_,_]) C6 B2 Y B1 As) ?_;refine Zm Y<|Xe (Xw B2 _) ?_;refine A4 Y<|AJ<|Zt<|Bj V S3 Y Wh (Am C6 B2 Wn (V)) Y (by
      refine ⟨?_,V⟩;unfold Gf;simp_all<;>rfl)
    refine A7 Y V<|A7 Y V<|A7 Y V<|A7 Y V<|A7 Y V<|A7 Y V<|A7 Y V<|Zv (AL Y Y)<|AN Y<|Zn [3,4,5,7] ?_;refine Zx<|A0<|Zh 20 DP V rfl A6 Y<|Zl AF Y ?_;refine Zh 1 CH V rfl A6 Y<|Xe (Zs A6 Y Y V (hi:=by(simp;done))) ?_;refine A5<|A0<|Zo Wh (AA (cs:=#[_,_,_]) C6 B2 Y B1 As) ?_;refine Zm Y<|Xe (Xw B2 _) ?_;refine A4 Y<|AJ<|Zt<|Bj V S3 Y Wh (Am C6 B2 Wn (V)) Y (by
     refine ⟨?_,V⟩;unfold Gf;simp_all<;>rfl)
   refine A7 Y V<|A7 Y V<|Zv (AL Y Y)<|Zm Y<|A7 Y V<|A7 Y V<|A7 Y V<|A7 Y V<|A7 Y V<|A7 Y V<|A7 Y V<|Zv (AL Y Y)<|AN Y<|Zn [3,4,5,7] ?_;refine Zx<|A0<|Zh 20 DP V rfl A6 Y<|Zl AF Y ?_;refine Zh 1 CH V rfl A6 Y<|Xe (Zs A6 Y Y V (hi:=by(simp;done))) ?_;refine A5<|A0<|Zo Wh (AA (cs:=#[_,_,_]) C6 B2 Y B1 As) ?_;refine Zm Y<|Xe (Xw B2 _) ?_;refine A4 Y<|AJ<|Zt<|Bj V S3 Y Wh (Am C6 B2 Wn (V)) Y (by
    refine ⟨?_,V⟩;unfold Gf;simp_all<;>rfl)
  refine Yl isAgg224 Y ?_;refine Yf 1 CH V rfl A6 Y<|Yl AF Y ?_;refine Yf 19 DP V rfl A6 Y<|Yl AF Y ?_;refine Xr [_,_] Y (g) Y V (m (r.val) (o)) ?_;refine Yg (Br Y)<|Yg (AL Y Y)<|Zv (AV Y Y)<|Z0<|Zn [2,3,4,5,24] ?_;refine Zx<|AU Y (fun h3=>?_) (fun h3=>?_);·
   refine A0<|Zh 18 DP V rfl Kx Y<|Zl N3 Y ?_;refine Zv (Eo Sf Y Y)<|Zm Y<|Ae (t:=28) Y V (fun O=>?_) (fun O=>?_);·
    refine Yf 2 CH V rfl Cp Y<|Yl E6 Y ?_;refine Zv (AV Y Y)<|Zm Y<|Ae (t:=32) Y V (fun O=>?_) (fun O=>?_);·
     refine Yl isAgg224 Y ?_;refine Yf 1 CH V rfl A6 Y<|Yl AF Y ?_;refine Yf 20 DP V rfl A6 Y<|Yl AF Y ?_;refine Xr [_,_] Y (g) Y V (m (r.val) (n)) ?_;refine Yg (Br Y)<|Zv (AV Y Y)<|AN Y<|Zn [3,4,5,7] ?_;refine Zx<|A0<|Zh 20 DP V rfl A6 Y<|Zl AF Y ?_;refine Zh 1 CH V rfl A6 Y<|Xe (Zs A6 Y Y V (hi:=by(simp;done))) ?_;refine A5<|A0<|Zo Wh (AA (cs:=#[_,_,_]) C6 B2 Y B1 As) ?_;refine Zm Y<|Xe (Xw B2 _) ?_;refine A4 Y<|AJ<|Zt<|Bj V S3 Y Wh (Am C6 B2 Wn (V)) Y (by
      refine ⟨?_,V⟩;unfold Gf;simp_all<;>rfl)
    refine A7 Y V<|A7 Y V<|A7 Y V<|A7 Y V<|A7 Y V<|A7 Y V<|A7 Y V<|Zv (AL Y Y)<|AN Y<|Zn [3,4,5,7] ?_;refine Zx<|A0<|Zh 20 DP V rfl A6 Y<|Zl AF Y ?_;refine Zh 1 CH V rfl A6 Y<|Xe (Zs A6 Y Y V (hi:=by(simp;done))) ?_;refine A5<|A0<|Zo Wh (AA (cs:=#[_,_,_]) C6 B2 Y B1 As) ?_;refine Zm Y<|Xe (Xw B2 _) ?_;refine A4 Y<|AJ<|Zt<|Bj V S3 Y Wh (Am C6 B2 Wn (V)) Y (by
     refine ⟨?_,V⟩;unfold Gf;simp_all<;>rfl)
   refine A7 Y V<|A7 Y V<|Zv (AL Y Y)<|Zm Y<|A7 Y V<|A7 Y V<|A7 Y V<|A7 Y V<|A7 Y V<|A7 Y V<|A7 Y V<|Zv (AL Y Y)<|AN Y<|Zn [3,4,5,7] ?_;refine Zx<|A0<|Zh 20 DP V rfl A6 Y<|Zl AF Y ?_;refine Zh 1 CH V rfl A6 Y<|Xe (Zs A6 Y Y V (hi:=by(simp;done))) ?_;refine A5<|A0<|Zo Wh (AA (cs:=#[_,_,_]) C6 B2 Y B1 As) ?_;refine Zm Y<|Xe (Xw B2 _) ?_;refine A4 Y<|AJ<|Zt<|Bj V S3 Y Wh (Am C6 B2 Wn (V)) Y (by
    refine ⟨?_,V⟩;unfold Gf;simp_all<;>rfl)
  refine AC<|Zx<|Zq<|A0<|Zh 18 DP V rfl Kx Y<|Zl N3 Y ?_;refine Zv (Eo Sf Y Y)<|A5<|AU Y (fun W=>?_) (fun W=>?_);·
   refine Zq<|A0<|Zh 2 CH V rfl Cp Y<|Zl E6 Y ?_;refine Zv (Br Y)<|Zm Y<|Ae (t:=52) Y V (fun X=>?_) (fun X=>?_);·
    refine A7 Y V<|A7 Y V<|A7 Y V<|A7 Y V<|A7 Y V<|A7 Y V<|Zv (AV Y Y)<|Z0<|Zn [3,4,5,59] ?_;refine Zx<|Co Y<|Zg<|Zh 20 DP V rfl A6 Y<|Zl AF Y ?_;refine Zh 1 CH V rfl A6 Y<|Xe (Zs A6 Y Y V (hi:=by(simp;done))) ?_;refine A5<|Zg<|Zh 2 CH V rfl Cp Y<|Xe (Zs Cp Y Y V (hi:=by(simp;done))) ?_;refine A5<|A0<|Zo Wh (AA (cs:=#[_,_,_]) C6 B2 Y B1 As) ?_;refine Xe (Xw B2 _) ?_;refine A4 Y<|AJ<|Bj V S3 Y Wh (Am C6 B2 Wn (V)) Y (by
     refine ⟨?_,V⟩;unfold Gf;simp_all<;>rfl)
   refine Yl isAgg224 Y ?_;refine Yf 20 DP V rfl A6 Y<|Yl AF Y ?_;refine Yf 1 CH V rfl A6 Y<|Yl AF Y ?_;refine Xr [_,_] Y (g) Y V (m (n) (r.val)) ?_;refine Zv (AL Y Y)<|Z0<|Zn [3,4,5,59] ?_;refine Zx<|AU Y (fun Z=>?_) (fun Z=>?_);·
    refine Zg<|Zh 20 DP V rfl A6 Y<|Zl AF Y ?_;refine Zh 1 CH V rfl A6 Y<|Xe (Zs A6 Y Y V (hi:=by(simp;done))) ?_;refine A5<|Zg<|Zh 2 CH V rfl Cp Y<|Xe (Zs Cp Y Y V (hi:=by(simp;done))) ?_;refine A5<|A0<|Zo Wh (AA (cs:=#[_,_,_]) C6 B2 Y B1 As) ?_;refine Xe (Xw B2 _) ?_;refine A4 Y<|AJ<|Bj V S3 Y Wh (Am C6 B2 Wn (V)) Y (by
     refine ⟨?_,V⟩;unfold Gf;simp_all<;>rfl)
   refine AC<|Zx<|Zg<|Zh 2 CH V rfl Cp Y<|Xe (Zs Cp Y Y V (hi:=by(simp;done))) ?_;refine A5<|A0<|Zo Wh (AA (cs:=#[_,_,_]) C6 B2 Y B1 As) ?_;refine Xe (Xw B2 _) ?_;refine A4 Y<|AJ<|Bj V S3 Y Wh (Am C6 B2 Wn (V)) Y (by
    refine ⟨?_,V⟩;unfold Gf;simp_all<;>rfl)
  refine AC<|Zx<|A0<|Zo Wh (AA (cs:=#[_,_,_]) C6 B2 Y B1 As) ?_;refine Xe (Xw B2 _) ?_;refine A4 Y<|AJ<|Bj V S3 Y Wh (Am C6 B2 Wn (V)) Y (by
   refine ⟨?_,V⟩;unfold Gf;simp_all<;>rfl)
 refine A7 Y V<|A7 Y V<|A7 Y V<|A7 Y V<|A7 Y V<|A7 Y V<|A7 Y V<|A7 Y V<|A7 Y V<|A7 Y V<|A7 Y V<|A7 Y V<|Zv (AL Y Y)<|Z0<|Zn [2,3,4,5,24] ?_;refine Zx<|D9 Y<|AC<|Zx<|Zq<|A0<|Zh 18 DP V rfl Kx Y<|Zl N3 Y ?_;refine Zv (Eo Sf Y Y)<|A5<|AU Y (fun W=>?_) (fun W=>?_);·
  refine Zq<|A0<|Zh 2 CH V rfl Cp Y<|Zl E6 Y ?_;refine Zv (Br Y)<|Zm Y<|Ae (t:=52) Y V (fun X=>?_) (fun X=>?_);·
   refine A7 Y V<|A7 Y V<|A7 Y V<|A7 Y V<|A7 Y V<|A7 Y V<|Zv (AV Y Y)<|Z0<|Zn [3,4,5,59] ?_;refine Zx<|Co Y<|Zg<|Zh 20 DP V rfl A6 Y<|Zl AF Y ?_;refine Zh 1 CH V rfl A6 Y<|Xe (Zs A6 Y Y V (hi:=by(simp;done))) ?_;refine A5<|Zg<|Zh 2 CH V rfl Cp Y<|Xe (Zs Cp Y Y V (hi:=by(simp;done))) ?_;refine A5<|A0<|Zo Wh (AA (cs:=#[_,_,_]) C6 B2 Y B1 As) ?_;refine Xe (Xw B2 _) ?_;refine A4 Y<|AJ<|Bj V S3 Y Wh (Am C6 B2 Wn (V)) Y (by
    refine ⟨?_,V⟩;unfold Gf;simp_all<;>rfl)
  refine Yl isAgg224 Y ?_;refine Yf 20 DP V rfl A6 Y<|Yl AF Y ?_;refine Yf 1 CH V rfl A6 Y<|Yl AF Y ?_;refine Xr [_,_] Y (g) Y V (m (n) (r.val)) ?_;refine Zv (AL Y Y)<|Z0<|Zn [3,4,5,59] ?_;refine Zx<|AU Y (fun Z=>?_) (fun Z=>?_);·
   refine Zg<|Zh 20 DP V rfl A6 Y<|Zl AF Y ?_;refine Zh 1 CH V rfl A6 Y<|Xe (Zs A6 Y Y V (hi:=by(simp;done))) ?_;refine A5<|Zg<|Zh 2 CH V rfl Cp Y<|Xe (Zs Cp Y Y V (hi:=by(simp;done))) ?_;refine A5<|A0<|Zo Wh (AA (cs:=#[_,_,_]) C6 B2 Y B1 As) ?_;refine Xe (Xw B2 _) ?_;refine A4 Y<|AJ<|Bj V S3 Y Wh (Am C6 B2 Wn (V)) Y (by
    refine ⟨?_,V⟩;unfold Gf;simp_all<;>rfl)
  refine AC<|Zx<|Zg<|Zh 2 CH V rfl Cp Y<|Xe (Zs Cp Y Y V (hi:=by(simp;done))) ?_;refine A5<|A0<|Zo Wh (AA (cs:=#[_,_,_]) C6 B2 Y B1 As) ?_;refine Xe (Xw B2 _) ?_;refine A4 Y<|AJ<|Bj V S3 Y Wh (Am C6 B2 Wn (V)) Y (by
   refine ⟨?_,V⟩;unfold Gf;simp_all<;>rfl)
 refine AC<|Zx<|A0<|Zo Wh (AA (cs:=#[_,_,_]) C6 B2 Y B1 As) ?_;refine Xe (Xw B2 _) ?_;refine A4 Y<|AJ<|Bj V S3 Y Wh (Am C6 B2 Wn (V)) Y (by
  refine ⟨?_,V⟩;unfold Gf;simp_all<;>rfl)
theorem uG(x y:Int):BB prog 216 #[I4 x,I4 y] [] (.bool (decide (x<y))):=by
 refine Se func216 ntmps216 [0,1] ?_;intro u R;refine A0<|A4 Y<|A0<|Zm Y<|Zm Y<|Zv (Dw Y Y)<|A4 Y<|AJ<|AO V results216 Y (by exact ⟨V,V⟩)
theorem uI(x y:Int):BB prog 218 #[I4 x,I4 y] [] (.bool (decide (y<x))):=by
 refine Se func218 ntmps218 [0,1] ?_;intro u R;refine A0<|A4 Y<|A0<|Zm Y<|Zm Y<|Zv (Et Y Y)<|A4 Y<|AJ<|AO V results218 Y (by exact ⟨V,V⟩)
def Gc(k:Int):Nat:=if k=1 then 209 else if k=2 then 209 else if k=3 then 211 else if k=4 then 213 else if k=5 then 259 else if k=6 then 259 else 220
def Im(b5 b6:Nat)(k:Int):List A3:=if k=5 then [I5 b5]else if k=6 then [I5 b6]else []
theorem WG{lm:List (Int×A3)}{g m:Nat}(h:∀p,p∈lm↔p∈MU g m)(hn:(lm.map (·.1)).Nodup){k:Int}(G:1<=k/\k<=7):EK k lm=some (.agg #[.func (.func (Hl k)) #[] #[],.func (.func (Gc k)) #[] (Im g m k).toArray]):=by
 obtain h9|h9|h9|h9|h9|h9|h9:k=1\/k=2\/k=3\/k=4\/k=5\/k=6\/k=7:=by omega
 all_goals subst h9
 all_goals exact aF h hn (by simp [MU,Hl,Gc,Im])
theorem Ku{k:Int}(g:1<=k/\k<=7):∀(args:AH) (w:AD),(callFunc (Gc k) args).run prog w= .ok (.enter (Gc k) args) w:=by
 obtain h|h|h|h|h|h|h:k=1\/k=2\/k=3\/k=4\/k=5\/k=6\/k=7:=by omega
 all_goals (subst h;simp only [Gc];first|exact call209|exact call211|exact call213|exact call259|exact call220)
theorem IE{P:Program}{f:FuncId}{args:AH}{H H1:Hp}{Q G:A3->Hp->Prop}(h:BZ P f args H Q)(F:Hp)(U:H1.flatten.Perm (H++F).flatten)(W:∀v H',Q v H'->∃g E,G v g/\(H'.flatten++F.flatten).Perm (g.flatten++E)):BZ P f args H1 G:=fun u R w X=>
 Calls.mono (h u (F++R) w (X.perm (by rw [HC,<-D3,HC (L₁:=H++F)];exact U.append_right _))) fun e Z O=>by
  rcases O with⟨v,H',rfl,m,h2⟩|⟨ch,H',rfl,m,h2⟩
  · obtain ⟨g,E,I,J⟩:=W v H' m
    refine .inl ⟨v,g,V,I,h2.sub ⟨E,?_⟩⟩;rw [HC,HC,HC,<-D3];refine (J.append_right _).trans ?_;rw [D3,D3];exact Ly.append_left _
  · exact m.elim
def MIn(q:QM)(c:Chg):Prop:=(-1000000000<=mQ q (bfQ q c)/\mQ q (bfQ q c)<=1000000000)/\-1000000000<=mQ q (afQ q c)/\mQ q (afQ q c)<=1000000000
theorem zW{b:Bool}{x:AX}(h:b=true->x.ok):-1000000000<=mQ q (I7 q b x)/\mQ q (I7 q b x)<=1000000000:=by
 unfold I7;split
 · rename_i h9
   rw [Ft]at h9;exact X6 (h h9.1) q.bq
 · exact ⟨by show(-1000000000:Int)<=0;decide,by show(0:Int)<=1000000000;decide⟩
theorem u6(q:QM)(h:c.ok):MIn q c:=by
 obtain ⟨_,h2,_⟩:=h;refine ⟨zW fun g=>?_,zW fun g=>?_⟩
 · rw [Po g]at h2
   exact HL.1 fun m=>h2 (.inl ⟨g,m⟩)
 · rw [LV g]at h2
   exact HL.1 fun m=>h2 (.inr ⟨g,m⟩)
theorem LC(q:QM)(c:Chg)(hq:BF q)(hm:MIn q c){U W:B6}{s1:List A9}(ax:Iq U (bfQ q c) s1)(X:Iq W (afQ q c) s2)(g m:Nat)(r:CB)(pv:B6)(Z:Nat)(I:List A9)(hr:Bd 5 72 (.slice pv r.rows.length Z) r.rows.length (Af r.rows) I)(hn:r.rows.length<=100000000)(hv:-4000000000000000000<=r.val/\r.val<=4000000000000000000):
 BZ prog (Gc q.kd) (.agg (q.GW c U W (mQ q (bfQ q c)) (mQ q (afQ q c))):: .agg #[.slice pv r.rows.length Z,I4 r.val,.bool r.fnd]::Im g m q.kd).toArray [I,s2,[(g,.cells #[.func (.func 216) #[] #[]] 224 (0,0))],[(m,.cells #[.func (.func 218) #[] #[]] 224 (0,0))]] (fun w H'=>∃G O,w= .tuple #[.agg #[G,I4 (Bv q c r).1.val,.bool (Bv q c r).1.fnd],.bool (Bv q c r).2]/\Bd 5 72 G (Bv q c r).1.rows.length (Af (Bv q c r).1.rows) O/\H'=[O]):=by
 have e1:=ax.some_;have e2:=X.some_
 have af:=hq.2.1;have hk:q.kd=1\/q.kd=2\/q.kd=3\/q.kd=4\/q.kd=5\/q.kd=6\/q.kd=7:=by have:=hq.2.2.2;omega
 have J:(q.kd=1\/q.kd=2)->Bv q c r=(⟨EB q c r.rows,r.val,r.fnd⟩,true):=fun h=>by unfold Bv;rw [Ax h]
 have P1:=fB q c U W (mQ q (bfQ q c)) (mQ q (afQ q c)) af hr hn X;have P7:=fH q af c U W e1 X hr hn
 have P3:=ZI q c U W (mQ q (bfQ q c)) (mQ q (afQ q c)) pv r.rows.length Z hv;have P4:=lq q c U W (mQ q (bfQ q c)) (mQ q (afQ q c)) pv r.rows.length Z hv hm
 have P5:=Vm q c U W (mQ q (bfQ q c)) (mQ q (afQ q c)) r pv r.rows.length Z g 216 (fun a b=>decide (a<b)) call216 uG;have P6:=Vm q c U W (mQ q (bfQ q c)) (mQ q (afQ q c)) r pv r.rows.length Z m 218 (fun a b=>decide (b<a)) call218 uI
 rw [e2]at P3;rw [e1,e2]at P5 P6;rcases hk with h|h|h|h|h|h|h
 · rw [show Gc q.kd=209 by rw [h];rfl,show Im g m q.kd=[] by rw [h];rfl,J (.inl h)]
   refine IE P1 [[(g,.cells #[.func (.func 216) #[] #[]] 224 (0,0))],[(m,.cells #[.func (.func 218) #[] #[]] 224 (0,0))]] B4 ?_;rintro w H' ⟨G,O,rfl,h3,rfl⟩;exact ⟨[O],_,⟨G,O,V,h3,V⟩,by simp;exact .refl _⟩
 · rw [show Gc q.kd=209 by rw [h];rfl,show Im g m q.kd=[] by rw [h];rfl,J (.inr h)]
   refine IE P1 [[(g,.cells #[.func (.func 216) #[] #[]] 224 (0,0))],[(m,.cells #[.func (.func 218) #[] #[]] 224 (0,0))]] B4 ?_;rintro w H' ⟨G,O,rfl,h3,rfl⟩;exact ⟨[O],_,⟨G,O,V,h3,V⟩,by simp;exact .refl _⟩
 · rw [show Gc q.kd=211 by rw [h];rfl,show Im g m q.kd=[] by rw [h];rfl,show Bv q c r=(⟨r.rows,if(afQ q c).isSome then r.val+1 else r.val -1,r.fnd⟩,true) by unfold Bv;rw [An A1,Ax h]]
   refine IE P3 [I,s2,[(g,.cells #[.func (.func 216) #[] #[]] 224 (0,0))],[(m,.cells #[.func (.func 218) #[] #[]] 224 (0,0))]] B4 ?_;rintro w H' ⟨rfl,rfl⟩;exact ⟨[I],_,⟨_,I,V,hr,V⟩,by simp;exact .refl _⟩
 · rw [show Gc q.kd=213 by rw [h];rfl,show Im g m q.kd=[] by rw [h];rfl,show Bv q c r=(⟨r.rows,r.val+(mQ q (afQ q c) -mQ q (bfQ q c)),r.fnd⟩,true) by unfold Bv;rw [An A1,An A1,Ax h]]
   refine IE P4 [I,s2,[(g,.cells #[.func (.func 216) #[] #[]] 224 (0,0))],[(m,.cells #[.func (.func 218) #[] #[]] 224 (0,0))]] B4 ?_;rintro w H' ⟨rfl,rfl⟩;exact ⟨[I],_,⟨_,I,V,hr,V⟩,by simp;exact .refl _⟩
 · have e9:Bv q c r=Gf (fun a b=>decide (a<b)) (bfQ q c).isSome (afQ q c).isSome (mQ q (bfQ q c)) (mQ q (afQ q c)) r:=by unfold Bv;rw [An A1,An A1,An A1,Ax h]
   have e8:(Bv q c r).1.rows=r.rows:=by rw [e9,NE]
   rw [show Gc q.kd=259 by rw [h];rfl,show Im g m q.kd=[I5 g] by rw [h];rfl];rw [<-e9]at P5;refine IE P5 [I,s2,[(m,.cells #[.func (.func 218) #[] #[]] 224 (0,0))]] (by simp;rw [<-D3,<-D3];exact SJ) ?_;rintro w H' ⟨rfl,rfl⟩;exact ⟨[I],[(g,_)]++s2++_,⟨_,I,rfl,by rw [e8];exact hr,rfl⟩,by simp;exact SJ.symm⟩
 · have e9:Bv q c r=Gf (fun a b=>decide (b<a)) (bfQ q c).isSome (afQ q c).isSome (mQ q (bfQ q c)) (mQ q (afQ q c)) r:=by unfold Bv;rw [An A1,An A1,An A1,An A1,Ax h]
   have e8:(Bv q c r).1.rows=r.rows:=by rw [e9,NE]
   rw [show Gc q.kd=259 by rw [h];rfl,show Im g m q.kd=[I5 m] by rw [h];rfl];rw [<-e9]at P6;refine IE P6 [I,s2,[(g,.cells #[.func (.func 216) #[] #[]] 224 (0,0))]] (by simp;rw [<-D3,<-D3];exact ((List.Perm.swap _ _ []).append_left _).trans SJ) ?_;rintro w H' ⟨rfl,rfl⟩;exact ⟨[I],[(m,_)]++s2++_,⟨_,I,rfl,by rw [e8];exact hr,rfl⟩,by simp;exact SJ.symm⟩
 · rw [show Gc q.kd=220 by rw [h];rfl,show Im g m q.kd=[] by rw [h];rfl,show Bv q c r=DD q c r by unfold Bv;rw [An A1,An A1,An A1,An A1,An A1]]
   refine IE P7 [[(g,.cells #[.func (.func 216) #[] #[]] 224 (0,0))],[(m,.cells #[.func (.func 218) #[] #[]] 224 (0,0))]] B4 ?_;rintro w H' ⟨G,O,rfl,h3,rfl⟩;exact ⟨[O],_,⟨G,O,V,h3,V⟩,by simp;exact .refl _⟩
def Dk(q:QM)(c:Chg):Bool:=decide c.ok&&Cq q c
def D7(q:QM)(c:Chg)(r:CB):CB×Bool:=if Dk q c then(if(Bv q c r).2 then((Bv q c r).1,true)else(CB.none,false))else(r,true)
def Hu(q:QM)(r:CB):List Chg->Option CB
 |[]=>some r
 |c::cs=>if(D7 q c r).2 then Hu q (D7 q c r).1 cs else none
theorem Si(q:QM):∀(a:List Chg) (r:CB) (b:List Chg),Hu q r (a++b)=(Hu q r a).bind fun g=>Hu q g b
 |[],_,_=>rfl
 |c::a,r,b=>by
  show(if(D7 q c r).2 then Hu q (D7 q c r).1 (a++b)else none)=(if(D7 q c r).2 then Hu q (D7 q c r).1 a else none).bind fun g=>Hu q g b;split;· exact Si q a _ b
  · rfl
def Ba(q:QM)(r:CB)(cs:List Chg):CB×Bool×Bool:=match Hu q r cs with
 |some r'=>(r',cs.any (Dk q),true)
 |none=>(CB.none,true,false)
theorem lD(q:QM)(c:Chg)(r:CB):(D7 q c r).1.rows.length<=r.rows.length+2:=by
 have h:=fQ q c r;unfold D7;split
 · split
   · exact h
   · exact C5 _
 · exact fh _ _
theorem fP(g:MIn q c){B:Int}(h:-B<=r.val/\r.val<=B)(h0:0<=B):-(B+2000000000)<=(Bv q c r).1.val/\(Bv q c r).1.val<=B+2000000000:=by
 obtain ⟨⟨m,h2⟩,G,I⟩:=g;have hx:∀lt b a,-(B+2000000000)<=(Gf lt b a (mQ q (bfQ q c)) (mQ q (afQ q c)) r).1.val/\(Gf lt b a (mQ q (bfQ q c)) (mQ q (afQ q c)) r).1.val<=B+2000000000:=fun lt b a=>by
  unfold Gf;split;· constructor<;>(simp only;omega)
  · split
    · simp only
      split<;>(constructor<;>omega)
    · constructor<;>(simp only;omega)
 unfold Bv;split;· constructor<;>(simp only;omega)
 · split
   · simp only
     split<;>(constructor<;>omega)
   · split
     · constructor<;>(simp only;omega)
     · split
       · exact hx _ _ _
       · split
         · exact hx _ _ _
         · rw [fT];constructor<;>omega
theorem lC{B:Int}(h:-B<=r.val/\r.val<=B)(h0:0<=B):-(B+2000000000)<=(D7 q c r).1.val/\(D7 q c r).1.val<=B+2000000000:=by
 unfold D7;split
 · rename_i h9
   unfold Dk at h9;rw [Ft]at h9;split;· exact fP (u6 q (I0 h9.1)) h h0
   · constructor<;>(simp only [CB.none];omega)
 · constructor<;>(simp only;omega)
variable{cs:List Chg}
theorem KG{g:CB}{x:Chg}(h:Hu q r (cs.take k)=some g)(hx:cs[k]?=some x):Hu q r (cs.take (k+1))=if(D7 q x g).2 then some (D7 q x g).1 else none:=by
 rw [Bn hx,Si,h];show Hu q g [x]=_
 unfold Hu Hu;rfl
theorem QC(h:Hu q r (cs.take k)=none):Hu q r cs=none:=by
 rw [<-K1 k cs,Si,h];rfl
theorem Wd{x:Chg}(f:Chg->Bool)(hx:cs[k]?=some x):(cs.take (k+1)).any f=((cs.take k).any f||f x):=by
 rw [Bn hx,List.any_append,nj,nn,fk]
theorem XF{q:QM}:∀(cs:List Chg) (r r':CB) (B:Int) (n:Nat),Hu q r cs=some r'->(-B<=r.val/\r.val<=B)->0<=B->r.rows.length<=n->(-(B+2000000000*(cs.length:Int))<=r'.val/\r'.val<=B+2000000000*(cs.length:Int))/\r'.rows.length<=n+2*cs.length
 |[],r,r',B,n,h,h1,h2,h3=>by
  unfold Hu at h;injection h with h
  subst h;simp only [LI];exact ⟨⟨by omega,by omega⟩,h3⟩
 |c::cs,r,r',B,n,h,h1,h2,h3=>by
  unfold Hu at h;split at h
  · have g:=lC (q:=q) (c:=c) h1 h2
    have G:=lD q c r;have m:=XF cs _ r' (B+2000000000) (n+2) h g A1 A1
    rw [Dd];obtain ⟨⟨I,J⟩,O⟩:=m;refine ⟨⟨?_,?_⟩,by omega⟩<;>(push_cast;omega)
  · cases h
set_option maxHeartbeats 1000000 in
theorem TJ(q:QM)(g:BF q)(c:Chg)(hr:DW A rv r.rows)(hn:r.rows.length<=100000000)(hv:-4000000000000000000<=r.val/\r.val<=4000000000000000000):BZ prog 101 #[.agg q.A98,.agg #[rv,I4 r.val,.bool r.fnd],.agg c.A96] [A] (fun w H'=>∃cu s',w= .tuple #[.agg #[cu,I4 (D7 q c r).1.val,.bool (D7 q c r).1.fnd],.bool (D7 q c r).2]/\Bd 5 72 cu (D7 q c r).1.rows.length (Af (D7 q c r).1.rows) s'/\H'=[s',A]):=by
 have ek:=mL;obtain ⟨pv,cv,rfl,_⟩:=id hr;refine Se func101 ntmps101 [0,1,2] ?_;intro u R;refine A0<|Ze (Bx q.A98)<|AG fun bq=>Ze (Bx #[.slice pv r.rows.length cv,I4 r.val,.bool r.fnd])<|AG fun br=>Ze (Bx c.A96)<|AG fun bc=>Ze (Al Gk #[_,_,_])<|AG fun bo=>A4 Y<|A0<|Zh 0 CH V rfl CI Y<|Zl Fm Y<|Zc [_] Y call99 Y V (Gp hr A1) ?_;rintro _ _ ⟨_,⟨s1,h1,rfl⟩,rfl⟩;obtain ⟨g1,c1,rfl⟩:=h1.form;refine Zh 0 CH V rfl CI Y<|Xe (Zs CI Y Y V (hi:=by(simp;done)))<|A5<|Zq<|A0<|Zo Wh (AA (cs:=#[_,_,_,_,_,_,_]) F2 CN Y B1 As)<|Zo Wh (AA (cs:=#[_,_,_,_,_,_,_,_,_,_]) G2 C7 Y B1 As)<|Xr [_,_] Y call100 Y V (Km q c) ?_;rw [show(decide (BF q)&&(decide c.ok&&Cq q c))=Dk q c by rw [DE g];rfl];refine Zv (Br Y)<|Z0<|Zn [3,4,5,6,17] ?_;refine Zx<|AU Y (fun ht=>?_) (fun ht=>?_);·
  have I:Dk q c=false:=by simpa using ht
  refine A0<|Zo Wh (AA (cs:=#[_,_,_]) C6 B2 Y B1 As)<|Xe (Xw B2 _)<|A4 Y<|AJ<|Zt<|Bj V results101 Y Wh (Am C6 B2 Wn (V)) Y (by
   have e9:D7 q c r=(r,true):=by unfold D7;rw [I];rfl
   exact ⟨.slice g1 r.rows.length c1,s1,by rw [e9];rfl,by rw [e9];exact h1,rfl⟩)
 have I:Dk q c=true:=by simpa using ht
 have af:c.ok:=by unfold Dk at I;rw [Ft]at I;exact I0 I.1
 refine AC<|Zx<|Zb [3,4,5,6] ?_;refine DL (e0:=[(3,_),(4,_),(5,_)]) (H0:=[s1]) (fun e H=>∃(X:Nat) (G:B6) (m:Nat) (W:List A9),(Bd 5 72 (.slice G (Bv q c r).1.rows.length m) (Bv q c r).1.rows.length (Af (Bv q c r).1.rows) W)/\e=[(8,I5 X),(9,.bool (Bv q c r).2)]/\H=[[(X,.cells #[.slice G (Bv q c r).1.rows.length m,I4 (Bv q c r).1.val,.bool (Bv q c r).1.fnd] 54 (0,0))],W]) Wp ?hx_2 ?hy_2
 case hx_2=>
  refine Az (n:=16) (0::0::2::7::15::0::0::97::0::511::1023::2047::2047::0::12287::32767::[]) 25217 AE AE V<|A2 1 V (AB (off:=0) CT V rfl A6 Y)<|B9 2 V AF Y<|Fk 5 V Wh (AA (cs:=#[_,_,_,_,_,_,_]) F2 CN Y B1 As)<|Fk 6 V Wh (AA (cs:=#[_,_,_,_,_,_,_,_,_,_]) G2 C7 Y B1 As)<|Fk 8 V Wh (AA (cs:=#[_,_,_]) C6 B2 Y B1 As)<|Zz (l:=[0,13])<|B5 [true,true,true,true] [(8,(_,_)),(6,(_,_)),(5,(_,_)),(2,(_,_))] V rfl (Zw [] Y call155 Y V (O3)) ?_ Bw ?_;·
   rintro _ _ ⟨_,⟨mb,es,ck,lm,b5,b6,rfl,hm,hp,rfl⟩,rfl⟩;refine ⟨Zk (Zk (Zk (Zk (Aa)))),?_⟩;have Z:=WG hp hm.keys g.kind
   refine Fk 3 rfl Wh (Df I9 X2 Ys hm (fun _ _=>trivial) (trivial) ((by rw [Z];exact rfl:_=Value.agg #[.func (.func (Hl q.kd)) #[] #[],.func (.func (Gc q.kd)) #[] (Im b5 b6 q.kd).toArray])) Y Y)<|A2 4 rfl (XW X1 rfl isAgg255 Y rfl)<|Zz (l:=[7,13])<|B5 [true,true,false,false,true] [(3,(_,_)),(8,(_,_)),(2,(_,_))] rfl rfl (Zw [_,_] Y call156 Y rfl (Jo q g.2.1 (by have:=g.2.2.2;omega) c)) ?_ Bw ?_;·
    rintro _ _ ⟨_,⟨p1,p2,cO,d9,rfl,O,U,rfl⟩,rfl⟩;refine BT<|Zz (l:=[9,13])<|B5 [false,false,false] [] V rfl (Zw [_,_] Y (Ku g.kind) Y V (LC q c g (u6 q af) O U b5 b6 r g1 c1 s1 h1 hn hv)) ?_ Bw ?_;·
     rintro _ _ ⟨_,⟨bn,W,rfl,J,rfl⟩,rfl⟩;refine ⟨Aa,?_⟩;obtain ⟨G,m,rfl⟩:=J.form;refine A2 10 V (AP Y)<|A2 11 V (C8 Y V)<|A2 12 V (C8 Y V)<|Zz (l:=[13])<|B5 [] [] V rfl (Al Gk #[_,_,_]) ?_ (fun _ _ h=>h.elim) Ah;rintro _ _ ⟨X,rfl,rfl⟩;refine BT<|Yw 14 32767 V (Xw B2 #[.slice G (Bv q c r).1.rows.length m,I4 (Bv q c r).1.val,.bool (Bv q c r).1.fnd])<|D4<|A2 15 V (Aw Y)<|Ag<|Zn [8,9,6] ?_;refine BN (e':=[(8,_),(9,_)]) (by exact ⟨X,G,m,W,J,V,V⟩)
    refine B5 [true,true,true] [(3,(_,_)),(8,(_,_)),(2,(_,_))] V rfl (Al Gk #[_,_,_]) ?_ (fun _ _ h=>h.elim) Ah;rintro _ _ ⟨X,rfl,rfl⟩;refine BT<|Zz (l:=[9])<|B5 [false,false,false] [] V rfl (Zw [_,_] Y (Ku g.kind) Y V (LC q c g (u6 q af) O U b5 b6 r g1 c1 s1 h1 hn hv)) ?_ Bw Ah;rintro _ _ ⟨_,⟨bn,W,rfl,J,rfl⟩,rfl⟩;refine ⟨Aa,?_⟩;obtain ⟨G,m,rfl⟩:=J.form;refine A2 10 V (AP Y)<|A2 11 V (C8 Y V)<|A2 12 V (C8 Y V)<|Zz (l:=[14])<|B5 [] [] V rfl (Xw B2 #[.slice G (Bv q c r).1.rows.length m,I4 (Bv q c r).1.val,.bool (Bv q c r).1.fnd]) ?_ (fun _ _ h=>h.elim) Ah;rintro _ _ ⟨rfl,rfl⟩;refine BT<|A2 15 V (Aw Y)<|Ag<|Zn [8,9,6] ?_;refine BN (e':=[(8,_),(9,_)]) (by exact ⟨X,G,m,W,J,V,V⟩)
   refine B5 [true,true,true,true,true] [(3,(_,_)),(8,(_,_)),(6,(_,_)),(5,(_,_)),(2,(_,_))] V rfl (Al Gk #[_,_,_]) ?_ (fun _ _ h=>h.elim) Ah;rintro _ _ ⟨X,rfl,rfl⟩;refine BT<|Zz (l:=[7])<|B5 [true,true,false,false,true] [(3,(_,_)),(8,(_,_)),(2,(_,_))] V rfl (Zw [_,_] Y call156 Y V (Jo q g.2.1 (by have:=g.2.2.2;omega) c)) ?_ Bw Ah;rintro _ _ ⟨_,⟨p1,p2,cO,d9,rfl,O,U,rfl⟩,rfl⟩;refine BT<|Zz (l:=[9])<|B5 [false,false,false] [] V rfl (Zw [_,_] Y (Ku g.kind) Y V (LC q c g (u6 q af) O U b5 b6 r g1 c1 s1 h1 hn hv)) ?_ Bw Ah;rintro _ _ ⟨_,⟨bn,W,rfl,J,rfl⟩,rfl⟩;refine ⟨Aa,?_⟩;obtain ⟨G,m,rfl⟩:=J.form;refine A2 10 V (AP Y)<|A2 11 V (C8 Y V)<|A2 12 V (C8 Y V)<|Zz (l:=[14])<|B5 [] [] V rfl (Xw B2 #[.slice G (Bv q c r).1.rows.length m,I4 (Bv q c r).1.val,.bool (Bv q c r).1.fnd]) ?_ (fun _ _ h=>h.elim) Ah;rintro _ _ ⟨rfl,rfl⟩;refine BT<|A2 15 V (Aw Y)<|Ag<|Zn [8,9,6] ?_;refine BN (e':=[(8,_),(9,_)]) (by exact ⟨X,G,m,W,J,V,V⟩)
  refine B5 [true,true,true,true] [(8,(_,_)),(6,(_,_)),(5,(_,_)),(2,(_,_))] V rfl (Al Gk #[_,_,_]) ?_ (fun _ _ h=>h.elim) Ah;rintro _ _ ⟨X,rfl,rfl⟩;refine BT<|Zz (l:=[0])<|B5 [true,true,true,true] [(8,(_,_)),(6,(_,_)),(5,(_,_)),(2,(_,_))] V rfl (Zw [] Y call155 Y V (O3)) ?_ Bw Ah;rintro _ _ ⟨_,⟨mb,es,ck,lm,b5,b6,rfl,hm,hp,rfl⟩,rfl⟩;refine ⟨Zk (Zk (Zk (Zk (Aa)))),?_⟩;have Z:=WG hp hm.keys g.kind
  refine Fk 3 rfl Wh (Df I9 X2 Ys hm (fun _ _=>trivial) (trivial) ((by rw [Z];exact rfl:_=Value.agg #[.func (.func (Hl q.kd)) #[] #[],.func (.func (Gc q.kd)) #[] (Im b5 b6 q.kd).toArray])) Y Y)<|A2 4 rfl (XW X1 rfl isAgg255 Y rfl)<|Zz (l:=[7])<|B5 [true,true,false,false,true] [(3,(_,_)),(8,(_,_)),(2,(_,_))] rfl rfl (Zw [_,_] Y call156 Y rfl (Jo q g.2.1 (by have:=g.2.2.2;omega) c)) ?_ Bw Ah;rintro _ _ ⟨_,⟨p1,p2,cO,d9,rfl,O,U,rfl⟩,rfl⟩;refine BT<|Zz (l:=[9])<|B5 [false,false,false] [] V rfl (Zw [_,_] Y (Ku g.kind) Y V (LC q c g (u6 q af) O U b5 b6 r g1 c1 s1 h1 hn hv)) ?_ Bw Ah;rintro _ _ ⟨_,⟨bn,W,rfl,J,rfl⟩,rfl⟩;refine ⟨Aa,?_⟩;obtain ⟨G,m,rfl⟩:=J.form;refine A2 10 V (AP Y)<|A2 11 V (C8 Y V)<|A2 12 V (C8 Y V)<|Zz (l:=[14])<|B5 [] [] V rfl (Xw B2 #[.slice G (Bv q c r).1.rows.length m,I4 (Bv q c r).1.val,.bool (Bv q c r).1.fnd]) ?_ (fun _ _ h=>h.elim) Ah;rintro _ _ ⟨rfl,rfl⟩;refine BT<|A2 15 V (Aw Y)<|Ag<|Zn [8,9,6] ?_;refine BN (e':=[(8,_),(9,_)]) (by exact ⟨X,G,m,W,J,V,V⟩)
 rintro _ _ ⟨X,G,m,W,J,rfl,rfl⟩;refine Zq<|A0<|Zm Y<|Zv (Br Y)<|A5<|AU Y (fun hk=>?_) (fun hk=>?_);·
  have ax:(Bv q c r).2=false:=by simpa using hk
  refine Zq<|BX<|Zg<|Zv (BL (vs:=[]) (cs:=#[_,_,_]) Y (AZ (pl:=#[(0,1),(1,1),(2,1)]) Gk CH (fun _=>by kernel_rfl) V))<|Xe (Xw B2 _)<|A4 Y<|AJ<|Zt<|Bj V results101 Y Wh (Am C6 B2 Wn (V)) Y (by
   have e9:D7 q c r=(CB.none,false):=by unfold D7;rw [I,Ax rfl,ax];rfl
   exact ⟨.slice none 0 0,[],by rw [e9];rfl,by rw [e9];exact Bf 5 _,rfl⟩)
 have ax:(Bv q c r).2=true:=by simpa using hk
 refine AC<|Zx<|A0<|Zo Wh (AA (cs:=#[_,_,_]) C6 B2 Y B1 As)<|Xe (Xw B2 _)<|A4 Y<|AJ<|Bj V results101 Y Wh (Am C6 B2 Wn (V)) Y (by
  have e9:D7 q c r=((Bv q c r).1,true):=by unfold D7;rw [I,Ax rfl,ax];rfl
  exact ⟨.slice G _ m,W,by rw [e9];rfl,by rw [e9];exact J,rfl⟩)
set_option maxHeartbeats 1000000 in
theorem JS(q:QM)(hq:BF q)(p:Int)(qa:B6)(cap:Nat)(cs:List Chg){MC:List A9}(hC:Cf MC (.slice qa cs.length cap) cs)(o8:cs.length<=1000)(hr:DW A rv r.rows)(hn:r.rows.length<=10000000)(hv:-2000000000000000000<=r.val/\r.val<=2000000000000000000):BZ prog 48 #[.agg q.A98,.agg #[rv,I4 r.val,.bool r.fnd],.agg #[I4 p,.slice qa cs.length cap]] [A,MC] (fun w H'=>∃cO s',w= .tuple #[.agg #[cO,I4 (Ba q r cs).1.val,.bool (Ba q r cs).1.fnd],.bool (Ba q r cs).2.1,.bool (Ba q r cs).2.2]/\Bd 5 72 cO (Ba q r cs).1.rows.length (Af (Ba q r cs).1.rows) s'/\H'=[s',A,MC]):=by
 have p8:=mL;obtain ⟨pv,cv,rfl,_⟩:=id hr;obtain ⟨pc,l5,j3,o9,d9⟩:=id hC;injection j3 with hv1 hv2 hv3
 subst hv1 hv3;refine Se func48 ntmps48 [0,1,2] ?_;intro u R;refine A0<|Ze (Bx q.A98)<|AG fun bq=>Ze (Bx #[.slice pv r.rows.length cv,I4 r.val,.bool r.fnd])<|AG fun br=>Ze (Bx #[I4 p,.slice qa cs.length cap])<|AG fun bc=>Ze (Al Gk #[_,_,_])<|AG fun bo=>Za Y<|A4 Y<|A0<|A4 Y<|A0<|Zh 0 CH V rfl CI Y<|Zl Fm Y<|Zc [_] Y call99 Y V (Gp hr A1) ?_;rintro _ _ ⟨_,⟨s1,h1,rfl⟩,rfl⟩;obtain ⟨g1,c1,rfl⟩:=h1.form;refine Zh 0 CH V rfl CI Y<|Xe (Zs CI Y Y V (hi:=by(simp;done)))<|A5<|Zq<|A0<|Zh 1 Ge V rfl Lq Y<|Zl N4 Y<|Zv (AY GF Y)<|Zm Y<|Z0<|Zn [3,4,6,9,18,19,20] ?_;refine Zx<|AQ<|Zb [9,20,3,4,6,18,19] ?_;refine BA (e0:=[(9,_),(20,_)]) (fun m e H=>∃(k:Nat) (g:CB) (gk:B6) (ck:Nat) (sk:List A9),m=cs.length -k/\(k<=cs.length/\Hu q r (cs.take k)=some g/\Bd 5 72 (.slice gk g.rows.length ck) g.rows.length (Af g.rows) sk)/\e=[(9,.bool ((cs.take k).any (Dk q))),(20,I4 (k:Int))]/\H=[[(br,.cells #[.slice gk g.rows.length ck,I4 g.val,.bool g.fnd] 54 (0,0))],sk]) (by exact ⟨0,r,g1,c1,s1,rfl,⟨C5 _,by rw [Kd];rfl,h1⟩,rfl,rfl⟩) Wp ?_;rintro _ _ _ ⟨k,g,gk,ck,sk,rfl,⟨hk,J,cu⟩,rfl,rfl⟩;obtain ⟨gy,gq⟩:=XF (cs.take k) r g 2000000000000000000 10000000 J hv A1 hn;have gm:(cs.take k).length=k:=by rw [CC];omega
 rw [gm]at gy gq;have af:=DY cu A1
 refine A0<|Zv (Au Y Y)<|A5<|Zq<|Aq Y (fun bn=>?_) (fun bn=>?_);·
  obtain ⟨y,hy⟩:∃y,cs[k]?=some y:=⟨_,B7 bn⟩;obtain ⟨g2,l9,X,T2,kv,rfl,ic,l8,ax⟩:=d9 k y hy;refine AC<|Zx<|Zq<|AQ<|A0<|BV (Ad GF C7 Y Y A1)<|CG (cs:=[(g2,.cells X T2 kv)]) (by simp [ic]) (AA (cs:=y.A96) G2 C7 Y A1 ax) V rfl<|Ze (Al MA #[_,_,_,_,_,_,_,_,_,_])<|AG fun bx=>Xe (Xw C7 y.A96)<|A5<|A0<|Zm Y<|Zm Y<|Ae (t:=25) Y V (fun U=>?_) (fun U=>?_);·
   have e9:(cs.take (k+1)).any (Dk q)=true:=by rw [Wd _ hy,U];rfl
   refine A7 Y V<|A7 Y V<|A7 Y V<|Zv (AV Y Y)<|A4 Y<|A0<|AN Y<|Zn [3,4,6,9,11,18,19,20] ?_;refine Zx<|A0<|Zo Wh (AA (cs:=#[_,_,_,_,_,_,_]) F2 CN Y B1 As)<|Zo Wh (AA (cs:=#[_,_,_]) C6 B2 Y B1 As)<|Zo Wh (AA (cs:=#[_,_,_,_,_,_,_,_,_,_]) G2 C7 Y B1 As)<|Zc [_,_,_] Y call101 Y V (TJ q hq y af A1 A1) ?_;rintro _ _ ⟨_,⟨j5,s3,rfl,h3,rfl⟩,rfl⟩;obtain ⟨Z,W,rfl⟩:=h3.form;refine Zm Y<|Zd Y rfl<|Zd Y rfl<|Xe (BM B2 Y Y HT Wu (by exact (rfl:_=(#[.slice Z (D7 q y g).1.rows.length W,I4 (D7 q y g).1.val,.bool (D7 q y g).1.fnd]:AH))) Fc B1 (by exact BC _))<|A4 Y<|A0<|Zm Y<|Zv (Br Y)<|A5<|AU Y (fun I=>?_) (fun I=>?_);·
    have G:(D7 q y g).2=false:=by simpa using I
    have O:Ba q r cs=(CB.none,true,false):=by unfold Ba;rw [QC (k:=k+1) (by rw [KG J hy,G];rfl)]
    refine Zq<|BX<|Zg<|Zv (BL (vs:=[]) (cs:=#[_,_,_]) Y (AZ (pl:=#[(0,1),(1,1),(2,1)]) Gk CH (fun _=>by kernel_rfl) V))<|Xe (Xw B2 _)<|Za Y<|AN Y<|Zn [6,7,8] ?_;refine Zx<|AJ<|Ac<|Zt<|Zt<|Ac<|Zt<|I8 rfl results48 Y Wh (Am C6 B2 Wn (rfl)) Y Y (by exact ⟨.slice none 0 0,[],by rw [O];rfl,by rw [O];exact Bf 5 _,rfl⟩)
   have G:(D7 q y g).2=true:=by simpa using I
   refine AC<|A8<|Zx<|Zg<|Ya (n:=1) Y Y<|Zm Y<|Z0<|Zn [9,20,3,4,6,18,19] ?_;refine Ab (e':=[(9,_),(20,_)]) (by exact ⟨k+1,(D7 q y g).1,Z,W,s3,rfl,⟨by omega,by rw [KG J hy,Ax G],h3⟩,by rw [e9],rfl⟩)
  have e9:(cs.take (k+1)).any (Dk q)=Dk q y:=by rw [Wd _ hy,U];rfl
  refine Db Y Wh (AA (cs:=#[_,_,_,_,_,_,_]) F2 CN Y B1 As) V rfl<|Db Y Wh (AA (cs:=#[_,_,_,_,_,_,_,_,_,_]) G2 C7 Y B1 As) V rfl<|Xr [_,_] Y call100 Y V (Km q y) ?_;rw [show(decide (BF q)&&(decide y.ok&&Cq q y))=Dk q y by rw [DE hq];rfl];refine Zv (AL Y Y)<|A4 Y<|A0<|AN Y<|Zn [3,4,6,9,11,18,19,20] ?_;refine Zx<|A0<|Zo Wh (AA (cs:=#[_,_,_,_,_,_,_]) F2 CN Y B1 As)<|Zo Wh (AA (cs:=#[_,_,_]) C6 B2 Y B1 As)<|Zo Wh (AA (cs:=#[_,_,_,_,_,_,_,_,_,_]) G2 C7 Y B1 As)<|Zc [_,_,_] Y call101 Y V (TJ q hq y af A1 A1) ?_;rintro _ _ ⟨_,⟨j5,s3,rfl,h3,rfl⟩,rfl⟩;obtain ⟨Z,W,rfl⟩:=h3.form;refine Zm Y<|Zd Y rfl<|Zd Y rfl<|Xe (BM B2 Y Y HT Wu (by exact (rfl:_=(#[.slice Z (D7 q y g).1.rows.length W,I4 (D7 q y g).1.val,.bool (D7 q y g).1.fnd]:AH))) Fc B1 (by exact BC _))<|A4 Y<|A0<|Zm Y<|Zv (Br Y)<|A5<|AU Y (fun I=>?_) (fun I=>?_);·
   have G:(D7 q y g).2=false:=by simpa using I
   have O:Ba q r cs=(CB.none,true,false):=by unfold Ba;rw [QC (k:=k+1) (by rw [KG J hy,G];rfl)]
   refine Zq<|BX<|Zg<|Zv (BL (vs:=[]) (cs:=#[_,_,_]) Y (AZ (pl:=#[(0,1),(1,1),(2,1)]) Gk CH (fun _=>by kernel_rfl) V))<|Xe (Xw B2 _)<|Za Y<|AN Y<|Zn [6,7,8] ?_;refine Zx<|AJ<|Ac<|Zt<|Zt<|Ac<|Zt<|I8 rfl results48 Y Wh (Am C6 B2 Wn (rfl)) Y Y (by exact ⟨.slice none 0 0,[],by rw [O];rfl,by rw [O];exact Bf 5 _,rfl⟩)
  have G:(D7 q y g).2=true:=by simpa using I
  refine AC<|A8<|Zx<|Zg<|Ya (n:=1) Y Y<|Zm Y<|Z0<|Zn [9,20,3,4,6,18,19] ?_;refine Ab (e':=[(9,_),(20,_)]) (by exact ⟨k+1,(D7 q y g).1,Z,W,s3,rfl,⟨by omega,by rw [KG J hy,Ax G],h3⟩,by rw [e9],rfl⟩)
 have ek:k=cs.length:=by omega
 subst ek;rw [GS]at J⊢;have O:Ba q r cs=(g,cs.any (Dk q),true):=by unfold Ba;rw [J]
 refine Ay<|Zt<|Zt<|AR<|Zx<|A0<|Zo Wh (AA (cs:=#[_,_,_]) C6 B2 Y B1 As)<|Zm Y<|Xe (Xw B2 _)<|Za Y<|A4 Y<|AJ<|I8 rfl results48 Y Wh (Am C6 B2 Wn (rfl)) Y Y (by exact ⟨.slice gk _ ck,sk,by rw [O];rfl,by rw [O];exact cu,rfl⟩)
end Go.Proofs.YtfhjaegddfehhabGreatDoor
