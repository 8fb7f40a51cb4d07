/- proof.Start on any proofs of which something follows. -/
import Derived.Test.YtljkoipiekbijaaGreatDoorPy6
set_option linter.unusedVariables false
set_option linter.unusedSimpArgs false
namespace Go.Proofs.YtljkoipiekbijaaGreatDoor
open Go.Proofs.Tryz
open Go Go.RowKit Gw
set_option maxRecDepth 100000
attribute [local irreducible] Gw.At Gw.Nx Gw.Ops
variable{M:List AR}{x:RP}{L:List RP}
set_option maxHeartbeats 1000000 in
theorem oH{p9:C1}{m:Nat}(hL:Et M (.slice p9 (L.length+1) m) (x::L))(G:Eb x){t c lo hi:Int}(E:x.scan=(t,c,lo,hi))(O:Nat):CJ prog 54 #[I5 O,.agg #[I4 t,I4 c,I4 lo,I4 hi]] [[(O,.cells #[.slice p9 (L.length+1) m] 114 (0,0))],M] (fun r H'=>∃sr,BS 5 91 r (Ci x).length (Aa (Ci x)) sr/\H'=[sr,[(O,.cells #[.slice (EJ p9 1 m 9) L.length (m -1)] 114 (0,0))],M]):=by
 have bf:=mL;obtain ⟨p8,af,e9,U,J⟩:=hL.form;injection e9 with e91 e92 e93
 subst e91 e93;rw [GB]at U J;obtain ⟨z,Z,X,g,off,cur,T,zz,rfl,W,ax,I⟩:=hL.at (i:=0) rfl;subst Z;unfold RP.scan at E;injection E with hd1 E
 injection E with hd2 E
 injection E with hd3 hd4
 refine Se func54 ntmps54 [0,1] ?_;intro u R;refine A2<|Ze (Bx #[_,_,_,_])<|AE fun bx=>AF Y<|B7 Y<|Zp Y V<|Zh 0 SO V rfl E0 Y<|Zl FG Y ?_;refine Zv (AJ Ds Y)<|Zv (CW (n:=0) Y Y) ?_;rw [Cp (show(0:Nat)<L.length+1 by omega)];refine Xr [_] Y Sh Y V (LM) ?_;refine A6<|B7 Y<|Zp Y V<|Zh 0 SO V rfl E0 Y<|Zl FG Y ?_;refine BN (A9 (j:=0) Ds DM Y Y A0)<|Cj (cs:=[(g,.cells cur T zz)]) (by simp [W]) (A7 (cs:=#[_,_,_,_,_,_,_,_,_]) It DM Y A0 I) V rfl ?_;refine Ze (Al N0 #[_,_,_,_,_,_,_,_,_])<|AE fun bp=>Xe (Xw DM #[I4 z.x.tb,I4 z.x.cl,I4 z.x.lo,I4 z.x.hi,I4 z.x.ct,I4 z.x.fi,.slice z.qr z.x.rows.length z.cr,.slice z.qp z.x.paths.length z.cp,.slice z.qt z.x.roots.length z.ct]) ?_;refine Z0<|Zn [0,3,5] ?_;refine BT<|Sk 2 V<|Zp Y V<|Zh 0 SO V rfl E0 Y<|Zl FG Y ?_;refine BN (Bv (l:=1) Ds DM Y Y A0)<|Zp Y V<|Zh 0 SO V rfl E0 Y<|Xe (Zs E0 Y Y V (hi:=by(simp;done))) ?_;refine A6<|A2<|Zh 0 Bm V rfl A4 Y<|Zl A5 Y (hv:=by exact (V:_=some (Value.int .i64 z.x.tb))) ?_;refine Zh 1 Bm V rfl A4 Y<|Zl A5 Y (hv:=by exact (V:_=some (Value.int .i64 z.x.cl))) ?_;refine Zh 2 Bm V rfl A4 Y<|Zl A5 Y (hv:=by exact (V:_=some (Value.int .i64 z.x.lo))) ?_;refine Zh 3 Bm V rfl A4 Y<|Zl A5 Y (hv:=by exact (V:_=some (Value.int .i64 z.x.hi))) ?_;refine Zv (BK (vs:=[(0,I4 z.x.tb),(1,I4 z.x.cl),(2,I4 z.x.lo),(3,I4 z.x.hi)]) (cs:=#[I4 z.x.tb,I4 z.x.cl,I4 z.x.lo,I4 z.x.hi]) Y (AY (pl:=#[(0,1),(1,1),(2,1),(3,1)]) er OS (fun _=>by kernel_rfl) AG))<|Zo Wh (A7 (cs:=#[_,_,_,_]) isAgg83 ao Y BW B5) ?_;refine Zv (Qy AG OS AG AH AH AH AH Ge A5 Y Y) ?_;rw [Cp (show z.x.tb=t/\z.x.cl=c/\z.x.lo=lo/\z.x.hi=hi from⟨hd1,hd2,hd3,hd4⟩)];refine Xr [_] Y Sh Y V (LM) ?_;refine Z0<|Zn [5] ?_;refine BT<|Zo Wh (A7 (cs:=#[_,_,_,_,_,_,_,_,_]) It DM Y BW B5) ?_;refine Zc [_] Y call107 Y V (xz X.rp G V) ?_;rintro _ _ ⟨_,⟨vr,sr,rfl,K,rfl⟩,rfl⟩;obtain ⟨gr,c9,rfl⟩:=K.form;refine Sk 4 V<|AF Y<|B7 Y<|Xr [_] Y Sh Y V (LM) ?_
 refine A6<|B7 Y<|AM Y<|AO V results54 Y (by exact ⟨sr,K,V⟩)
theorem K4(h:Eb x):(Ci x).length<=2000/\∀r∈Ci x,r.ok:=by
 have z:=h.ct;have h2:=h.fi
 have E:=h.n;rw [Wi h];refine ⟨by have:=On (inB x) x.rows;omega,fun r m=>?_⟩;obtain ⟨j,g⟩:=JT (PA.1 m).1;exact (h.all j r g).1.1
theorem Tu{α:Type}{l:List α}{k:Nat}{x:α}(h:l[k]?=some x):l.drop k=x::l.drop (k+1):=by
 obtain ⟨g,rfl⟩:=D3.1 h;exact Sx g
variable{v:A3}{r:CB}
set_option maxHeartbeats 1000000 in
theorem uP(hL:Et M v L)(q:QM)(hr:Bu q L=some r):CJ prog 16 #[.agg q.Ax4,v] [M] (fun w H'=>∃rv sr,w= .tuple #[.agg #[rv,I4 r.val,.bool r.fnd],.bool true]/\BS 5 91 rv r.rows.length (Aa r.rows) sr/\H'=[sr,M]):=by
 have sw:=mL;obtain ⟨x,L2,rfl,hq,q9,J,oq,I⟩:=Qh hr;obtain ⟨pv,cv,rfl,_⟩:=hL.form;rw [GB]at hL;rw [GB];have hT:=hL.tail
 rw [S5]at hT;have pg:0<=q.bq/\q.bq<=3:=by have:=hq.2.2.2;omega
 refine GM func16 V ntmps16 V ?_;intro u R;refine Zb [0,1] ?_;refine A2<|Ze (Bx q.Ax4)<|AE fun bq=>Ze (Al GO #[_,_,_])<|AE fun bo=>Ze (Al de #[_])<|AE fun bk=>A6<|A2<|Zv (CV (vs:=[]) (us:=[_,_]) Y Y)<|Vh V Y ?_;refine A6<|A2<|Xe (Zs DP Y Y V (hi:=by decide))<|A6<|A2<|TH V Y ?_;refine A6<|A2<|Zo Wh (A7 (cs:=#[_,_,_,_,_,_,_]) DE CN Y BW B5)<|Xr [_] Y call31 Y V (Ld q) ?_;rw [Cp hq];refine Xr [_] Y Sh Y V (LM)<|A6<|B7 Y<|Zv (BK (vs:=[(0,_)]) (cs:=#[_]) Y (AY (pl:=#[(0,1)]) zeroValue114 SO (fun _=>by kernel_rfl) V))<|Ze (Bx #[_])<|AE fun br=>AN Y<|Zn [2,4,5,6] ?_;refine Zx<|B7 Y<|Zo Wh (A7 (cs:=#[_,_,_,_,_,_,_]) DE CN Y BW B5)<|Xr [_] Y call34 Y V (yE q hq)<|Zc [_,_] Y call54 Y V (oH hL J q9 br) ?_;rintro _ _ ⟨_,⟨sr,kv,rfl⟩,rfl⟩;obtain ⟨gr,qy,rfl⟩:=kv.form;have cO:=Ca kv A0
 obtain ⟨p7,qb,e7,⟨sj,qo⟩,mR⟩:=id cO;injection e7 with e71 e72 e73
 subst e71 e73;refine AF Y<|B7 Y<|Zv (AJ B0 Y)<|Zv (Vf (n:=100) Y Y) ?_;rw [Cp (show(Ci x).length<=100 by omega)];refine Xr [_] Y Sh Y V (LM)<|A6<|Zq<|Bi<|Zg<|AF Y<|Zb [8,2,4,5,6,7] ?_;refine C9 (e0:=[(8,_)]) (H0:=[[(br,.cells #[_] 114 (0,0))],[]]) (fun e H=>∃(o:List AV) (vo:A3) (so:List AR) (pr:C1) (cr:Nat),(r=Cc q (Ci x) o/\BS 5 91 vo o.length (Aa o) so/\o.length<=200000)/\e=[(8,vo)]/\H=[[(br,.cells #[.slice pr 0 cr] 114 (0,0))],so]) Wp ?hx_1 ?hy_1
 case hx_1=>
  refine A2<|Zh 0 CH V rfl A4 Y<|Zl A5 Y<|Zv (Bd Y Y)<|A6<|Ad Y (fun ax=>?_) (fun ax=>?_);·
   obtain ⟨K,W,Z⟩:∃o,DR q (Ci x) L2=some (o,[])/\r=Cc q (Ci x) o:=by rcases I with⟨h9,_⟩|⟨_,h9⟩;exact absurd ax h9;exact h9
   refine B7 Y<|Zv (AJ B0 Y)<|Zm Y<|A6<|AQ<|Zb [8,31,2,4,5,6,7,29,30] ?_;refine Av (e0:=[(8,_),(31,_)]) (fun m e H=>∃(k:Nat) (o:List AV) (l9:List RP) (vo:A3) (so:List AR) (pr:C1) (cr:Nat),m=(Ci x).length -k/\(k<=(Ci x).length/\DR q ((Ci x).take k) L2=some (o,l9)/\BS 5 91 vo o.length (Aa o) so/\Et M (.slice pr l9.length cr) l9/\o.length<=2000*k)/\e=[(8,vo),(31,I4 (k:Int))]/\H=[[(br,.cells #[.slice pr l9.length cr] 114 (0,0))],so]) (by exact ⟨0,[],L2,.slice none 0 0,[],_,_,V,⟨CD _,V,BX 5 _,hT,CD _⟩,V,V⟩) Wp ?_;rintro _ _ _ ⟨k,o,l9,vo,so,pr,cr,rfl,⟨hk,E,G,af,sO⟩,rfl,rfl⟩;obtain ⟨go,co,rfl⟩:=G.form;refine A2<|Zv (Ak Y Y)<|A6<|Zq<|Ad Y (fun gq=>?_) (fun gq=>?_);·
    obtain ⟨r9,bf⟩:∃r9,(Ci x)[k]?=some r9:=⟨_,Bk gq⟩;obtain ⟨g,off,cur,T,zz,rfl,p9,qw,d9⟩:=mR k r9 bf;obtain ⟨o8,l8,O,o9,bn,_⟩:=La (Ci x) k L2 (K,[]) A0 W;rw [E]at O;injection O with O
    injection O with h83 h84
    subst h83 h84;rw [Tu bf]at bn;obtain ⟨a9,c9,cu,_,_⟩:=KS bn;obtain ⟨x2,gm,gy,z,U⟩:=K5 cu;have p8:=(K4 z).1
    have qa:=MR (Ci x) k r9 L2 _ _ a9 bf E cu;rw [gm,GB];rw [gm,GB]at af;refine B3<|Zq<|AQ<|A2<|BN (A9 B0 AW Y Y A0)<|Cj (cs:=[(g,.cells cur T zz)]) (by simp [p9]) (A7 (cs:=r9.Ax3) C5 AW Y A0 d9) V rfl<|Ze (Al DS #[_,_,_,_,_])<|AE fun bx=>Xe (Xw AW r9.Ax3)<|A6<|Zg<|Sk 2 V<|Zo Wh (A7 (cs:=#[_,_,_,_,_,_,_]) DE CN Y BW B5)<|Zo Wh (A7 (cs:=#[_,_,_,_,_]) C5 AW Y BW B5)<|Xr [_,_] Y call36 Y V (O6 q pg r9)<|Zc [_,_] Y call54 Y V (oH af z gy br) ?_;rintro _ _ ⟨_,⟨s5,h5,rfl⟩,rfl⟩;rw [<-U]at h5;obtain ⟨g5,c5,rfl⟩:=h5.form;refine Ze (BL (by_:=40) (sz:=5) B0 (rfl:Tryz.prog.info? 91=some Tryz.t91) rfl rfl rfl rfl Y (G) Y (JW h5) Wo Wo (by exact CK _) (by rw [U];omega) (by rw [U];omega)) ?_;rintro _ _ ⟨vz,X,rfl⟩;obtain ⟨qz,qx,rfl⟩:=X.form;refine AN Y<|Zn [2,4,5,6,7,8,29,30,31] ?_;refine A8<|Zx<|GP Y Y Y<|DH (e:=[(8,_),(31,_)]) (h:=by exact ⟨k+1,o++a9.1,a9.2,_,_,_,_,rfl,⟨by omega,qa,BJ X (by rw [C7]) (by rw [BR]),af.tail,by rw [C7,U];omega⟩,rfl,rfl⟩)
   have ek:k=(Ci x).length:=by omega
   subst ek;rw [HJ,W]at E;injection E with E
   injection E with hrd1 hrd2
   subst hrd1 hrd2;have ve:=Z
   refine Az<|Zt<|Zt<|AU<|HC (by exact ⟨K,.slice go K.length co,so,pr,cr,⟨Z,G,by omega⟩,V,V⟩)
  obtain ⟨kz,pz⟩:L2=[]/\r=Cc q (Ci x) []:=by rcases I with⟨_,h9⟩|⟨h9,_⟩;exact h9;exact absurd h9 ax
  subst kz;refine AB<|HC (by exact ⟨[],.slice none 0 0,[],EJ pv 1 cv 9,cv -1,⟨pz,BX 5 _,CD _⟩,V,V⟩)
 rintro _ _ ⟨o,vo,so,pr,cr,⟨pq,G,tT⟩,rfl,rfl⟩;obtain ⟨go,co,rfl⟩:=G.form;have lv:=Ca G A0
 refine B7 Y<|Zp Y V<|Zh 0 SO V rfl E0 Y<|Zl FG Y<|Zv (AJ Ds Y)<|Zv (Bg (n:=0) Y Y) ?_;rw [Cp (show(0:Nat)=0 from rfl)];refine Xr [_] Y Sh Y V (LM)<|A6<|A2<|Zo Wh (A7 (cs:=#[_,_,_,_,_,_,_]) DE CN Y BW B5)<|Sk 2 V<|Zc [_,_,_] Y call55 Y V (ZT cO lv q A0 (fun _ r hr=>NB ((K4 J).2 r hr) q.bq)) ?_;rintro _ _ ⟨_,⟨vw,s3,rfl,h3,rfl⟩,rfl⟩;rw [Nl hq,<-pq]at h3⊢;obtain ⟨p3,c3,rfl⟩:=h3.form;refine Xe (Xw BE #[.slice p3 r.rows.length c3,I4 r.val,.bool r.fnd])<|Xe (Zs DP Y Y V (hi:=by decide))<|Z0<|Zn [4,5] ?_;refine Zx<|AC<|Yu V rfl call52 (j6 _) V call51 (nU bk _) Wp ?_;rintro _ rfl;refine ⟨_,[s3,M],fun a w hf hs=>F8 dv ((Br a _ hf 4).trans rfl) (Ai D0 BE (by exact B4 _) (cs:=#[.slice p3 r.rows.length c3,I4 r.val,.bool r.fnd]) (AP rfl) w (Ez (b:=bo) Wh hs)) ((Br a _ hf 5).trans rfl) (GY Fc (v:= .bool true) (i:=0) rfl w (Ez (b:=bk) Wh hs)),⟨_,s3,rfl,h3,rfl⟩,Sub.amid (by repeat(first|exact Sub.refl _|exact Sub.nil _|(apply Sub.cons;(focus (repeat(first|exact One.here _ _|apply One.there))))|refine Sub.drop _ ?_))⟩
variable{p:C1}
theorem Ti{α:Type}(f:α->List A3)(sz:Nat)(U:∀a,(f a).length=sz)(h0:0<sz){l:List α}(W:∀(i:Nat) (a:α),l[i]?=some a->∃g off cur T zz,p=some ⟨g,off,none⟩/\(g,Obj.cells cur T zz)∈M/\off+i*sz+sz<=cur.size/\cur.extract (off+i*sz) (off+i*sz+sz)=(f a).toArray):Gc M p (l.flatMap f):=by
 intro j u I;have z:(l.flatMap f).length=l.length*sz:=by
  clear W I;induction l with
  |nil=>simp
  |cons a l ih=>rw [L0,C7,ih,U,GB,Lq];omega
 have m:=(D3.1 I).1;rw [z]at m;have hd:=Nat.div_add_mod j sz
 have X:=gS j h0;have hi:j/sz<l.length:=lr (by rw [kk];exact m)
 obtain ⟨a,O⟩:∃a,l[j/sz]?=some a:=⟨_,Bk hi⟩;obtain ⟨g,off,cur,T,zz,rfl,E,J,G⟩:=W (j/sz) a O;refine ⟨g,off,cur,T,zz,V,E,?_⟩;have h1:=Mv G J (j%sz) X
 have h2:=Hg f sz U l (j/sz) a O;have Z:j/sz*sz+j%sz=j:=by rw [kk];exact hd
 have K:(l.flatMap f)[j/sz*sz+j%sz]?=(f a)[j%sz]?:=by rw [<-h2,I3,B2 X,Ly]
 rw [Z,I]at K;rw [show off+j=off+j/sz*sz+j%sz by omega,h1,eK];exact K.symm
variable{cap n:Nat}
theorem Ue{Z:List RPZ}(h:ZsU M (.slice p n cap) Z):Gc M p (Z.flatMap ET):=by
 obtain ⟨E,g,e,_,m⟩:=h;injection e with e1 e2 e3
 subst e1;exact Ti _ 9 (fun _=>rfl) AH fun i z hz=>(m i z hz).2
variable{l:List Bz}
theorem SY(h:DD M (.slice p n cap) l):Gc M p (Dn l):=by
 obtain ⟨E,g,e,_,m⟩:=h;injection e with e1 e2 e3
 subst e1;exact Ti _ 2 (fun _=>rfl) AH fun i z hz=>(m i z hz).2
theorem Nb(l:List Bz):(Dn l).length=l.length*2:=by
 induction l with
 |nil=>rfl
 |cons a l ih=>unfold Dn at*;rw [L0,C7,ih];simp only [GB,My];omega
theorem Ox(l:List Bz):∀u∈Dn l,u.oneCell'=true:=by
 intro u g;obtain ⟨z,_,h⟩:=cE.1 g;simp only [H4,PJ,R0]at h;rcases h with rfl|rfl<;>rfl
structure Jj where
 q:QM
 res:CB
 since:Int
 until_:Int
 base:Int
 ranges:List RP
 recs:List Bz
structure FI where
 a:Jj
 rp:C1
 rc:Nat
 gp:C1
 gc:Nat
 cp:C1
 cc:Nat
abbrev FI.Ax5(c:FI):Array Go.Value:=#[I4 c.a.q.kd,I4 c.a.q.tb,I4 c.a.q.cl,I4 c.a.q.lo,I4 c.a.q.hi,I4 c.a.q.bq,I4 c.a.q.ot,.slice c.rp c.a.res.rows.length c.rc,I4 c.a.res.val,.bool c.a.res.fnd,I4 c.a.since,I4 c.a.until_,I4 c.a.base,.slice c.gp c.a.ranges.length c.gc,.slice c.cp c.a.recs.length c.cc]
def FI.ok(M:List AR)(z:FI):Prop:=CZ M (.slice z.rp z.a.res.rows.length z.rc) z.a.res.rows/\Et M (.slice z.gp z.a.ranges.length z.gc) z.a.ranges/\DD M (.slice z.cp z.a.recs.length z.cc) z.a.recs
theorem EA{M':List AR}(h:DD M v l)(K:∀c∈M,c∈M'):DD M' v l:=by
 obtain ⟨p,cap,e,W,U⟩:=h;refine ⟨p,cap,e,W,fun i r X=>?_⟩;obtain ⟨⟨Z,m,O,J,I⟩,g,off,cur,T,zz,z,E,G⟩:=U i r X;refine ⟨⟨Z,m,O,J,fun j c hc=>?_⟩,g,off,cur,T,zz,z,K _ E,G⟩;obtain ⟨g,off,cur,T,zz,z,E,G⟩:=I j c hc;exact ⟨g,off,cur,T,zz,z,K _ E,G⟩
theorem FI.ok.mono{M':List AR}{z:FI}(h:z.ok M)(g:∀c∈M,c∈M'):z.ok M':=⟨h.1.mono g,h.2.1.mono g,EA h.2.2 g⟩
noncomputable def Cy(q:QM)(base:Int)(L:List RP)(recs:List Bz):Option Jj:=(Bu q L).bind fun r=>if recs.length<=64 then(II q base 0 (r,base) recs).map fun st=>⟨q,st.1,st.2,base+(recs.length:Int),base,L,recs⟩else none
variable{q:QM}{base:Int}
theorem OW{recs:List Bz}(h:¬recs.length<=64):Cy q base L recs=none:=by
 unfold Cy;cases Bu q L with
 |none=>rfl
 |some r=>rw [I0,Ax h]
theorem Jt{recs:List Bz}(g:Bu q L=some r)(h:recs.length<=64):Cy q base L recs=(II q base 0 (r,base) recs).map fun st=>⟨q,st.1,st.2,base+(recs.length:Int),base,L,recs⟩:=by
 unfold Cy;rw [g,I0,B2 h]
theorem YC(h:(CG q r base l).2.2=true):II q base 0 (r,base) l=some ((CG q r base l).1,(CG q r base l).2.1):=by
 unfold CG at*;split at h;· rename_i st h9;rw [h9]
 · cases h
theorem YD(h:(CG q r base l).2.2=false):II q base 0 (r,base) l=none:=by
 unfold CG at*;split at h;· cases h
 · rename_i h9;exact h9
theorem ig(hq:BH q){rows g:List AV}(hl:rows.length<=100)(I:∀r∈rows,r.ok):(Cc q rows g).rows.length<=200/\-1000000000000000000<=(Cc q rows g).val/\(Cc q rows g).val<=1000000000000000000:=by
 have G:=iO (q:=q) (rows:=rows) (fun r Z=>NB (I r Z) q.bq);have E:(DI q rows).length<=1000000000:=by rw [LB];omega
 have hj:=ZG q rows g;have hx:∀(lt:Int->Int->Bool) (hlt:∀a b c,lt b a=false->lt c b=false->lt c a=false) (hirr:∀a,lt a a=false) (hasy:∀a b,lt a b=true->lt b a=false),(EZ lt (DI q rows)).rows.length<=200/\-1000000000000000000<=(EZ lt (DI q rows)).val/\(EZ lt (DI q rows)).val<=1000000000000000000:=fun lt O U W=>by
  cases hms:DI q rows with
  |nil=>exact ⟨CD _,by show(_:Int)<=0;decide,by show(0:Int)<=_;decide⟩
  |cons z ms=>
   obtain ⟨x,J,_,K⟩:=LJ lt O U W z ms;rw [K];rw [hms]at G;have:=G x J
   exact ⟨CD _,by show _<=x;omega,by show x<=_;omega⟩
 have m:=gU G E (DI q rows).length;rw [HJ]at m;unfold Cc;split;· exact ⟨CD _,by simp only;omega,by simp only;omega⟩
 · split
   · exact ⟨CD _,m⟩
   · split
     · exact hx _ (fun a b c X h2=>by simp only [Rg]at*;omega) (fun a=>by simp) (fun a b h=>by simp only [LL,Rg]at*;omega)
     · split
       · exact hx _ (fun a b c X h2=>by simp only [Rg]at*;omega) (fun a=>by simp) (fun a b h=>by simp only [LL,Rg]at*;omega)
       · split
         · exact ⟨by simp only;omega,by simp only;decide,by simp only;decide⟩
         · exact ⟨by simp only;omega,by simp only;decide,by simp only;decide⟩
theorem jk{sz:Nat}{e:An}{xs:List A3}{s:List AR}(h:BS sz e v n xs s):n<=maxLen:=by
 obtain ⟨_,⟨_,h0,_⟩|⟨_,_,_,_,_,_,g,h2,_⟩⟩:=h;· omega
 · omega
theorem Oi(h:Bu q L=some r):BH q/\r.rows.length<=200/\-1000000000000000000<=r.val/\r.val<=1000000000000000000:=by
 obtain ⟨x,E,_,g,_,hc,m,z⟩:=Qh h;refine ⟨g,?_⟩;rcases z with⟨_,_,rfl⟩|⟨_,o,_,rfl⟩
 · exact ig g m (K4 hc).2
 · exact ig g m (K4 hc).2
theorem Qf{Z:List RPZ}(hv:ZsU M v Z)(X:Z.length<=1000000):CJ prog 43 #[v] [M] (fun r H'=>∃sr,BS 9 49 r Z.length (Z.flatMap ET) sr/\H'=[sr,M]):=by
 have U:=mL;have z:=hv
 obtain ⟨p,cap,rfl,⟨hl,O⟩,K⟩:=id hv;replace z:=Ue z;refine Se func43 ntmps43 [0] ?_;intro u R;refine A2<|AF Y<|C0 Y<|Zv (HV Ds Y Y)<|A6<|Af Y (fun I=>?_) (fun I=>?_);·
  have E:p=none:=by cases p with
   |none=>rfl
   |some x=>cases I
  have h0:Z=[]:=by
   cases Z with
   |nil=>rfl
   |cons x l=>obtain ⟨_,g,off,cur,T,zz,G,_⟩:=K 0 x rfl;rw [E]at G;cases G
  refine Zq<|Bi<|Zg<|AM Y<|Zt<|AO rfl results43 Y (by exact ⟨[],by rw [h0];exact BX 9 _,rfl⟩)
 refine AB<|BT<|Ze (EM Ds DM)<|AE fun J=>Zm Y<|Ze (G6 (by_:=120) (sz:=9) Ds (V:Tryz.prog.info? 49=some Tryz.t49) V rfl V rfl Y (En 9 49 J 0 [] V AH) Y (z) (by exact wV _) AH Wo Wo (by exact gH _) A0 A0) ?_;rintro _ _ ⟨W,m,rfl⟩;replace m:=BJ m (Dd _) (ON _);refine AM Y<|AO V results43 Y (by exact ⟨_,m,V⟩)
theorem Na{Z:List Bz}(hv:DD M v Z)(X:Z.length<=1000000):CJ prog 44 #[v] [M] (fun r H'=>∃sr,BS 2 78 r Z.length (Dn Z) sr/\H'=[sr,M]):=by
 have U:=mL;have z:=hv
 obtain ⟨p,cap,rfl,⟨hl,O⟩,K⟩:=id hv;replace z:=SY z;refine Se func44 ntmps44 [0] ?_;intro u R;refine A2<|AF Y<|C0 Y<|Zv (HV G4 Y Y)<|A6<|Af Y (fun I=>?_) (fun I=>?_);·
  have E:p=none:=by cases p with
   |none=>rfl
   |some x=>cases I
  have h0:Z=[]:=by
   cases Z with
   |nil=>rfl
   |cons x l=>obtain ⟨_,g,off,cur,T,zz,G,_⟩:=K 0 x rfl;rw [E]at G;cases G
  refine Zq<|Bi<|Zg<|AM Y<|Zt<|AO rfl results44 Y (by exact ⟨[],by rw [h0];exact BX 2 _,rfl⟩)
 refine AB<|BT<|Ze (EM G4 Fk)<|AE fun J=>Zm Y<|Ze (G6 (by_:=32) (sz:=2) G4 (V:Tryz.prog.info? 78=some Tryz.t78) V rfl V rfl Y (En 2 78 J 0 [] V AH) Y (z) (by exact Nb _) AH Wo Wo (by exact Ox _) A0 A0) ?_;rintro _ _ ⟨W,m,rfl⟩;replace m:=BJ m (Dd _) (ON _);refine AM Y<|AO V results44 Y (by exact ⟨_,m,V⟩)
variable{pg:C1}{cg:Nat}{lv:A3}
set_option maxHeartbeats 1000000 in
theorem sP(q:QM)(te base:Int)(hb:-1000000000000<=base/\base<=1000000000000)(hL:Et M (.slice pg L.length cg) L)(l8:L.length<=1000000)(hr:Bu q L=some r)(hl:DD M lv l)(d9:∀x∈l,x.cs.length<=1000):CJ prog 11 #[.agg #[I4 q.kd,I4 q.tb,I4 q.cl,I4 q.lo,I4 q.hi,I4 q.bq,I4 q.ot,I4 te,I4 base,.slice pg L.length cg],lv] [M] (fun w H'=>(∃(z:FI) (s3 s1 s2:List AR),Cy q base L l=some z.a/\z.ok (s3++(s1++(s2++M)))/\w= .tuple #[.agg z.Ax5,.bool true]/\H'=[s3,s1,s2,M])\/(Cy q base L l=none/\w= .tuple #[.agg #[I4 0,I4 0,I4 0,I4 0,I4 0,I4 0,I4 0,.slice none 0 0,I4 0,.bool false,I4 0,I4 0,I4 0,.slice none 0 0,.slice none 0 0],.bool false]/\H'=[M])):=by
 have o8:=mL;obtain ⟨hq,o9,gy⟩:=Oi hr;obtain ⟨pl,cl,rfl,l9,mR⟩:=id hl;obtain ⟨Z,hZ,W⟩:=id hL;have U:Z.length=L.length:=by rw [<-W,C2]
 obtain ⟨pz,cz,ez,_,kv⟩:=id hZ;refine Se func11 ntmps11 [0,1] ?_;intro u R;refine A2<|Ze (Bx #[I4 q.kd,I4 q.tb,I4 q.cl,I4 q.lo,I4 q.hi,I4 q.bq,I4 q.ot,I4 te,I4 base,.slice pg L.length cg])<|AE fun be=>Ze (Al Hs #[_,_,_,_,_,_,_,_,_,_,_,_,_,_,_])<|AE fun bo=>AF Y<|A2<|Zh 0 L4 V rfl CN Y<|Zo Wh (A7 (cs:=#[_,_,_,_,_,_,_]) DE CN Y BW B5) ?_;refine Zh 9 L4 V rfl E0 Y<|Zl FG Y ?_;refine Zc [_,_] Y call16 Y V (uP hL q hr) ?_;rintro _ _ ⟨_,⟨oq,s0,rfl,h0,rfl⟩,rfl⟩;obtain ⟨p0,c0,rfl⟩:=h0.form;have cO:=Ca h0 A0
 refine Sk 3 V<|Ze (Al GO #[_,_,_])<|AE fun bs=>Xe (Xw BE #[.slice p0 r.rows.length c0,I4 r.val,.bool r.fnd]) ?_;refine AN Y<|Zn [1,2,4,6,7] ?_;refine Zx<|C0 Y<|Zv (CR Y)<|Zm Y<|Ae (t:=19) Y V (fun X=>by cases X)<|fun X=>Zf Y Y<|Yg (AJ G4 Y)<|Yg (CW (n:=64) Y Y)<|H3 Y Y<|A6<|Ad Y (fun af=>?_) (fun af=>?_);·
  refine A2<|Zv (BK (vs:=[]) (cs:=#[_,_,_,_,_,_,_,_,_,_,_,_,_,_,_]) Y (AY (pl:=#[(0,7),(7,3),(10,1),(11,1),(12,1),(13,1),(14,1)]) Hs C3 (fun _=>by kernel_rfl) rfl))<|Xe (Ao F0 Y Y Ft Wu (by exact Bj rfl) DO AH (by exact Aw _)) ?_;refine AM Y<|Zt<|Bo V results11 Y Wh (Ai HQ F0 Wn (AP V)) Y (by exact .inr ⟨OW A0,V,V⟩)
 refine B3<|Zb [1,2,4,6] ?_;refine C9 (e0:=[]) (H0:=[]) (fun e H=>∃(I:Nat) (E:C1) (g:Nat) (s1:List AR) (G:C1) (m:Nat) (s2:List AR),(BS 9 49 (.slice E L.length g) Z.length (Z.flatMap ET) s1/\BS 2 78 (.slice G l.length m) l.length (Dn l) s2)/\e=[(8,I5 I)]/\H=[[(I,.cells #[I4 q.kd,I4 q.tb,I4 q.cl,I4 q.lo,I4 q.hi,I4 q.bq,I4 q.ot,.slice none 0 0,I4 0,.bool false,I4 0,I4 (base+(l.length:Int)),I4 base,.slice E L.length g,.slice G l.length m] 53 (0,0))],s1,s2]) Wp ?hx_2 ?hy_2
 case hx_2=>
  refine Au (n:=17) (0::1::0::4::0::16::60::0::128::0::512::1536::0::7680::16383::0::65535::[]) 108544 AG AG V<|A1 0 V (AL (off:=0) L4 V rfl CN Y)<|Fo 1 V Wh (A7 (cs:=#[_,_,_,_,_,_,_]) DE CN Y BW B5) ?_;refine A1 2 V (AL (off:=8) L4 V rfl A4 Y)<|B6 3 V A5 Y ?_;refine A1 4 V (AA Y)<|A1 5 V (AJ G4 Y) ?_
  (refine Dr (D':=127) 6 (Fw Y Y (IntWalk.i64_in _ ?_)) ?_;(focus (omega)))
  refine A1 7 V (AL (off:=8) L4 V rfl A4 Y)<|B6 8 V A5 Y ?_;refine A1 9 V (AL (off:=9) L4 V rfl E0 Y)<|B6 10 V FG Y ?_;refine A1 12 V (AA Y)<|Zz (l:=[11,15])<|C6 [false,true,true,true] [(8,(_,_)),(3,(_,_)),(1,(_,_))] V rfl (Zw [_] Y call43 Y V (Qf hZ A0)) ?hk_3 DC ?hl_3
  case' hk_3=>
   rintro _ _ ⟨_,⟨s1,J,rfl⟩,rfl⟩;refine ⟨Zk (Zk (Zk (Ab))),?_⟩;obtain ⟨E,g,O⟩:=J.form;rw [U]at O;subst O;refine Zz (l:=[13,15])<|C6 [true,true,true] [(8,(_,_)),(3,(_,_)),(1,(_,_))] V rfl (Zw [_] Y call44 Y V (Na hl A0)) ?hk_4 DC ?hl_4
   case' hk_4=>
    rintro _ _ ⟨_,⟨s2,h2,rfl⟩,rfl⟩;refine ⟨Zk (Zk (Zk (Ab))),?_⟩;obtain ⟨G,m,rfl⟩:=h2.form;refine A1 14 V (BK (vs:=[(0,.agg q.Ax4),(3,I4 (base+(l.length:Int))),(4,I4 base),(5,.slice E L.length g),(6,.slice G l.length m)]) (cs:=#[I4 q.kd,I4 q.tb,I4 q.cl,I4 q.lo,I4 q.hi,I4 q.bq,I4 q.ot,.slice none 0 0,I4 0,.bool false,I4 0,I4 (base+(l.length:Int)),I4 base,.slice E L.length g,.slice G l.length m]) Y (AY (pl:=#[(0,7),(7,3),(10,1),(11,1),(12,1),(13,1),(14,1)]) Hs C3 (fun _=>by kernel_rfl) AG))<|Yz 15 0 65535 [8,3,1] [true,true,true] [(8,(_,_)),(3,(_,_)),(1,(_,_))] V Y V rfl V rfl (Al Hs #[_,_,_,_,_,_,_,_,_,_,_,_,_,_,_])<|AE fun I=>CA<|Yw 16 131071 V (Xw F0 #[I4 q.kd,I4 q.tb,I4 q.cl,I4 q.lo,I4 q.hi,I4 q.bq,I4 q.ot,.slice none 0 0,I4 0,.bool false,I4 0,I4 (base+(l.length:Int)),I4 base,.slice E L.length g,.slice G l.length m])<|DA<|Am<|HC (by exact ⟨I,E,g,s1,G,m,s2,⟨J,h2⟩,V,V⟩)
   case' hl_4=>
    refine C6 [true,true,true] [(8,(_,_)),(3,(_,_)),(1,(_,_))] V rfl (Al Hs #[_,_,_,_,_,_,_,_,_,_,_,_,_,_,_]) ?hk_8 (fun _ _ h=>h.elim) ?hl_8
    case' hk_8=>
     rintro _ _ ⟨I,rfl,rfl⟩;refine ⟨Zk (Zk (Zk (Ab))),?_⟩
    case' hl_8=>
     exact Ar
  case' hl_3=>
   refine C6 [true,true,true,true] [(10,(_,_)),(8,(_,_)),(3,(_,_)),(1,(_,_))] V rfl (Al Hs #[_,_,_,_,_,_,_,_,_,_,_,_,_,_,_]) ?hk_12 (fun _ _ h=>h.elim) ?hl_12
   case' hk_12=>
    rintro _ _ ⟨I,rfl,rfl⟩;refine CA<|Zz (l:=[11])<|C6 [false,true,true,true] [(8,(_,_)),(3,(_,_)),(1,(_,_))] V rfl (Zw [_] Y call43 Y V (Qf hZ A0)) ?hk_13 DC ?hl_13
    case' hk_13=>
     rintro _ _ ⟨_,⟨s1,J,rfl⟩,rfl⟩;refine ⟨Zk (Zk (Zk (Ab))),?_⟩;obtain ⟨E,g,O⟩:=J.form;rw [U]at O;subst O
    case' hl_13=>
     exact Ar
   case' hl_12=>
    exact Ar
  all_goals
   refine Zz (l:=[13])<|C6 [true,true,true] [(8,(_,_)),(3,(_,_)),(1,(_,_))] V rfl (Zw [_] Y call44 Y V (Na hl A0)) ?_ DC Ar;rintro _ _ ⟨_,⟨s2,h2,rfl⟩,rfl⟩;refine ⟨Zk (Zk (Zk (Ab))),?_⟩;obtain ⟨G,m,rfl⟩:=h2.form;refine A1 14 V (BK (vs:=[(0,.agg q.Ax4),(3,I4 (base+(l.length:Int))),(4,I4 base),(5,.slice E L.length g),(6,.slice G l.length m)]) (cs:=#[I4 q.kd,I4 q.tb,I4 q.cl,I4 q.lo,I4 q.hi,I4 q.bq,I4 q.ot,.slice none 0 0,I4 0,.bool false,I4 0,I4 (base+(l.length:Int)),I4 base,.slice E L.length g,.slice G l.length m]) Y (AY (pl:=#[(0,7),(7,3),(10,1),(11,1),(12,1),(13,1),(14,1)]) Hs C3 (fun _=>by kernel_rfl) AG))<|Yw 16 131071 V (Xw F0 #[I4 q.kd,I4 q.tb,I4 q.cl,I4 q.lo,I4 q.hi,I4 q.bq,I4 q.ot,.slice none 0 0,I4 0,.bool false,I4 0,I4 (base+(l.length:Int)),I4 base,.slice E L.length g,.slice G l.length m])<|DA<|Am<|HC (by exact ⟨I,E,g,s1,G,m,s2,⟨J,h2⟩,V,V⟩)
 rintro _ _ ⟨I,E,g,s1,G,m,s2,⟨J,h2⟩,rfl,rfl⟩;refine Zq<|A2<|Zh 0 L4 V rfl CN Y<|Zo Wh (A7 (cs:=#[_,_,_,_,_,_,_]) DE CN Y BW B5) ?_;refine Zo Wh (A7 (cs:=#[_,_,_]) D0 BE Y BW B5) ?_;refine Zh 8 L4 V rfl A4 Y<|Zl A5 Y ?_;refine Zm Y<|Zc [_,_,_,_] Y call45 Y V (YB q hq base A0 hl A0 d9 cO A0 gy) ?_;rintro _ _ ⟨_,⟨p8,s3,rfl,h3,rfl⟩,rfl⟩;obtain ⟨g3,c3,rfl⟩:=h3.form;refine Sk 4 rfl<|Zh 7 C3 rfl rfl BE Y<|Xe (Ao BE Y Y Ft Wu (by exact (rfl:_=(#[I4 q.kd,I4 q.tb,I4 q.cl,I4 q.lo,I4 q.hi,I4 q.bq,I4 q.ot,.slice g3 (CG q r base l).1.rows.length c3,I4 (CG q r base l).1.val,.bool (CG q r base l).1.fnd,I4 0,I4 (base+(l.length:Int)),I4 base,.slice E L.length g,.slice G l.length m]:As))) DO BW (by exact Aw _)) ?_;refine Zh 10 C3 V rfl A4 Y<|Xe (Zs A4 Y Y V (hc:=by exact (V:_=(#[I4 q.kd,I4 q.tb,I4 q.cl,I4 q.lo,I4 q.hi,I4 q.bq,I4 q.ot,.slice g3 (CG q r base l).1.rows.length c3,I4 (CG q r base l).1.val,.bool (CG q r base l).1.fnd,I4 (CG q r base l).2.1,I4 (base+(l.length:Int)),I4 base,.slice E L.length g,.slice G l.length m]:As))) (hi:=by(simp;done))) ?_;refine AN Y<|Zn [4,7,8] ?_;refine Zx<|B7 Y<|Zv (CR Y)<|A6<|Af Y (fun K=>?_) (fun K=>?_);·
  have gm:(CG q r base l).2.2=false:=by simpa using K
  refine A2<|Zv (BK (vs:=[]) (cs:=#[_,_,_,_,_,_,_,_,_,_,_,_,_,_,_]) Y (AY (pl:=#[(0,7),(7,3),(10,1),(11,1),(12,1),(13,1),(14,1)]) Hs C3 (fun _=>by kernel_rfl) rfl))<|Xe (Ao F0 Y Y Ft Wu (by exact Bj rfl) DO AH (by exact Aw _)) ?_;refine AM Y<|Zt<|Bo rfl results11 Y Wh (Ai HQ F0 Wn (AP rfl)) Y (by exact .inr ⟨by rw [Jt hr A0,YD gm];rfl,rfl,rfl⟩)
 have bf:(CG q r base l).2.2=true:=by simpa using K
 refine B3<|Zq ?_;have bn:∀z∈Z,z.ok M:=fun z hz=>by obtain ⟨i,hi⟩:=JT hz;exact (kv i z hi).1
 have ax:∀x∈l,DJ M (.slice x.q x.cs.length x.cap) x.cs:=fun x hx=>by obtain ⟨i,hi⟩:=JT hx;obtain ⟨_,_,_,_,ek⟩:=hl;exact (ek i x hi).1
 have gq:=YC bf;have kz:=Ew h3
 have cu:=jk h3;refine Zg<|Zo Wh (A7 (cs:=#[_,_,_,_,_,_,_,_,_,_,_,_,_,_,_]) HQ F0 Y BW B5) ?_;refine Xe (Ao F0 Y Y Ft Wu (by exact Bj rfl) DO AH (by exact Aw _)) ?_;refine AM Y<|Bo rfl results11 Y Wh (Ai HQ F0 Wn (AP rfl)) Y (by exact .inl ⟨⟨⟨q,(CG q r base l).1,(CG q r base l).2.1,base+(l.length:Int),base,L,l⟩,g3,c3,E,g,G,m⟩,s3,s1,s2,by rw [Jt hr A0,gq];rfl,⟨(Ca h3 cu).mono (fun c hc=>HE _ hc),⟨Z,(gB J A0 bn).mono (fun c hc=>by rcases GS.1 hc with h9|h9;exact G2 _ (HE _ h9);exact G2 _ (G2 _ (G2 _ h9))),W⟩,EA (NG h2 (by show l.length<=maxLen;omega) ax) (fun c hc=>G2 _ (G2 _ hc))⟩,rfl,rfl⟩)
def AZ0:FI:=⟨⟨⟨0,0,0,0,0,0,0⟩,CB.none,0,0,0,[],[]⟩,none,0,none,0,none,0⟩
theorem Tz(q:QM)(E base:Int)(I:-1000000000000<=base/\base<=1000000000000)(G:Et M (.slice pg L.length cg) L)(g:L.length<=1000000)(K:Bu q L=some r)(J:DD M lv l)(m:∀x∈l,x.cs.length<=1000):CJ prog 11 #[.agg #[I4 q.kd,I4 q.tb,I4 q.cl,I4 q.lo,I4 q.hi,I4 q.bq,I4 q.ot,I4 E,I4 base,.slice pg L.length cg],lv] [M] (fun w H'=>∃(z:FI) (s:List AR) (b:Bool),((b=true/\Cy q base L l=some z.a/\z.ok (s++M))\/(b=false/\Cy q base L l=none/\z=AZ0))/\w= .tuple #[.agg z.Ax5,.bool b]/\H'=[s,M]):=by
 refine E8 (sP q E base I G g K J m) V ?_;rintro w H' (⟨z,s3,s1,s2,h1,h2,rfl,rfl⟩|⟨h1,rfl,rfl⟩);· exact ⟨_,⟨z,s3++(s1++s2),true,.inl ⟨rfl,h1,by simpa only [G0]using h2⟩,rfl,rfl⟩,by simp⟩
 · exact ⟨_,⟨⟨⟨⟨0,0,0,0,0,0,0⟩,CB.none,0,0,0,[],[]⟩,none,0,none,0,none,0⟩,[],false,.inr ⟨rfl,h1,rfl⟩,rfl,rfl⟩,by simp⟩
theorem jD(q:QM)(J base:Int)(O:-1000000000000<=base/\base<=1000000000000)(K:Et M (.slice pg L.length cg) L)(m:L.length<=1000000)(W:Bu q L=some r)(U:DD M lv l)(E:∀x∈l,x.cs.length<=1000):CJ prog 11 #[.agg #[I4 q.kd,I4 q.tb,I4 q.cl,I4 q.lo,I4 q.hi,I4 q.bq,I4 q.ot,I4 J,I4 base,.slice pg L.length cg],lv] [M] (fun w H'=>∃(z:FI) (s:List AR) (b:Bool),((b=true/\Cy q base L l=some z.a/\z.ok (s++M))\/(b=false/\Cy q base L l=none))/\w= .tuple #[.agg z.Ax5,.bool b]/\H'=[s,M]):=by
 refine (Tz q J base O K m W U E).mono ?_;rintro w H' ⟨z,s,b,g|⟨g,h2,_⟩,G,I⟩;· exact ⟨z,s,b,.inl g,G,I⟩
 · exact ⟨z,s,b,.inr ⟨g,h2⟩,G,I⟩
def Jj.eqv(a b:Jj):Prop:=a.q=b.q/\a.since=b.since/\a.until_=b.until_/\a.base=b.base/\a.res=b.res/\a.ranges=b.ranges/\a.recs.map Bz.key=b.recs.map Bz.key
instance(a b:Jj):Decidable (a.eqv b):=inferInstanceAs(Decidable (_/\_))
def Eg(base until_:D5)(a:Jj):Prop:=base.p=a.base/\until_.p=a.until_/\FW base a.recs until_/\(∀x∈a.ranges,KF base.st x)/\∃b,Cy a.q a.base a.ranges a.recs=some b/\a.eqv b
noncomputable instance(base until_:D5)(a:Jj):Decidable (Eg base until_ a):=Classical.propDecidable _
def RP.small(x:RP):Prop:=(∀s∈x.roots,s.length<=140737488354000)/\∀l∈x.paths,l.length<=1000000
theorem Js{a b:Jj}(h:¬a.eqv b):Value.bool false=Value.bool (decide (a.eqv b)):=congrArg Value.bool (CC h).symm
variable{y:FI}
theorem Lf{x:FI}(hx:x.ok M)(hy:y.ok M):BB prog 21 #[.agg x.Ax5,.agg y.Ax5] [M] (.bool (decide (x.a.eqv y.a))):=by
 refine Se func21 ntmps21 [0,1] ?_;intro u R;refine A2<|Ze (Bx x.Ax5)<|AE fun J=>Ze (Bx y.Ax5)<|AE fun K=>AF Y<|A2<|Zh 0 C3 V rfl CN Y<|Zo Wh (A7 (cs:=#[_,_,_,_,_,_,_]) DE CN Y BW B5)<|Zh 0 C3 V rfl CN Y<|Zo Wh (A7 (cs:=#[_,_,_,_,_,_,_]) DE CN Y BW B5)<|Zv (X5 AG Y Y (eqQ x.a.q y.a.q))<|Zm Y<|AZ (t:=10) Y V (fun g=>?_) (fun g=>?_);·
  refine Yf 10 C3 V rfl A4 Y<|Yl A5 Y<|Yf 10 C3 V rfl A4 Y<|Yl A5 Y<|Yg (Bd Y Y)<|Sk 2 V ?_;refine AZ (t:=17) Y V (fun h2=>?_) (fun h2=>?_);·
   refine Yf 11 C3 V rfl A4 Y<|Yl A5 Y<|Yf 11 C3 V rfl A4 Y<|Yl A5 Y<|Yg (Bd Y Y)<|Sk 2 V ?_;refine AZ (t:=24) Y V (fun m=>?_) (fun m=>?_);·
    refine Yf 12 C3 V rfl A4 Y<|Yl A5 Y<|Yf 12 C3 V rfl A4 Y<|Yl A5 Y<|Yg (Bd Y Y)<|Sk 2 V ?_;refine AZ (t:=31) Y V (fun z=>?_) (fun z=>?_);·
     refine Yf 7 C3 V rfl BE Y<|DK Y Wh (A7 (cs:=#[_,_,_]) D0 BE Y BW B5) V rfl<|Yf 7 C3 V rfl BE Y<|DK Y Wh (A7 (cs:=#[_,_,_]) D0 BE Y BW B5) V rfl<|Xr [_,_] Y call65 Y V (fF hx.1 hy.1)<|Sk 2 V ?_;refine AZ (t:=38) Y V (fun E=>?_) (fun E=>?_);·
      refine Yf 13 C3 V rfl E0 Y<|Yl FG Y<|Yf 13 C3 V rfl E0 Y<|Yl FG Y<|Xr [_,_,_] Y call66 Y V (Xb hx.2.1 hy.2.1)<|Sk 2 V ?_;refine AZ (t:=45) Y V (fun G=>?_) (fun G=>?_);·
       refine Yf 14 C3 V rfl Kd Y<|Yl LS Y<|Yf 14 C3 V rfl Kd Y<|Yl LS Y<|Xr [_,_,_] Y call68 Y V (Ud hx.2.2 hy.2.2)<|HR Y Y<|AN Y<|Zn [4] ?_;refine Zx<|AC<|AO V dy Y (by exact ⟨by exact F4 ⟨fun I=>⟨g,h2,m,z,E,G,I⟩,fun I=>I.2.2.2.2.2.2⟩,V⟩)
      refine Sk 6 V<|AN Y<|Zn [4] ?_;refine Zx<|AC<|AO V dy Y (by exact ⟨by exact Js (fun e=>G e.2.2.2.2.2.1),V⟩)
     refine Sk 13 V<|AN Y<|Zn [4] ?_;refine Zx<|AC<|AO V dy Y (by exact ⟨by exact Js (fun e=>E e.2.2.2.2.1),V⟩)
    refine Sk 20 V<|AN Y<|Zn [4] ?_;refine Zx<|AC<|AO V dy Y (by exact ⟨by exact Js (fun e=>z e.2.2.2.1),V⟩)
   refine Sk 27 V<|AN Y<|Zn [4] ?_;refine Zx<|AC<|AO V dy Y (by exact ⟨by exact Js (fun e=>m e.2.2.1),V⟩)
  refine Sk 34 V<|AN Y<|Zn [4] ?_;refine Zx<|AC<|AO V dy Y (by exact ⟨by exact Js (fun e=>h2 e.2.1),V⟩)
 refine Sk 41 V<|AN Y<|Zn [4] ?_;refine Zx<|AC<|AO V dy Y (by exact ⟨by exact Js (fun e=>g e.1),V⟩)
theorem XG(h:D5){z:RPZ}(hz:z.ok M)(E:z.x.small)(m:Nat)(g:An)(G:Nat×Nat):BB prog 60 #[.agg #[I4 z.x.tb,I4 z.x.cl,I4 z.x.lo,I4 z.x.hi,I4 z.x.ct,I4 z.x.fi,.slice z.qr z.x.rows.length z.cr,.slice z.qp z.x.paths.length z.cp,.slice z.qt z.x.roots.length z.ct],I5 m] [[(m,.cells #[I4 h.p,.string (str h.ch),.string (str h.st)] 67 (0,0))],[(1,.cells (Dj.map CP).toArray g G)],M] (.bool (decide (¬KF h.st z.x))):=by
 refine Se func60 ntmps60 [0,1] ?_;intro u R;refine A2<|Ze (Bx #[I4 z.x.tb,I4 z.x.cl,I4 z.x.lo,I4 z.x.hi,I4 z.x.ct,I4 z.x.fi,.slice z.qr z.x.rows.length z.cr,.slice z.qp z.x.paths.length z.cp,.slice z.qt z.x.roots.length z.ct])<|AE fun I=>AF Y<|A2<|Zh 2 Hc V rfl F2 Y<|Zl HG Y<|Zo Wh (A7 (cs:=#[_,_,_,_,_,_,_,_,_]) It DM Y Wb (AP V))<|Xr [_,_] Y call61 Y V (WR hz.rp E.1 E.2 h.st g G)<|Zv (Bp Y)<|AM Y<|AO V results60 Y (by exact ⟨V,V⟩)
theorem UY(h:D5)(hL:Et M v L)(hs:∀x∈L,x.small)(K:Nat)(U:An)(zg:Nat×Nat):CJ prog 126 #[v,.func (.func 60) #[] #[I5 K]] [[(K,.cells #[I4 h.p,.string (str h.ch),.string (str h.st)] 67 (0,0))],[(1,.cells (Dj.map CP).toArray U zg)],M] (fun w H'=>∃z:Int,w=I4 z/\(0<=z↔¬∀x∈L,KF h.st x)/\H'=[[(K,.cells #[I4 h.p,.string (str h.ch),.string (str h.st)] 67 (0,0))],[(1,.cells (Dj.map CP).toArray U zg)],M]):=by
 have ek:=mL;obtain ⟨pa,ca,rfl,d9,bn⟩:=hL.form;refine Se func126 ntmps126 [0,1] ?_;intro u R;refine A2<|AF Y<|C0 Y<|Zv (AJ Ds Y)<|Zm Y<|A6<|AQ<|Zb [8,0,1,7] ?_;refine Av (e0:=[(8,_)]) (fun m e H=>∃(i:Nat),m=L.length -i/\(i<=L.length/\∀(j:Nat) (y:RP),j<i->L[j]?=some y->KF h.st y)/\e=[(8,I4 (i:Int))]/\H=[]) (by exact ⟨0,V,⟨CD _,by intro j y O;omega⟩,V,V⟩) Wp ?_;rintro _ _ _ ⟨i,rfl,⟨hi,E⟩,rfl,rfl⟩;refine A2<|Zv (Ak Y Y)<|A6<|Zq<|Ad Y (fun W=>?_) (fun W=>?_);·
  obtain ⟨x9,hx⟩:∃x,L[i]?=some x:=⟨_,Bk A0⟩;obtain ⟨x,af,Z,g1,cO,G,T1,bf,rfl,X,cu,I⟩:=hL.at hx;subst af;have ax:=hs x.x (Fm hx)
  refine B3<|Zq<|AQ<|B7 Y<|AF Y<|A2<|Sk 3 V ?_;refine BN (A9 Ds DM Y Y A0)<|Cj (cs:=[(g1,.cells G T1 bf)]) (by simp [X]) (A7 (cs:=#[_,_,_,_,_,_,_,_,_]) It DM Y A0 I) V rfl<|Xr [_] Y call60 Y V (XG h Z ax K U zg)<|A6<|Ad Y (fun hv=>?_) (fun hv=>?_);·
   refine B7 Y<|AM Y<|AX<|Zt<|Zt<|AX<|Zt<|AO V results126 Y (by exact ⟨_,V,⟨fun _ g=>hv (g _ (Fm hx)),fun _=>by omega⟩,V⟩)
  refine AB<|A8<|Zx<|GP Y Y Y<|HN (by exact ⟨i+1,rfl,⟨by omega,fun j y O hy=>by rcases FA j i with g|g;exact E j y g hy;obtain rfl:j=i:=A0;rw [hx]at hy;injection hy with hy;rw [<-hy];exact Fi.1 hv⟩,rfl,rfl⟩)
 have J:∀x∈L,KF h.st x:=fun x hx=>by obtain ⟨j,O⟩:=JT hx;exact E j x (by have:=(D3.1 O).1;omega) O
 refine Az<|Zt<|Zt<|AU<|BT<|AM Y<|AO V results126 Y (by exact ⟨_,V,⟨fun g=>absurd g AH,fun g=>absurd J g⟩,V⟩)
theorem aZ(h:D5)(G:Et M v L)(I:∀x∈L,x.small)(g:Nat)(m:An)(E:Nat×Nat):CJ prog 62 #[v,.func (.func 60) #[] #[I5 g]] [[(g,.cells #[I4 h.p,.string (str h.ch),.string (str h.st)] 67 (0,0))],[(1,.cells (Dj.map CP).toArray m E)],M] (fun w H'=>∃b:Bool,w= .bool b/\(b=true↔¬∀x∈L,KF h.st x)/\H'=[[(g,.cells #[I4 h.p,.string (str h.ch),.string (str h.st)] 67 (0,0))],[(1,.cells (Dj.map CP).toArray m E)],M]):=by
 refine Se func62 ntmps62 [0,1] ?_;intro u R;refine A2<|AF Y<|A2<|Sk 2 V<|Zc [_,_] Y call126 Y V (UY h G I g m E) ?_;rintro _ _ ⟨_,⟨z,rfl,hz,rfl⟩,rfl⟩;refine Zv (Fa Y Y)<|AM Y<|AO rfl results62 Y (by exact ⟨_,rfl,by rw [<-hz];simp,rfl⟩)
theorem VN{A:List AR}{x:FI}(hx:x.ok M)(hy:y.ok (A++M)):BB prog 21 #[.agg x.Ax5,.agg y.Ax5] [A,M] (.bool (decide (x.a.eqv y.a))):=by
 refine E8 (Lf (hx.mono (fun c hc=>G2 A hc)) hy) C4 ?_;rintro r H' ⟨rfl,rfl⟩;exact ⟨_,⟨V,V⟩,by simp⟩
set_option maxHeartbeats 1000000 in
theorem wJ(base until_:D5){z:FI}(hz:z.ok M)(hs:∀x∈z.a.ranges,x.small)(bn:z.a.ranges.length<=1000000)(hb:-1000000000000<=z.a.base/\z.a.base<=1000000000000)(ax:∀x∈z.a.recs,x.cs.length<=1000)(hr:Bu z.a.q z.a.ranges=some r)(J:An)(zg:Nat×Nat):BB prog 19 #[.agg #[I4 base.p,.string (str base.ch),.string (str base.st)],.agg #[I4 until_.p,.string (str until_.ch),.string (str until_.st)],.agg z.Ax5] [[(1,.cells (Dj.map CP).toArray J zg)],M] (.bool (decide (Eg base until_ z.a))):=by
 have cO:=mL;refine Se func19 ntmps19 [0,1,2] ?_;intro u R;refine A2<|Ze (Bx #[_,_,_])<|AE fun b1=>Ze (Bx #[_,_,_])<|AE fun b2=>Ze (Bx z.Ax5)<|AE fun b3=>CT Y<|A2<|Zh 0 Hc V rfl A4 Y<|Zl A5 Y<|Zh 12 C3 V rfl A4 Y<|Zl A5 Y<|Zv (ED Y Y)<|Zm Y<|AZ (t:=15) Y V (fun K=>?_) (fun K=>?_);·
  refine Sk 14 V<|Z0<|Zn [3,5,29] ?_;refine Zx<|BV Y<|A2<|AM Y<|Zt<|AO V SZ Y (by exact ⟨congrArg Value.bool (CC (fun g:Eg base until_ z.a=>by exact K g.1)).symm,V⟩)
 refine Yf 0 Hc V rfl A4 Y<|Yl A5 Y<|Yf 11 C3 V rfl A4 Y<|Yl A5 Y<|Yg (ED Y Y)<|Sk 2 V ?_;refine AZ (t:=22) Y V (fun h2=>?_) (fun h2=>?_);·
  refine Sk 7 V<|Z0<|Zn [3,5,29] ?_;refine Zx<|BV Y<|A2<|AM Y<|Zt<|AO V SZ Y (by exact ⟨congrArg Value.bool (CC (fun g:Eg base until_ z.a=>by exact h2 g.2.1)).symm,V⟩)
 refine DK Y Wh (A7 (cs:=#[_,_,_]) HK Ek Y Wb (AP V)) V rfl<|Yf 14 C3 V rfl Kd Y<|Yl LS Y<|DK Y Wh (A7 (cs:=#[_,_,_]) HK Ek Y Wb (AP V)) V rfl<|Xr [_,_,_] Y call59 Y V (Vw base until_ hz.2.2 J zg)<|Yg (Bp Y)<|H3 Y Y<|Z0<|Zn [3,5,29] ?_;refine Zx<|Ad Y (fun W=>?_) (fun W=>?_);·
  refine A2<|AM Y<|Zt<|AO V SZ Y (by exact ⟨congrArg Value.bool (CC (fun g:Eg base until_ z.a=>by exact W g.2.2.1)).symm,V⟩)
 have O:=Fi.1 K;have U:=Fi.1 h2
 have X:=Fi.1 W;refine AB<|BT<|Zv (CV (vs:=[]) (us:=[_]) Y Y)<|CT Y<|A2<|Zh 13 C3 V rfl E0 Y<|Zl FG Y<|Zm Y<|Zc [_,_] Y call62 Y V (aZ base hz.2.1 hs b1 J zg) ?_;rintro _ _ ⟨_,⟨bf,rfl,G,rfl⟩,rfl⟩;refine A6<|Af Y (fun Z=>?_) (fun Z=>?_);·
  refine A2<|AM Y<|Zt<|AO V SZ Y (by exact ⟨congrArg Value.bool (CC (fun g:Eg base until_ z.a=>(G.1 Z) g.2.2.2.1)).symm,V⟩)
 have h5:∀x∈z.a.ranges,KF base.st x:=Fi.1 fun g=>by have:=G.2 g;rw [Z]at this;cases this
 refine AB<|BT<|Zh 0 C3 V rfl CN Y<|Zo Wh (Pa #[_,_,_,_,_,_,_] DE CN Y)<|Zh 12 C3 V rfl A4 Y<|Zl A5 Y<|Zh 13 C3 V rfl E0 Y<|Zl FG Y<|Zv (BK (vs:=[(0,.agg z.a.q.Ax4),(2,I4 z.a.base),(3,.slice z.gp z.a.ranges.length z.gc)]) (cs:=#[I4 z.a.q.kd,I4 z.a.q.tb,I4 z.a.q.cl,I4 z.a.q.lo,I4 z.a.q.hi,I4 z.a.q.bq,I4 z.a.q.ot,I4 0,I4 z.a.base,.slice z.gp z.a.ranges.length z.gc]) Y (AY (pl:=#[(0,7),(7,1),(8,1),(9,1)]) SR L4 (fun _=>by kernel_rfl) AG))<|Zh 14 C3 V rfl Kd Y<|Zl LS Y<|Zc [_,_] Y call11 Y V (jD z.a.q 0 z.a.base hb hz.2.1 bn hr hz.2.2 ax) ?_;rintro _ _ ⟨_,⟨y,s9,d9,I,rfl,rfl⟩,rfl⟩;refine Sk 3 V<|Ze (Al Hs #[_,_,_,_,_,_,_,_,_,_,_,_,_,_,_])<|AE fun b4=>Xe (Xw F0 y.Ax5)<|AN Y<|Zn [5,8,9] ?_;refine BT<|Sk 2 V ?_;refine Ae (t:=49) Y V (fun h6=>?_) (fun h6=>?_);·
  obtain ⟨E,cu⟩:Cy z.a.q z.a.base z.a.ranges z.a.recs=some y.a/\y.ok (s9++M):=by rcases I with⟨_,g⟩|⟨g,_⟩;exact g;rw [h6]at g;cases g
  refine DK Y Wh (A7 (cs:=#[_,_,_,_,_,_,_,_,_,_,_,_,_,_,_]) HQ F0 Y Wb (AP rfl)) rfl rfl<|DK Y Wh (A7 (cs:=#[_,_,_,_,_,_,_,_,_,_,_,_,_,_,_]) HQ F0 Y Wb (AP rfl)) rfl rfl<|Xr [_,_] Y call21 Y rfl (VN hz cu)<|HR Y Y<|AM Y<|AO rfl SZ Y (by exact ⟨by exact F4 ⟨fun g=>⟨O,U,X,h5,y.a,E,g⟩,fun g=>by obtain ⟨b,m,af⟩:=g.2.2.2.2;rw [E]at m;injection m with m;rw [m];exact af⟩,rfl⟩)
 have E:Cy z.a.q z.a.base z.a.ranges z.a.recs=none:=by rcases I with⟨g,_⟩|⟨_,g⟩;rw [h6]at g;cases g;exact g
 refine Sk 4 rfl<|AM Y<|AO rfl SZ Y (by exact ⟨by exact congrArg Value.bool (CC (fun g:Eg base until_ z.a=>by obtain ⟨b,m,_⟩:=g.2.2.2.2;rw [E]at m;cases m)).symm,rfl⟩)
theorem iB(x y:CB):decide (x=y)=(decide (x.rows=y.rows)&&decide (x.val=y.val)&&decide (x.fnd=y.fnd)):=by
 obtain ⟨a,b,c⟩:=x;obtain ⟨z,E,c'⟩:=y;rw [gE];simp only [LL,CB.mk.injEq,HB];exact ⟨fun⟨g,h2,m⟩=>⟨⟨g,h2⟩,m⟩,fun⟨⟨g,h2⟩,m⟩=>⟨g,h2,m⟩⟩
variable{i:Nat}
theorem O3(h:Et M (.slice p L.length cap) L)(hx:L[i]?=some x):∃z:RPZ,z.x=x/\z.ok M/\∃g off cur T zz,p=some ⟨g,off,none⟩/\(g,Obj.cells cur T zz)∈M/\off+i*9+9<=cur.size/\cur.extract (off+i*9) (off+i*9+9)=#[I4 z.x.tb,I4 z.x.cl,I4 z.x.lo,I4 z.x.hi,I4 z.x.ct,I4 z.x.fi,.slice z.qr z.x.rows.length z.cr,.slice z.qp z.x.paths.length z.cp,.slice z.qt z.x.roots.length z.ct]:=by
 obtain ⟨Z,J,m⟩:=h;obtain ⟨O,E,G,_,K⟩:=J;injection G with e1 e2 e3
 subst e1;rw [<-m,HL]at hx;cases hz:Z[i]?with
 |none=>rw [hz]at hx;cases hx
 |some z=>
  rw [hz]at hx;injection hx with hx
  obtain ⟨I,h2⟩:=K i z hz;exact ⟨z,hx,I,h2⟩
theorem iC(h:DD M (.slice p n cap) l){r:Bz}(E:l[i]?=some r):DJ M (.slice r.q r.cs.length r.cap) r.cs/\∃g off cur T zz,p=some ⟨g,off,none⟩/\(g,Obj.cells cur T zz)∈M/\off+i*2+2<=cur.size/\cur.extract (off+i*2) (off+i*2+2)=#[I4 r.p,.slice r.q r.cs.length r.cap]:=by
 obtain ⟨G,m,e,_,z⟩:=h;injection e with e1 _ _
 subst e1;exact z i r E
theorem RY{a:List Bz}{x:Bz}(h:a[i]?=some x):(a.map Bz.key)[i]?=some (x.p,x.cs):=by rw [HL,h];rfl
theorem oP{va vb:A3}{a b:List AV}(ha:CZ M va a)(hb:CZ M vb b):BB prog 58 #[va,vb] [M] (.bool (decide (a=b))):=by
 have gy:=mL;obtain ⟨pa,ca,rfl,gm,U⟩:=ha;obtain ⟨pb,cb,rfl,gq,W⟩:=hb;refine Se func58 ntmps58 [0,1] ?_;intro u R;refine A2<|AF Y<|C0 Y<|Zv (AJ B0 Y)<|Zm Y<|Zv (AJ B0 Y)<|Zv (Cb Y Y)<|A6<|Ad Y (fun J=>?_) (fun J=>?_);·
  refine A2<|AM Y<|Zt<|AO rfl results58 Y (by exact ⟨Co (fun e=>J (by rw [e])),rfl⟩)
 have X:a.length=b.length:=by omega
 refine B3<|Zq<|A2<|AF Y<|AQ<|Zb [5,0,1] ?_;refine Av (e0:=[(5,_)]) (fun m e H=>∃(i:Nat),m=a.length -i/\(i<=a.length/\∀j,j<i->a[j]?=b[j]?)/\e=[(5,I4 (i:Int))]/\H=[]) (by exact ⟨0,V,⟨CD _,by intro j hj;omega⟩,V,V⟩) Wp ?_;rintro _ _ _ ⟨i,rfl,⟨hi,g⟩,rfl,rfl⟩;refine Zq<|A2<|Sk 2 V<|Zv (AJ B0 Y)<|Zv (Ak Y Y)<|A6<|Ad Y (fun Z=>?_) (fun Z=>?_);·
  obtain ⟨x,hx⟩:∃x,a[i]?=some x:=⟨_,Bk A0⟩;obtain ⟨y,hy⟩:∃y,b[i]?=some y:=⟨_,Bk A0⟩;obtain ⟨g1,d9,z,T1,bf,rfl,af,cu,G⟩:=U i x hx;obtain ⟨g2,ek,E,T2,bn,rfl,ax,cO,I⟩:=W i y hy;refine B3<|Zq<|AQ<|Zq<|Au (n:=9) (0::0::3::7::0::0::48::112::255::[]) 0 AG AG V<|A1 0 V (AA Y)<|A1 1 V (AA Y)<|A1 2 V (A9 B0 AW Y Y A0)<|CX (b:=g1) (x:= .cells z T1 bf) (D':=15) 3 V rfl V (by simp [af]) (A7 (cs:=x.Ax3) C5 AW Y A0 G) ?_;refine A1 4 V (AA Y)<|A1 5 V (AA Y)<|A1 6 V (A9 B0 AW Y Y A0)<|CX (b:=g2) (x:= .cells E T2 bn) (D':=255) 7 V rfl V (by simp [ax]) (A7 (cs:=y.Ax3) C5 AW Y A0 I) ?_;refine A1 8 V (QL AG F1 AG AH AH AH Ge HS A5 A4 Hv Dg Y Y)<|Am<|Zn [0,1,5,25] ?_;refine Zx<|Ad Y (fun K=>?_) (fun K=>?_);·
   refine A2<|AM Y<|AX<|Zt<|Zt<|AX<|Zt<|AO rfl results58 Y (by exact ⟨Co (fun e=>by rw [e,hy]at hx;injection hx with hx;exact K (Q5.2 hx.symm)),rfl⟩)
  have O:x=y:=Q5.1 (Fi.1 K);refine AB<|A8<|Zx<|Zg<|Zm Y<|Ya (n:=1) Y Y<|AN Y<|HN (by exact ⟨i+1,rfl,⟨by omega,fun j hj=>by rcases FA j i with h9|h9;exact g j h9;obtain rfl:j=i:=A0;rw [hx,hy];exact congrArg some O⟩,rfl,rfl⟩)
 refine Az<|Zt<|Zt<|AU<|BT<|AM Y<|AO V results58 Y (by exact ⟨IV (Iu X (fun j hj=>g j A0)),V⟩)
theorem YM{z E:A3}{x y:CB}(g:CZ M z x.rows)(m:CZ M E y.rows):BB prog 18 #[.agg #[z,I4 x.val,.bool x.fnd],.agg #[E,I4 y.val,.bool y.fnd]] [M] (.bool (decide (x=y))):=by
 obtain ⟨K,G,rfl,_⟩:=id g;obtain ⟨O,I,rfl,_⟩:=id m;refine Se func18 ntmps18 [0,1] ?_;intro u R;refine A2<|Ze (Bx #[.slice K x.rows.length G,I4 x.val,.bool x.fnd])<|AE fun U=>Ze (Bx #[.slice O y.rows.length I,I4 y.val,.bool y.fnd])<|AE fun W=>AF Y<|A2<|Zh 0 Cd V rfl Cl Y<|Zl DQ Y ?_;refine Zh 0 Cd V rfl Cl Y<|Zl DQ Y ?_;refine Xr [_,_] Y call58 Y V (oP g m) ?_;refine Zm Y<|AZ (t:=10) Y V (fun J=>?_) (fun J=>?_);focus
  refine Yf 1 Cd V rfl A4 Y<|Yl A5 Y ?_;refine Yf 1 Cd V rfl A4 Y<|Yl A5 Y ?_;refine Yg (Bd Y Y)<|Sk 2 V ?_;refine AZ (t:=17) Y V (fun h2=>?_) (fun h2=>?_);refine Yf 2 Cd V rfl DP Y<|Yl Fc Y ?_;refine Yf 2 Cd V rfl DP Y<|Yl Fc Y ?_;refine Yg (Ih MY Y Y)<|HR Y Y<|AN Y<|Zn [4] ?_;refine Zx<|AC<|AO rfl results18 Y (by exact ⟨by rw [iB];simp [*],rfl⟩)
 rotate_left
 focus
  refine Sk 7 V ?_
 all_goals
  refine Sk 6 V<|AN Y<|Zn [4] ?_;refine Zx<|AC<|AO rfl results18 Y (by exact ⟨by rw [iB];simp [*],rfl⟩)
set_option maxHeartbeats 1000000 in
theorem NI{x:FI}(hx:x.ok M)(hy:y.ok M)(hl:x.a.ranges.length<=1000000):BB prog 13 #[.agg #[I4 x.a.q.kd,I4 x.a.q.tb,I4 x.a.q.cl,I4 x.a.q.lo,I4 x.a.q.hi,I4 x.a.q.bq,I4 x.a.q.ot,.slice x.rp x.a.res.rows.length x.rc,I4 x.a.res.val,.bool x.a.res.fnd,I4 x.a.since,I4 x.a.until_,I4 x.a.base,.slice x.gp x.a.ranges.length x.gc,.slice x.cp x.a.recs.length x.cc],.agg #[I4 y.a.q.kd,I4 y.a.q.tb,I4 y.a.q.cl,I4 y.a.q.lo,I4 y.a.q.hi,I4 y.a.q.bq,I4 y.a.q.ot,.slice y.rp y.a.res.rows.length y.rc,I4 y.a.res.val,.bool y.a.res.fnd,I4 y.a.since,I4 y.a.until_,I4 y.a.base,.slice y.gp y.a.ranges.length y.gc,.slice y.cp y.a.recs.length y.cc]] [M] (.bool (decide (x.a.eqv y.a))):=by
 have o8:=mL;obtain ⟨_,_,_,⟨mR,_⟩,_⟩:=id hx.2.2;refine Se func13 ntmps13 [0,1] ?_;intro u R;refine A2<|Ze (Bx #[I4 x.a.q.kd,I4 x.a.q.tb,I4 x.a.q.cl,I4 x.a.q.lo,I4 x.a.q.hi,I4 x.a.q.bq,I4 x.a.q.ot,.slice x.rp x.a.res.rows.length x.rc,I4 x.a.res.val,.bool x.a.res.fnd,I4 x.a.since,I4 x.a.until_,I4 x.a.base,.slice x.gp x.a.ranges.length x.gc,.slice x.cp x.a.recs.length x.cc])<|AE fun b1=>Ze (Bx #[I4 y.a.q.kd,I4 y.a.q.tb,I4 y.a.q.cl,I4 y.a.q.lo,I4 y.a.q.hi,I4 y.a.q.bq,I4 y.a.q.ot,.slice y.rp y.a.res.rows.length y.rc,I4 y.a.res.val,.bool y.a.res.fnd,I4 y.a.since,I4 y.a.until_,I4 y.a.base,.slice y.gp y.a.ranges.length y.gc,.slice y.cp y.a.recs.length y.cc])<|AE fun b2=>CT Y<|A2<|Zh 0 C3 V rfl CN Y<|Zo Wh (A7 (cs:=#[_,_,_,_,_,_,_]) DE CN Y BW (by exact (by apply L5.1;rfl))) ?_;refine Zh 0 C3 V rfl CN Y<|Zo Wh (A7 (cs:=#[_,_,_,_,_,_,_]) DE CN Y BW (by exact (by apply L5.1;rfl))) ?_;refine Zv (dY AG Y Y (eqQ x.a.q y.a.q))<|Zm Y<|Ae (t:=14) Y V (fun k1=>?_) (fun k1=>?_);focus
  have g:¬x.a.eqv y.a:=fun h=>by simp [h.1]at k1
  refine Sk 21 V ?_
 rotate_left
 focus
  have e1:x.a.q=y.a.q:=by simpa using k1
  refine Yf 10 C3 V rfl A4 Y<|Yl A5 Y ?_;refine Yf 10 C3 V rfl A4 Y<|Yl A5 Y ?_;refine Yg (ED Y Y)<|Sk 2 V ?_;refine AZ (t:=21) Y V (fun k2=>?_) (fun k2=>?_);focus
   have g:¬x.a.eqv y.a:=fun h=>k2 h.2.1;refine Sk 14 V ?_
  rotate_left
  focus
   refine Yf 11 C3 V rfl A4 Y<|Yl A5 Y ?_;refine Yf 11 C3 V rfl A4 Y<|Yl A5 Y ?_;refine Yg (ED Y Y)<|Sk 2 V ?_;refine AZ (t:=28) Y V (fun k3=>?_) (fun k3=>?_);focus
    have g:¬x.a.eqv y.a:=fun h=>k3 h.2.2.1;refine Sk 7 V ?_
   rotate_left
   focus
    refine Yf 12 C3 V rfl A4 Y<|Yl A5 Y ?_;refine Yf 12 C3 V rfl A4 Y<|Yl A5 Y ?_;refine Yg (ED Y Y)<|Sk 2 V ?_;refine AZ (t:=35) Y V (fun k4=>?_) (fun k4=>?_);focus
     have g:¬x.a.eqv y.a:=fun h=>k4 h.2.2.2.1
    rotate_left
    focus
     refine Yf 13 C3 V rfl E0 Y<|Yl FG Y ?_;refine Yg (AJ Ds Y)<|Yf 13 C3 V rfl E0 Y<|Yl FG Y ?_;refine Yg (AJ Ds Y)<|Yg (Cb Y Y)<|Sk 2 V ?_;refine AZ (t:=44) Y V (fun k5=>?_) (fun k5=>?_);focus
      have g:¬x.a.eqv y.a:=fun h=>k5 (by rw [h.2.2.2.2.2.1]);refine Sk 8 V<|Z0<|Zn [2,3,52] ?_;refine Zx<|BV Y ?_
     rotate_left
     focus
      have h9:x.a.ranges.length=y.a.ranges.length:=by omega
      refine Yf 14 C3 V rfl Kd Y<|Yl LS Y ?_;refine Yg (AJ G4 Y)<|Yf 14 C3 V rfl Kd Y<|Yl LS Y ?_;refine Yg (AJ G4 Y)<|Yg (Cb Y Y)<|H3 Y Y<|Z0<|Zn [2,3,52] ?_;refine Zx<|Ad Y (fun k6=>?_) (fun k6=>?_);focus
       have g:¬x.a.eqv y.a:=fun h=>k6 (by have h8:=congrArg List.length h.2.2.2.2.2.2;rw [C2,C2]at h8;rw [h8])
      rotate_left
      focus
       have h8:x.a.recs.length=y.a.recs.length:=by omega
       refine B3<|Zq<|A2<|AF Y<|AQ<|Zb [5,2,3] ?_;refine Av (e0:=[(5,_)]) (fun m e H=>∃(i:Nat),m=x.a.ranges.length -i/\(i<=x.a.ranges.length/\x.a.ranges.take i=y.a.ranges.take i)/\e=[(5,I4 (i:Int))]/\H=[]) (by exact ⟨0,V,⟨CD _,V⟩,V,V⟩) Wp ?_;rintro _ _ _ ⟨i,rfl,⟨hi,hT⟩,rfl,rfl⟩;refine C0 Y<|Zh 13 C3 V rfl E0 Y<|Zl FG Y ?_;refine Zv (AJ Ds Y)<|Zv (Ak Y Y)<|A6<|Ad Y (fun E=>?_) (fun E=>?_);focus
        obtain ⟨c,hc⟩:∃c,x.a.ranges[i]?=some c:=⟨_,Bk A0⟩;obtain ⟨d,hd⟩:∃c,y.a.ranges[i]?=some c:=⟨_,Bk A0⟩;obtain ⟨z1,kz,gm,g1,bf,af,T1,l9,J,G,gy,W⟩:=O3 hx.2.1 hc;obtain ⟨z2,l8,gq,g2,bn,ax,T2,lv,K,I,kv,X⟩:=O3 hy.2.1 hd;rw [J,K];refine B3<|Zq<|AQ<|Zq<|Au (n:=12) (0::1::0::7::15::0::32::0::224::480::1023::2047::[]) 1024 AG AG V<|A1 0 V (AL (off:=13) C3 V rfl E0 Y)<|B6 1 V FG Y ?_;refine A1 2 V (AA Y)<|A1 3 V (A9 Ds DM Y Y A0)<|CX (D':=31) 4 V rfl V (GK Wo (G)) (A7 (cs:=#[_,_,_,_,_,_,_,_,_]) It DM Y A0 (by exact W)) ?_;refine A1 5 V (AL (off:=13) C3 V rfl E0 Y)<|B6 6 V FG Y ?_;refine A1 7 V (AA Y)<|A1 8 V (A9 Ds DM Y Y A0)<|CX (D':=1023) 9 V rfl V (GK Wo (I)) (A7 (cs:=#[_,_,_,_,_,_,_,_,_]) It DM Y A0 (by exact X)) ?_;refine Yw 10 2047 V (Zu [_,_] Y call10 Y V (YT gm.rp gq.rp)) ?_;rintro _ _ ⟨rfl,rfl⟩;rw [kz,l8];refine A1 11 V (Aq Y)<|Am<|Zn [2,3,5,6] ?_;refine Zx<|B7 Y<|Zv (Bp Y)<|A6<|Af Y (fun k7=>?_) (fun k7=>?_);focus
         have g:¬x.a.eqv y.a:=fun h=>WV hc hd (by simpa using k7) h.2.2.2.2.2.1
        rotate_left
        have z:c=d:=by simpa using k7
        refine AB<|A8<|Zx<|Zg<|Zm Y<|Ya (n:=1) Y Y<|AN Y<|HN (by exact ⟨i+1,V,⟨by omega,Px hT hc hd z⟩,V,V⟩)
       rotate_left
       focus
        have cu:x.a.ranges=y.a.ranges:=MI hT A0 A0;refine Az<|Zt<|Zt<|AU<|Zx<|Zq<|A2<|AF Y<|AQ<|Zb [7,2,3] ?_;refine Av (e0:=[(7,_)]) (fun m e H=>∃(i:Nat),m=x.a.recs.length -i/\(i<=x.a.recs.length/\(x.a.recs.map Bz.key).take i=(y.a.recs.map Bz.key).take i)/\e=[(7,I4 (i:Int))]/\H=[]) (by exact ⟨0,V,⟨CD _,V⟩,V,V⟩) Wp ?_;rintro _ _ _ ⟨i,rfl,⟨hi,hT⟩,rfl,rfl⟩;refine C0 Y<|Zh 14 C3 V rfl Kd Y<|Zl LS Y ?_;refine Zv (AJ G4 Y)<|Zv (Ak Y Y)<|A6<|Ad Y (fun E=>?_) (fun E=>?_);focus
         obtain ⟨Z,O⟩:∃r,x.a.recs[i]?=some r:=⟨_,Bk A0⟩;obtain ⟨r2,U⟩:∃r,y.a.recs[i]?=some r:=⟨_,Bk A0⟩;obtain ⟨d9,g1,bf,af,T1,l9,J,G,gy,W⟩:=iC hx.2.2 O;obtain ⟨ek,g2,bn,ax,T2,lv,K,I,kv,X⟩:=iC hy.2.2 U;rw [J,K];refine B3<|Zq<|AQ<|Zq<|Au (n:=12) (0::1::0::7::15::0::32::0::224::480::1023::2047::[]) 1024 AG AG V<|A1 0 V (AL (off:=14) C3 V rfl Kd Y)<|B6 1 V LS Y ?_;refine A1 2 V (AA Y)<|A1 3 V (A9 G4 Fk Y Y A0)<|CX (D':=31) 4 V rfl V (GK Wo (G)) (A7 (cs:=#[_,_]) J1 Fk Y A0 (by exact W)) ?_;refine A1 5 V (AL (off:=14) C3 V rfl Kd Y)<|B6 6 V LS Y ?_;refine A1 7 V (AA Y)<|A1 8 V (A9 G4 Fk Y Y A0)<|CX (D':=1023) 9 V rfl V (GK Wo (I)) (A7 (cs:=#[_,_]) J1 Fk Y A0 (by exact X)) ?_;refine Yw 10 2047 V (Zu [_,_] Y call47 Y V (uh d9 ek))<|DA<|A1 11 V (Aq Y)<|Am<|Zn [2,3,7,8] ?_;refine Zx<|B7 Y<|Zv (Bp Y)<|A6<|Af Y (fun k8=>?_) (fun k8=>?_);focus
          have k9:¬(Z.p=r2.p/\Z.cs=r2.cs):=by
           simp at k8;rintro ⟨h1,h2⟩;rcases k8 with h|h
           · exact h h1
           · exact h h2
          have g:¬x.a.eqv y.a:=fun h=>WV (RY O) (RY U) (fun e=>k9 (Prod.mk.inj e)) h.2.2.2.2.2.2
         rotate_left
         have k9:Z.p=r2.p/\Z.cs=r2.cs:=by simpa using k8
         have z:(Z.p,Z.cs)=(r2.p,r2.cs):=by rw [k9.1,k9.2]
         refine AB<|A8<|Zx<|Zg<|Zm Y<|Ya (n:=1) Y Y<|AN Y<|HN (by exact ⟨i+1,V,⟨by omega,Px hT (RY O) (RY U) z⟩,V,V⟩)
        rotate_left
        have cO:x.a.recs.map Bz.key=y.a.recs.map Bz.key:=MI hT (by rw [C2];omega) (by rw [C2];omega);refine Az<|Zt<|Zt<|AU<|BT<|Zh 7 C3 V rfl BE Y<|Zo Wh (A7 (cs:=#[_,_,_]) D0 BE Y BW (by exact (by apply L5.1;rfl))) ?_;refine Zh 7 C3 V rfl BE Y<|Zo Wh (A7 (cs:=#[_,_,_]) D0 BE Y BW (by exact (by apply L5.1;rfl))) ?_;refine Xr [_,_] Y call18 Y V (YM hx.1 hy.1) ?_;refine AM Y<|AO V results13 Y (by exact ⟨congrArg Value.bool (decide_eq_decide.2 ⟨fun h=>⟨e1,Fi.1 k2,Fi.1 k3,Fi.1 k4,h,cu,cO⟩,fun h=>h.2.2.2.2.1⟩),V⟩)
       all_goals
        refine A2<|AM Y<|AX<|Zt<|Zt<|AX<|Zt<|AO rfl results13 Y (by exact ⟨by rw [CC g],rfl⟩)
     all_goals
      refine A2<|AM Y<|Zt<|AO rfl results13 Y (by exact ⟨by rw [CC g],rfl⟩)
 all_goals
  refine Sk 17 V<|Z0<|Zn [2,3,52] ?_;refine Zx<|BV Y<|A2<|AM Y<|Zt<|AO rfl results13 Y (by exact ⟨by rw [CC g],rfl⟩)
end Go.Proofs.YtljkoipiekbijaaGreatDoor
