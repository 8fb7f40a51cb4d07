/- prepared. -/
import Derived.Test.YthhakdmlpngcmaaGreatDoorCa5
set_option linter.unusedVariables false
set_option linter.unusedSimpArgs false
namespace Go.Proofs.YthhakdmlpngcmaaGreatDoor
open Go.Proofs.Tryz
open Go Go.RowKit Gw
set_option maxRecDepth 100000
attribute [local irreducible] Gw.At Gw.Nx Gw.Ops
variable{c:CZ}{q:QM}{pg:B8}{cg:Nat}{L:List RP}{ME:List A9}{r0:CB}
theorem xN(h:c.ok)(hq:BK q)(te base:Int)(hb:0<=base/\base<=10000)(hL:GI ME (.slice pg L.length cg) L)(ax:L.length<=1000000)(af:∀x∈L,x.fits)(K:Eo q L=some r0)(O:¬(c.pos -base).toNat<=c.win.length)(G:AM)(Z:Nat×Nat):BR prog 38 #[.pointer (some ⟨c.cp,0,none⟩),.agg #[I4 q.kd,I4 q.tb,I4 q.cl,I4 q.lo,I4 q.hi,I4 q.bq,I4 q.ot,I4 te,I4 base,.slice pg L.length cg]] [[(c.cp,.cells c.A75 95 (0,0))],c.sW,c.M,ME,[(1,.cells (Lib.pow10Tab.map fun z=>Value.int .u64 z).toArray G Z)]] (fun w H'=>w= .tuple #[.string ⟨#[]⟩,.pointer none,.bool false]/\H'=[[(c.cp,.cells c.A75 95 (0,0))],c.sW,c.M,ME,[(1,.cells (Lib.pow10Tab.map fun z=>Value.int .u64 z).toArray G Z)]]):=by
 have bn:=mL;have J:=h.pos
 have cu:=h.wl;have U:=Ez h.win
 refine Se func38 ntmps38 [0,1] ?_;intro u R;refine A1<|Ze (Bx #[I4 q.kd,I4 q.tb,I4 q.cl,I4 q.lo,I4 q.hi,I4 q.bq,I4 q.ot,I4 te,I4 base,.slice pg L.length cg])<|AG fun be=>Za Y<|Za Y<|A5 Y<|A1<|Zh 0 GB V rfl CM Y<|Zo Wh (AB (cs:=q.A72) F1 CM Y B5 (by exact (by apply I2.1;rfl)))<|Xr [_] Y call10 Y V (Kq q hq G Z)<|Zm Y<|Zd Y V<|Zd Y V<|Za Y<|A5 Y<|Zq<|A1<|Zm Y<|Zv (FY (n:=0) Y Y)<|Zm Y<|Ao (t:=22) Y V (fun g1=>?_) (fun g1=>?_);·
  exact absurd V g1
 refine Yf 8 GB V rfl AE Y<|Yl AH Y<|Xr [_] Y call26 Y V (JK base) ?_;rw [DG hb];refine Yg (Bt Y)<|Zv (AL Y Y)<|Z0<|Zn [0,3,7,27] ?_;refine Zx<|AU Y (fun m=>by cases m)<|fun m=>AC<|Zx<|A1<|Zm Y<|Zh 8 GB V rfl AE Y<|Zl AH Y<|Xr [_,_] Y call55 Y V (O3 J base hb ⟨U,by omega⟩) ?_;rw [As O];refine Zm Y<|Zd Y V<|Zd Y V<|Za Y<|A5 Y<|A1<|Zh 0 GB V rfl CM Y<|Zo Wh (AB (cs:=#[_,_,_,_,_,_,_]) F1 CM Y B5 (by exact (by apply I2.1;rfl)))<|Zh 9 GB V rfl My Y<|Zl SP Y<|Zc [_,_] Y call79 Y V (Wl hL q K) ?_;rintro _ _ ⟨_,⟨cO,sr,rfl,g,rfl⟩,rfl⟩;obtain ⟨X,I,rfl⟩:=g.form;refine Zm Y<|Zd Y V<|Zd Y V<|Ze (Al Ge #[_,_,_])<|AG fun bs=>Xe (Xw B9 #[.slice X r0.rows.length I,I4 r0.val,.bool r0.fnd])<|AW Y<|Zn [3,7,9,10,11,12] ?_;refine Zx<|Zq<|A1<|Zm Y<|Zv (Bt Y)<|Zm Y<|Ah (t:=45) Y V (fun g2=>by cases g2)<|fun g2=>Zf Y Y<|Yg (Bt Y)<|Zv (AL Y Y)<|A6<|AU Y (fun B=>?_) (fun B=>?_);·
  refine A1<|Za Y<|Za Y<|A5 Y<|AJ<|Zt<|jN V results38 Y Y Y (by exact ⟨V,V⟩)
 cases B
set_option maxHeartbeats 1000000 in
theorem X8(h:c.ok)(hq:BK q)(te base:Int)(hb:0<=base/\base<=10000)(hL:GI ME (.slice pg L.length cg) L)(cO:L.length<=1000000)(U:∀x∈L,x.fits)(Z:Eo q L=some r0)(af:(c.pos -base).toNat<=c.win.length)(Tp:AM)(zp:Nat×Nat):BR prog 38 #[.pointer (some ⟨c.cp,0,none⟩),.agg #[I4 q.kd,I4 q.tb,I4 q.cl,I4 q.lo,I4 q.hi,I4 q.bq,I4 q.ot,I4 te,I4 base,.slice pg L.length cg]] [[(c.cp,.cells c.A75 95 (0,0))],c.sW,c.M,ME,[(1,.cells (Lib.pow10Tab.map fun z=>Value.int .u64 z).toArray Tp zp)]] (fun w H'=>∃b rq rc wq wc s1 s2,w= .tuple #[.string (str (Bi q)),I5 b,.bool (BB q r0 base (Cy c.pos base c.win)).2.2]/\GI s1 (.slice rq L.length rc) L/\EB s2 (.slice wq (BB q r0 base (Cy c.pos base c.win)).1.rows.length wc) (BB q r0 base (Cy c.pos base c.win)).1.rows/\H'=[[(c.cp,.cells c.A75 95 (0,0))],c.sW,c.M,ME,[(1,.cells (Lib.pow10Tab.map fun z=>Value.int .u64 z).toArray Tp zp)],[(b,.cells #[I4 q.kd,I4 q.tb,I4 q.cl,I4 q.lo,I4 q.hi,I4 q.bq,I4 q.ot,I4 te,I4 base,.slice rq L.length rc,I4 0,.slice wq (BB q r0 base (Cy c.pos base c.win)).1.rows.length wc,I4 (BB q r0 base (Cy c.pos base c.win)).1.val,.bool (BB q r0 base (Cy c.pos base c.win)).1.fnd,I4 (BB q r0 base (Cy c.pos base c.win)).2.1] 121 (0,0))],s1,s2]):=by
 have ic:=mL;have ek:=h.pos
 have j5:=h.wl;have gq:=Ez h.win
 obtain ⟨wl,m⟩:∃wl,wl=Cy c.pos base c.win:=⟨_,rfl⟩;have G:wl.length=(c.pos -base).toNat:=by rw [m];exact O9 af
 have ax:Ec (c.sW++c.M) (.slice (Ea c.wq (c.win.length -(c.pos -base).toNat) c.wc 2) (c.pos -base).toNat (c.wc -(c.win.length -(c.pos -base).toNat))) wl:=by
  have h1:=Na (a:=c.win.length -(c.pos -base).toNat) (iV h.tookb) A0;rw [m];rwa [show c.win.length -(c.win.length -(c.pos -base).toNat)=(c.pos -base).toNat by omega]at h1
 obtain ⟨cv,O⟩:∃cv,cv=c.wc -(c.win.length -(c.pos -base).toNat):=⟨_,rfl⟩;obtain ⟨pv,X⟩:∃pv,pv=Ea c.wq (c.win.length -(c.pos -base).toNat) c.wc 2:=⟨_,rfl⟩;rw [<-O,<-X,<-G]at ax;rw [<-m];have K:∀y∈wl,y.cs.length<=1000:=fun y hy=>by
  have:=Rb h.tookb (r:=y) (by rw [m]at hy;exact KB hy);omega
 obtain ⟨_,j3,gm⟩:=OL Z;refine Se func38 ntmps38 [0,1] ?_;intro u R;refine A1<|Ze (Bx #[I4 q.kd,I4 q.tb,I4 q.cl,I4 q.lo,I4 q.hi,I4 q.bq,I4 q.ot,I4 te,I4 base,.slice pg L.length cg])<|AG fun be=>Za Y<|Za Y<|A5 Y<|A1<|Zh 0 GB V rfl CM Y<|Zo Wh (AB (cs:=q.A72) F1 CM Y B5 (by exact (by apply I2.1;rfl)))<|Xr [_] Y call10 Y V (Kq q hq Tp zp)<|Zm Y<|Zd Y V<|Zd Y V<|Za Y<|A5 Y<|Zq<|A1<|Zm Y<|Zv (FY (n:=0) Y Y)<|Zm Y<|Ao (t:=22) Y V (fun g1=>?_) (fun g1=>?_);·
  exact absurd V g1
 refine Yf 8 GB V rfl AE Y<|Yl AH Y<|Xr [_] Y call26 Y V (JK base) ?_;rw [DG hb];refine Yg (Bt Y)<|Zv (AL Y Y)<|Z0<|Zn [0,3,7,27] ?_;refine Zx<|AU Y (fun I=>by cases I)<|fun I=>AC<|Zx<|A1<|Zm Y<|Zh 8 GB V rfl AE Y<|Zl AH Y<|Xr [_,_] Y call55 Y V (O3 ek base hb ⟨gq,by omega⟩) ?_;rw [Ax af,<-O,<-X,<-G];refine Zm Y<|Zd Y V<|Zd Y V<|Za Y<|A5 Y<|A1<|Zh 0 GB V rfl CM Y<|Zo Wh (AB (cs:=#[_,_,_,_,_,_,_]) F1 CM Y B5 (by exact (by apply I2.1;rfl)))<|Zh 9 GB V rfl My Y<|Zl SP Y<|Zc [_,_] Y call79 Y V (Wl hL q Z) ?_;rintro _ _ ⟨_,⟨kv,sr,rfl,B,rfl⟩,rfl⟩;obtain ⟨gy,bn,rfl⟩:=B.form;refine Zm Y<|Zd Y V<|Zd Y V<|Ze (Al Ge #[_,_,_])<|AG fun bs=>Xe (Xw B9 #[.slice gy r0.rows.length bn,I4 r0.val,.bool r0.fnd])<|AW Y<|Zn [3,7,9,10,11,12] ?_;refine Zx<|Zq<|A1<|Zm Y<|Zv (Bt Y)<|Zm Y<|Ah (t:=45) Y V (fun g2=>by cases g2)<|fun g2=>Zf Y Y<|Yg (Bt Y)<|Zv (AL Y Y)<|A6<|AU Y (fun J=>by cases J)<|fun J=>AC<|Zx<|Zq ?_;have dn:=DY B A0
 refine Cb (s1:=c.sW) (s2:=c.M) Wo Wo ?_;refine Zg<|Zh 0 GB V rfl CM Y<|Zo Wh (AB (cs:=#[_,_,_,_,_,_,_]) F1 CM Y B5 (by exact (by apply I2.1;rfl)))<|Zo Wh (AB (cs:=#[_,_,_]) Cd B9 Y B5 (BN V))<|Zh 8 GB V rfl AE Y<|Zl AH Y<|Zm Y<|Zc [_,_,_,_] Y call80 Y V (QZ q hq base A0 ax A0 K dn A0 gm) ?_;rintro _ _ ⟨_,⟨l5,s3,rfl,g,rfl⟩,rfl⟩;obtain ⟨wq,wc,rfl⟩:=g.form;have cu:=Me g
 refine Zm Y<|Zd Y rfl<|Zd Y rfl<|Zd Y rfl<|Xe (BL B9 Y Y Hb Wu (by exact (rfl:_=(#[.slice wq (BB q r0 base wl).1.rows.length wc,I4 (BB q r0 base wl).1.val,.bool (BB q r0 base wl).1.fnd]:AK))) FA B5 (by exact BC _))<|Za Y<|AW Y<|Zn [3,7,11,12,13] ?_;refine Zx<|Zq<|jl (s1:=c.sW) (s2:=c.M) (by repeat(first|exact Uq.here _|apply Uq.there)) ?_;refine BA (n:=11) (0::0::2::0::0::30::62::0::7::383::1023::[]) 68 AF AF V<|A3 0 V (AO Y)<|FG 1 V Wh (AB (cs:=#[_,_,_,_,_,_,_,_,_,_]) Tl HG Y B5 (BN V))<|FG 3 V Wh (AB (cs:=#[_,_,_]) Cd B9 Y B5 (BN V))<|A3 4 V (AO Y)<|A3 7 V (AO Y)<|Zz (l:=[2])<|B7 [true,false] [(3,(_,_))] V rfl (Zw [_] Y call36 Y V (Qj q te base hL cO U)) ?_ Bv Aj;rintro _ _ ⟨_,⟨rq,rc,s1,rfl,d9,rfl⟩,rfl⟩;refine BW<|A3 5 V (BM (vs:=[(0,.agg #[I4 q.kd,I4 q.tb,I4 q.cl,I4 q.lo,I4 q.hi,I4 q.bq,I4 q.ot,I4 te,I4 base,.slice rq L.length rc]),(2,.agg #[.slice wq (BB q r0 base wl).1.rows.length wc,I4 (BB q r0 base wl).1.val,.bool (BB q r0 base wl).1.fnd]),(3,I4 (BB q r0 base wl).2.1)]) (cs:=#[I4 q.kd,I4 q.tb,I4 q.cl,I4 q.lo,I4 q.hi,I4 q.bq,I4 q.ot,I4 te,I4 base,.slice rq L.length rc,I4 0,.slice wq (BB q r0 base wl).1.rows.length wc,I4 (BB q r0 base wl).1.val,.bool (BB q r0 base wl).1.fnd,I4 (BB q r0 base wl).2.1]) Y (AY (pl:=#[(0,10),(10,1),(11,3),(14,1)]) zeroValue121 Hs (fun _=>by kernel_rfl) AF))<|A3 8 V (Aq Y)<|Zz (l:=[6])<|B7 [false] [] V rfl (Bx #[I4 q.kd,I4 q.tb,I4 q.cl,I4 q.lo,I4 q.hi,I4 q.bq,I4 q.ot,I4 te,I4 base,.slice rq L.length rc,I4 0,.slice wq (BB q r0 base wl).1.rows.length wc,I4 (BB q r0 base wl).1.val,.bool (BB q r0 base wl).1.fnd,I4 (BB q r0 base wl).2.1]) ?_ (fun _ _ h=>h.elim) Aj;rintro _ _ ⟨b,rfl,rfl⟩;refine BW<|A3 9 V (Aq Y)<|A3 10 V (Aq Y)<|Ag<|Zx<|AJ<|jN V results38 Y Y Y (by exact ⟨b,rq,rc,wq,wc,s1,s3,V,d9,DY g cu,V⟩)
variable{base:Int}
theorem SL{r:CB}{l:List BQ}(h:(BB q r base l).2.2=true):GN q base 0 (r,base) l=some ((BB q r base l).1,(BB q r base l).2.1):=Ls h
theorem iU{c:CZ}(h:c.okb){m:List A9}(X:∀q∈c.M,q∈m):∀(i:Nat) (r:BQ),c.win[i]?=some r->r.p=c.pos -(c.win.length:Int)+1+(i:Int)/\Cv m (.slice r.q r.cs.length r.cap) r.cs/\EK r.p r.cs:=fun i r Z=>by
 obtain ⟨J,⟨p,cap,e,U,O⟩,K⟩:=h.wp i r Z;refine ⟨J,⟨p,cap,e,U,fun j x hx=>?_⟩,K⟩;obtain ⟨g,off,cur,T,zz,B,G,I⟩:=O j x hx;exact ⟨g,off,cur,T,zz,B,X _ G,I⟩
variable{its:List ItM}
theorem aS{K:Bk}(h:∀y∈its,y.key≠K):(its.filter fun y=>y.key≠K)=its:=cN.2 fun y g=>by simpa using h y g
theorem ri{PL:List Bf}(m:∀k,k∈PL.map (·.key)↔k∈its.map ItM.key)(e:Bf)(x:ItM)(g:e.key=x.key):∀k,k∈(PL++[e]).map (·.key)↔k∈(its++[x]).map ItM.key:=by
 intro k;rw [C0,C0,C2,C2,m k,Lo,Lo,g]
def Mm(b:Nat)(id:Int)(q:QM)(tn base:Int)(rq:B8)(rc:Nat)(L:List RP)(R:CB×Int×Bool)(wq:B8)(wc:Nat):ItM:=⟨b,id,q,tn,base,rq,rc,L,R.1,wq,wc,R.2.1⟩
variable{wq:B8}{wc:Nat}
theorem fD{b:Nat}{id:Int}(X:BK q){tn:Int}(Z:0<=tn/\tn<=1000000)(U:0<=base/\base<=10000){rq:B8}{rc:Nat}(G:L.length<=1000000)(m:∀x∈L,x.fits)(I:Eo q L=some r0)(J:(c.pos -base).toNat<=c.win.length)(B:(BB q r0 base (Cy c.pos base c.win)).2.2=true){K g:List A9}
 (O:GI K (.slice rq L.length rc) L)(h2:EB g (.slice wq (BB q r0 base (Cy c.pos base c.win)).1.rows.length wc) (BB q r0 base (Cy c.pos base c.win)).1.rows):(Mm b id q tn base rq rc L (BB q r0 base (Cy c.pos base c.win)) wq wc).ok K g c.pos c.win:=
 ⟨X,U,Z,O,G,m,h2,J,r0,I,SL B⟩
theorem gM(p:B8)(n c:Nat)(v f:A4)(hv:v.oneCell'=true/\v.cells=#[v])(B:f.oneCell'=true/\f.cells=#[f])(G:n<=1000000):BJ prog 40 #[.agg #[.slice p n c,v,f]] [] (I4 (1+(n:Int))):=by
 refine Se func40 ntmps40 [0] ?_;intro u R;refine A1<|Ze (Bx #[_,_,_])<|AG fun g=>A5 Y<|A1<|Zh 0 E6 V rfl DA Y<|Zl GP Y<|Zv (Ac C1 Y)<|Ya (m:=1) Y Y<|A5 Y<|AJ<|AP V results40 Y (by exact ⟨V,V⟩)
variable{k:Nat}
theorem xL(h:c.ok)(hq:BK q)(hk:k<c.ns)(Z:k<=1000000)(base:Int)(X:0<=base/\base<=10000)(U:GI ME (.slice pg L.length cg) L)(I:L.length<=1000000)(B:∀x∈L,x.fits)(J:Eo q L=some r0)(K:¬(c.pos -base).toNat<=c.win.length)(G:AM)(O:Nat×Nat):BR prog 13 #[.pointer (some ⟨c.cp,0,none⟩),.agg #[I4 q.kd,I4 q.tb,I4 q.cl,I4 q.lo,I4 q.hi,I4 q.bq,I4 q.ot,I4 (k:Int),I4 base,.slice pg L.length cg]] [[(c.cp,.cells c.A75 95 (0,0))],c.sW,c.M,ME,[(1,.cells (Lib.pow10Tab.map fun z=>Value.int .u64 z).toArray G O)]] (fun w H'=>w= .bool false/\H'=[[(c.cp,.cells c.A75 95 (0,0))],c.sW,c.M,ME,[(1,.cells (Lib.pow10Tab.map fun z=>Value.int .u64 z).toArray G O)]]):=by
 refine Se func13 ntmps13 [0,1] ?_;intro u R;refine A1<|Ze (Bx #[I4 q.kd,I4 q.tb,I4 q.cl,I4 q.lo,I4 q.hi,I4 q.bq,I4 q.ot,I4 (k:Int),I4 base,.slice pg L.length cg])<|AG fun be=>A5 Y<|Zq<|A1<|Zm Y<|Zv (Bh RE Y Y)<|A6<|AU Y (fun m=>by cases m)<|fun m=>AC<|Zx<|A1<|Zm Y<|Zo Wh (AB (cs:=#[I4 q.kd,I4 q.tb,I4 q.cl,I4 q.lo,I4 q.hi,I4 q.bq,I4 q.ot,I4 (k:Int),I4 base,.slice pg L.length cg]) Tl HG Y Wn (BN V))<|Zc [_,_] Y call38 Y V (xN h hq (k:Int) base X U I B J K G O) ?_;rintro _ _ ⟨_,⟨rfl,rfl⟩,rfl⟩;refine Zm Y<|Zd Y V<|Zd Y V<|Zd Y V<|Za Y<|Za Y<|AW Y<|Zn [0,3,5,6,7] ?_;refine Zx<|Zq<|A1<|Zm Y<|Zv (Bt Y)<|A6<|AU Y (fun g=>?_) (fun g=>?_);·
  refine A1<|A5 Y<|AJ<|Zt<|AP V results13 Y (by exact ⟨V,V⟩)
 cases g
theorem rO(h:c.ok)(hq:BK q)(hk:k<c.ns)(ax:k<=1000000)(base:Int)(hb:0<=base/\base<=10000)(X:GI ME (.slice pg L.length cg) L)(J:L.length<=1000000)(B:∀x∈L,x.fits)(K:Eo q L=some r0)(O:(c.pos -base).toNat<=c.win.length)(G:(BB q r0 base (Cy c.pos base c.win)).2.2=false)(I:AM)(U:Nat×Nat):BR prog 13 #[.pointer (some ⟨c.cp,0,none⟩),.agg #[I4 q.kd,I4 q.tb,I4 q.cl,I4 q.lo,I4 q.hi,I4 q.bq,I4 q.ot,I4 (k:Int),I4 base,.slice pg L.length cg]] [[(c.cp,.cells c.A75 95 (0,0))],c.sW,c.M,ME,[(1,.cells (Lib.pow10Tab.map fun z=>Value.int .u64 z).toArray I U)]] (fun w H'=>w= .bool false/\H'=[[(c.cp,.cells c.A75 95 (0,0))],c.sW,c.M,ME,[(1,.cells (Lib.pow10Tab.map fun z=>Value.int .u64 z).toArray I U)]]):=by
 refine Se func13 ntmps13 [0,1] ?_;intro u R;refine A1<|Ze (Bx #[I4 q.kd,I4 q.tb,I4 q.cl,I4 q.lo,I4 q.hi,I4 q.bq,I4 q.ot,I4 (k:Int),I4 base,.slice pg L.length cg])<|AG fun be=>A5 Y<|Zq<|A1<|Zm Y<|Zv (Bh RE Y Y)<|A6<|AU Y (fun m=>by cases m)<|fun m=>AC<|Zx<|A1<|Zm Y<|Zo Wh (AB (cs:=#[I4 q.kd,I4 q.tb,I4 q.cl,I4 q.lo,I4 q.hi,I4 q.bq,I4 q.ot,I4 (k:Int),I4 base,.slice pg L.length cg]) Tl HG Y Wn (BN V))<|Zc [_,_] Y call38 Y V (X8 h hq (k:Int) base hb X J B K O I U) ?_;rintro _ _ ⟨_,⟨b,rq,rc,wq,wc,s1,s2,rfl,Z,af,rfl⟩,rfl⟩;rw [G];refine Zm Y<|Zd Y V<|Zd Y V<|Zd Y V<|Za Y<|Za Y<|AW Y<|Zn [0,3,5,6,7] ?_;refine Zx<|Zq<|A1<|Zm Y<|Zv (Bt Y)<|A6<|AU Y (fun g=>?_) (fun g=>?_);·
  refine A1<|A5 Y<|AJ<|Zt<|AP V results13 Y (by exact ⟨V,V⟩)
 cases g
variable{x:ItM}
theorem rJ(h:c.ok)(hq:BK q)(hk:k<c.ns)(cu:k<=1000000)(base:Int)(hb:0<=base/\base<=10000)(hL:GI ME (.slice pg L.length cg) L)(K:L.length<=1000000)(B:∀x∈L,x.fits)(X:Eo q L=some r0)(Z:(c.pos -base).toNat<=c.win.length)(G:(BB q r0 base (Cy c.pos base c.win)).2.2=true)(hx:x∈c.its)(af:x.key=str (Bi q))(cO:base<=x.base)(J:AM)(zp:Nat×Nat):BR prog 13 #[.pointer (some ⟨c.cp,0,none⟩),.agg #[I4 q.kd,I4 q.tb,I4 q.cl,I4 q.lo,I4 q.hi,I4 q.bq,I4 q.ot,I4 (k:Int),I4 base,.slice pg L.length cg]] [[(c.cp,.cells c.A75 95 (0,0))],c.sW,c.M,[(c.mi,.map c.esI c.ckI)],c.SI,ME,[(1,.cells (Lib.pow10Tab.map fun z=>Value.int .u64 z).toArray J zp)]] (fun w H'=>w= .bool true/\H'=[[(c.cp,.cells c.A75 95 (0,0))],c.sW,c.M,[(c.mi,.map c.esI c.ckI)],c.SI,ME,[(1,.cells (Lib.pow10Tab.map fun z=>Value.int .u64 z).toArray J zp)]]):=by
 have U:=h.its.get hx;rw [af]at U;have O:(x.b,Obj.cells x.A74 121 (0,0))∈c.SI:=h.its.sub x hx
 refine Se func13 ntmps13 [0,1] ?_;intro u R;refine A1<|Ze (Bx #[I4 q.kd,I4 q.tb,I4 q.cl,I4 q.lo,I4 q.hi,I4 q.bq,I4 q.ot,I4 (k:Int),I4 base,.slice pg L.length cg])<|AG fun be=>A5 Y<|Zq<|A1<|Zm Y<|Zv (Bh RE Y Y)<|A6<|AU Y (fun m=>by cases m)<|fun m=>AC<|Zx<|A1<|Zm Y<|Zo Wh (AB (cs:=#[I4 q.kd,I4 q.tb,I4 q.cl,I4 q.lo,I4 q.hi,I4 q.bq,I4 q.ot,I4 (k:Int),I4 base,.slice pg L.length cg]) Tl HG Y Wn (BN V))<|Zc [_,_] Y call38 Y V (X8 h hq (k:Int) base hb hL K B X Z J zp) ?_;rintro _ _ ⟨_,⟨b,rq,rc,wq,wc,s1,s2,rfl,ax,bn,rfl⟩,rfl⟩;rw [G];refine Zm Y<|Zd Y V<|Zd Y V<|Zd Y V<|Za Y<|Za Y<|AW Y<|Zn [0,3,5,6,7] ?_;refine Zx<|Zq<|A1<|Zm Y<|Zv (Bt Y)<|A6<|AU Y (fun g=>by cases g)<|fun g=>AC<|Zx<|A1<|Zm Y<|Zp Y rfl<|Zh 4 Fl rfl rfl RK Y<|Zl ON Y<|Zm Y<|Zo Wh (EU (Dt HA (D:=fun _=>True)) RC W4 h.its.im (fun _ _=>trivial) (trivial) (⟨by rw [U];first|done|rfl,by rw [U];first|done|rfl⟩) Y Y)<|Zm Y<|Zd Y rfl<|Zd Y rfl<|Za Y<|AW Y<|Zn [0,3,5,6,8,9] ?_;refine Zx<|Zq<|AQ<|Zq<|BA (n:=12) (0::1::3::7::15::31::63::3::131::511::1023::2047::[]) 0 AF AF V<|A3 0 V (AO Y)<|A3 1 V (AO Y)<|CU (t:=36) Y (fun I=>?_) (fun I=>?_);·
  rw [I];refine An 2 V (AO Y)<|An 3 V (Ak Y V)<|An 4 V (AA (off:=0) Hs V rfl HG Y)<|An 5 V (AA (off:=8) GB V rfl AE Y)<|Iz (D':=127) 6 Y V rfl V (Dy Wo (O)) (BF AH Y B0) ?_;refine An 7 V (AA (off:=8) GB V rfl AE Y)<|DO 8 V Wh (BF AH Y B0)<|An 9 V (Gj Y Y)<|A3 10 V (AX Y Y)<|A3 11 V (Aq Y)<|Ag<|Zx<|Aw Y (fun h3=>?_) (fun h3=>?_);·
   refine A1<|AW Y<|Zn [4] ?_;refine Zx<|AJ<|Ab<|Zt<|AP V results13 Y (by exact ⟨V,V⟩)
  exfalso;omega
 rw [I];cases I
variable{s:List A9}
theorem PY{b:Nat}{o o':Obj}(h:(b,o)∈s):(b,o')∈IL b o' s:=C6.2 ⟨_,h,Ax rfl⟩
theorem Ux(b:Nat)(o o':Obj)(s:List A9):IL b o' (IL b o s)=IL b o' s:=by
 unfold IL;rw [K0];refine Wc fun p _=>?_;show(if(if p.1=b then(b,o)else p).1=b then(b,o')else(if p.1=b then(b,o)else p))=if p.1=b then(b,o')else p
 by_cases h:p.1=b
 · simp only [Ax h,Hv]
 · simp only [As h]
def ItM.upd(x:ItM)(p:Int)(cs:List Chg)(wq:B8)(wc:Nat):ItM:={x with res:=(BX x.q x.res cs).1,wq:=wq,wc:=wc,since:=p}
structure ItM.live(MR:List A9)(x:ItM):Prop where
 q:BK x.q
 rw:EB MR (.slice x.wq x.res.rows.length x.wc) x.res.rows
 wn:x.res.rows.length<=10000000
 wv:-2000000000000000000<=x.res.val/\x.res.val<=2000000000000000000
theorem ItM.ok.live(h:c.okb)(I:x.ok c.M c.MR c.pos c.win):x.live c.MR:=by
 obtain ⟨r0,m,g⟩:=I.run;obtain ⟨_,B,G⟩:=OL m;have X:=h.wl
 have U:(Cy c.pos x.base c.win).length<=64:=by unfold Cy;rw [CH];omega
 have J:=RJ _ 0 (r0,x.base) _ 1000000000000000000 200 g (fun y Z=>by have:=Rb h (r:=y) (KB Z);omega) G B1 B;have K:x.res.rows.length<=_:=J.2
 have O:_<=x.res.val/\x.res.val<=_:=J.1;exact ⟨I.q,I.rw,by omega,by omega,by omega⟩
variable{d:CZ}{qa:B8}{cap:Nat}{cs:List Chg}{tl:List Bk}{tv:A4}{st:List A9}
set_option maxHeartbeats 1000000 in
theorem ou(h:d.okb)(hx:x∈d.its)(O:x.live d.MR)(p:Int)(hC:Cv ME (.slice qa cs.length cap) cs)(Z:cs.length<=1000)(U:(BX x.q x.res cs).2.2=true)(hT:Row 9 tv (tl.map Value.string) st)(gq:tl.length<=1000000)(bt br bc:Nat):BR prog 47 #[.string x.key,.pointer (some ⟨x.b,0,none⟩),I5 bt,I5 br,I5 bc] [[(bt,.cells #[tv] 52 (0,0))],[(br,.cells #[I4 p,.slice qa cs.length cap] 57 (0,0))],[(bc,.cells #[.pointer (some ⟨d.cp,0,none⟩)] 29 (0,0))],st,[(d.cp,.cells d.A75 95 (0,0))],d.sW,d.z.S,[(d.mb,.map d.esP d.ckP)],d.su,[(d.ip,.cells #[.map (some d.mq),d.lv] 165 (0,0))],[(d.mq,.map d.esQ d.ckQ)],d.ML,[(d.mi,.map d.esI d.ckI)],[(d.mkb,.map d.esK d.ckK)],d.SI,d.M,d.MR,ME] (fun v H'=>v=undef/\∃wq wc cO cu s,Row 9 cO ((tl++[x.key]).map Value.string) cu/\EB s (.slice wq (BX x.q x.res cs).1.rows.length wc) (BX x.q x.res cs).1.rows/\(d.SI.map (·.1)).Nodup/\H'=[[(bt,.cells #[cO] 52 (0,0))],[(br,.cells #[I4 p,.slice qa cs.length cap] 57 (0,0))],[(bc,.cells #[.pointer (some ⟨d.cp,0,none⟩)] 29 (0,0))],cu,[(d.cp,.cells d.A75 95 (0,0))],d.sW,d.z.S,[(d.mb,.map d.esP d.ckP)],d.su,[(d.ip,.cells #[.map (some d.mq),d.lv] 165 (0,0))],[(d.mq,.map d.esQ d.ckQ)],d.ML,[(d.mi,.map d.esI d.ckI)],[(d.mkb,.map d.esK d.ckK)],IL x.b (x.upd p cs wq wc).obj d.SI,d.M,s++d.MR,ME]):=by
 have gm:=mL;have B:(x.b,Obj.cells x.A74 121 (0,0))∈d.SI:=h.its.sub x hx
 obtain ⟨gt,ct,rfl⟩:=hT.form;refine Se func47 ntmps47 [0,1,2,3,4] ?_;intro u R;refine Zq<|H5 (s:=d.SI) Wo (fun af=>?_);refine Zg<|Zl LL Y<|Zm Y<|Ze (Ai (vs:=[_]) (cs:=[_]) DH Fm HS Y V rfl V rfl V)<|AG fun gb=>Ze (Dj (by_:=16) (news:=[_]) DH (V:Tryz.prog.info? 9=some Tryz.t9) V rfl V rfl Y hT Y Wo Wh B0 V Ft B1 (by(simp only [B6];omega)) (by(simp only [B6];omega))) ?_;rintro _ _ ⟨ax,K,rfl⟩;obtain ⟨ek,dn,rfl⟩:=K.form;refine Xe (Zs I3 Y Y V)<|A6<|Zq<|BA (n:=19) (0::1::3::7::15::0::32::96::224::0::1023::2047::4095::4095::4095::0::40959::114687::262143::[]) 99328 AF AF V<|A3 0 V (AO Y)<|A3 1 V (Ak Y V)<|A3 2 V (AA (off:=0) Hs V rfl HG Y)<|A3 3 V (Ap (off:=0) GB V rfl CM Y)<|Cc (D':=31) 4 V rfl V (Dy Wo (B)) (AB (cs:=#[_,_,_,_,_,_,_]) F1 CM Y B5 (by exact (by apply I2.1;rfl))) ?_;refine A3 5 V (AO Y)<|A3 6 V (Ak Y V)<|A3 7 V (AA (off:=11) Hs V rfl B9 Y)<|Cc (D':=511) 8 V rfl V (Dy Wo (B)) (AB (cs:=#[_,_,_]) Cd B9 Y B5 (by exact (by apply I2.1;rfl))) ?_;refine FG 9 V Wh (AB (cs:=#[_,_]) Iv GC Y B5 (BN V))<|Zz (l:=[10,15])<|B7 [false,false,false] [] V rfl (Zw [_,_,_] Y call48 Y V (JP x.q O.q p qa cap cs hC Z O.rw O.wn O.wv)) ?_ Bv ?_;·
  rintro _ _ ⟨_,⟨d9,s3,rfl,g,rfl⟩,rfl⟩;refine ⟨AZ,?_⟩;obtain ⟨G,m,rfl⟩:=g.form;rw [U];refine A3 11 V (AO Y)<|A3 12 V (CE Y V)<|A3 13 V (CE Y V)<|A3 14 V (CE Y V)<|Zz (l:=[15])<|B7 [] [] V rfl (Al Ge #[_,_,_]) ?_ (fun _ _ h=>h.elim) Aj;rintro _ _ ⟨bn,rfl,rfl⟩;refine BW<|Yw 16 131071 V (Xw B9 #[.slice G (BX x.q x.res cs).1.rows.length m,I4 (BX x.q x.res cs).1.val,.bool (BX x.q x.res cs).1.fnd])<|Cp<|A3 17 V (Aq Y)<|A3 18 V (Aq Y)<|Ag<|Zn [0,1,3,4,7,9] ?_;refine Zx<|Zq<|A1<|Zm Y<|Zv (Bt Y)<|A6<|AU Y (fun I=>by cases I)<|fun I=>AC<|Zx ?_;have X:=Me g
  have J:(x.b,Obj.cells #[I4 x.q.kd,I4 x.q.tb,I4 x.q.cl,I4 x.q.lo,I4 x.q.hi,I4 x.q.bq,I4 x.q.ot,I4 x.tn,I4 x.base,.slice x.rq x.L.length x.rc,I4 x.id,.slice G (BX x.q x.res cs).1.rows.length m,I4 (BX x.q x.res cs).1.val,.bool (BX x.q x.res cs).1.fnd,I4 x.since] 121 (0,0))∈IL x.b (.cells #[I4 x.q.kd,I4 x.q.tb,I4 x.q.cl,I4 x.q.lo,I4 x.q.hi,I4 x.q.bq,I4 x.q.ot,I4 x.tn,I4 x.base,.slice x.rq x.L.length x.rc,I4 x.id,.slice G (BX x.q x.res cs).1.rows.length m,I4 (BX x.q x.res cs).1.val,.bool (BX x.q x.res cs).1.fnd,I4 x.since] 121 (0,0)) d.SI:=PY B;refine Cb (s1:=s3) (s2:=d.MR) Wo Wo ?_;refine BA (n:=11) (0::0::0::0::8::5::37::101::255::511::1023::[]) 1152 AF AF rfl<|A3 0 rfl (AO Y)<|A3 1 rfl (AO Y)<|FG 2 rfl Wh (AB (cs:=#[_,_,_]) Cd B9 Y B5 (BN rfl))<|A3 3 rfl (AA (off:=0) HE rfl rfl AE Y)<|BE 4 rfl AH Y<|A3 5 rfl (Ak Y rfl)<|A3 6 rfl (AA (off:=11) Hs rfl rfl B9 Y)<|Zz (l:=[7])<|B7 [true,false] [(4,(_,_))] rfl rfl (OA B9 Y Y Hb Wo (B) (by exact congrArg (fun a=>IL x.b (Obj.cells a 121 (0,0)) d.SI) (rfl:_=(#[I4 x.q.kd,I4 x.q.tb,I4 x.q.cl,I4 x.q.lo,I4 x.q.hi,I4 x.q.bq,I4 x.q.ot,I4 x.tn,I4 x.base,.slice x.rq x.L.length x.rc,I4 x.id,.slice G (BX x.q x.res cs).1.rows.length m,I4 (BX x.q x.res cs).1.val,.bool (BX x.q x.res cs).1.fnd,I4 x.since]:AK))) FA B5 (by exact BC _)) ?_ (fun _ _ h=>h.elim) Aj;rintro _ _ ⟨rfl,rfl⟩;refine BW<|A3 8 V (Ak Y V)<|A3 9 V (AA (off:=14) Hs V rfl AE Y)<|Zz (l:=[10])<|B7 [false] [] V rfl (Fh AE Y Y V Wo (J) (by exact (Ux _ _ _ _).trans (congrArg (fun a=>IL x.b (Obj.cells a 121 (0,0)) d.SI) (V:_=(#[I4 x.q.kd,I4 x.q.tb,I4 x.q.cl,I4 x.q.lo,I4 x.q.hi,I4 x.q.bq,I4 x.q.ot,I4 x.tn,I4 x.base,.slice x.rq x.L.length x.rc,I4 x.id,.slice G (BX x.q x.res cs).1.rows.length m,I4 (BX x.q x.res cs).1.val,.bool (BX x.q x.res cs).1.fnd,I4 p]:AK)))) B5 (by exact BC _)) ?_ (fun _ _ h=>h.elim) Aj;rintro _ _ ⟨rfl,rfl⟩
  refine BW<|Ag<|Ce rfl results47 (by exact ⟨rfl,G,m,_,ax,s3,(by rw [C0];exact K),DY g X,af,rfl⟩)
 refine B7 [true,true,true] [(9,(_,_)),(8,(_,_)),(4,(_,_))] V rfl (Al Ge #[_,_,_]) ?_ (fun _ _ h=>h.elim) Aj;rintro _ _ ⟨bn,rfl,rfl⟩;refine ⟨Zk (Ev (by simp [*]) (Ev (by simp [*]) (AZ))),?_⟩;refine Zz (l:=[10])<|B7 [false,false,false] [] V rfl (Zw [_,_,_] Y call48 Y V (JP x.q O.q p qa cap cs hC Z O.rw O.wn O.wv)) ?_ Bv Aj;rintro _ _ ⟨_,⟨d9,s3,rfl,g,rfl⟩,rfl⟩;refine ⟨AZ,?_⟩;obtain ⟨G,m,rfl⟩:=g.form;rw [U];refine A3 11 V (AO Y)<|A3 12 V (CE Y V)<|A3 13 V (CE Y V)<|A3 14 V (CE Y V)<|Zz (l:=[16])<|B7 [] [] V rfl (Xw B9 #[.slice G (BX x.q x.res cs).1.rows.length m,I4 (BX x.q x.res cs).1.val,.bool (BX x.q x.res cs).1.fnd]) ?_ (fun _ _ h=>h.elim) Aj;rintro _ _ ⟨rfl,rfl⟩;refine BW<|A3 17 V (Aq Y)<|A3 18 V (Aq Y)<|Ag<|Zn [0,1,3,4,7,9] ?_;refine Zx<|Zq<|A1<|Zm Y<|Zv (Bt Y)<|A6<|AU Y (fun I=>by cases I)<|fun I=>AC<|Zx ?_;have X:=Me g
 have J:(x.b,Obj.cells #[I4 x.q.kd,I4 x.q.tb,I4 x.q.cl,I4 x.q.lo,I4 x.q.hi,I4 x.q.bq,I4 x.q.ot,I4 x.tn,I4 x.base,.slice x.rq x.L.length x.rc,I4 x.id,.slice G (BX x.q x.res cs).1.rows.length m,I4 (BX x.q x.res cs).1.val,.bool (BX x.q x.res cs).1.fnd,I4 x.since] 121 (0,0))∈IL x.b (.cells #[I4 x.q.kd,I4 x.q.tb,I4 x.q.cl,I4 x.q.lo,I4 x.q.hi,I4 x.q.bq,I4 x.q.ot,I4 x.tn,I4 x.base,.slice x.rq x.L.length x.rc,I4 x.id,.slice G (BX x.q x.res cs).1.rows.length m,I4 (BX x.q x.res cs).1.val,.bool (BX x.q x.res cs).1.fnd,I4 x.since] 121 (0,0)) d.SI:=PY B;refine Cb (s1:=s3) (s2:=d.MR) Wo Wo ?_;refine BA (n:=11) (0::0::0::0::8::5::37::101::255::511::1023::[]) 1152 AF AF rfl<|A3 0 rfl (AO Y)<|A3 1 rfl (AO Y)<|FG 2 rfl Wh (AB (cs:=#[_,_,_]) Cd B9 Y B5 (BN rfl))<|A3 3 rfl (AA (off:=0) HE rfl rfl AE Y)<|BE 4 rfl AH Y<|A3 5 rfl (Ak Y rfl)<|A3 6 rfl (AA (off:=11) Hs rfl rfl B9 Y)<|Zz (l:=[7])<|B7 [true,false] [(4,(_,_))] rfl rfl (OA B9 Y Y Hb Wo (B) (by exact congrArg (fun a=>IL x.b (Obj.cells a 121 (0,0)) d.SI) (rfl:_=(#[I4 x.q.kd,I4 x.q.tb,I4 x.q.cl,I4 x.q.lo,I4 x.q.hi,I4 x.q.bq,I4 x.q.ot,I4 x.tn,I4 x.base,.slice x.rq x.L.length x.rc,I4 x.id,.slice G (BX x.q x.res cs).1.rows.length m,I4 (BX x.q x.res cs).1.val,.bool (BX x.q x.res cs).1.fnd,I4 x.since]:AK))) FA B5 (by exact BC _)) ?_ (fun _ _ h=>h.elim) Aj;rintro _ _ ⟨rfl,rfl⟩;refine BW<|A3 8 V (Ak Y V)<|A3 9 V (AA (off:=14) Hs V rfl AE Y)<|Zz (l:=[10])<|B7 [false] [] V rfl (Fh AE Y Y V Wo (J) (by exact (Ux _ _ _ _).trans (congrArg (fun a=>IL x.b (Obj.cells a 121 (0,0)) d.SI) (V:_=(#[I4 x.q.kd,I4 x.q.tb,I4 x.q.cl,I4 x.q.lo,I4 x.q.hi,I4 x.q.bq,I4 x.q.ot,I4 x.tn,I4 x.base,.slice x.rq x.L.length x.rc,I4 x.id,.slice G (BX x.q x.res cs).1.rows.length m,I4 (BX x.q x.res cs).1.val,.bool (BX x.q x.res cs).1.fnd,I4 p]:AK)))) B5 (by exact BC _)) ?_ (fun _ _ h=>h.elim) Aj;rintro _ _ ⟨rfl,rfl⟩
 refine BW<|Ag<|Ce rfl results47 (by exact ⟨rfl,G,m,_,ax,s3,(by rw [C0];exact K),DY g X,af,rfl⟩)
set_option maxHeartbeats 1000000 in
theorem ow(h:d.okb)(hx:x∈d.its)(G:x.live d.MR)(p:Int)(hC:Cv ME (.slice qa cs.length cap) cs)(cu:cs.length<=1000)(I:(BX x.q x.res cs).2.2=false)(hT:Row 9 tv (tl.map Value.string) st)(gq:tl.length<=1000000)(bt br bc:Nat):BR prog 47 #[.string x.key,.pointer (some ⟨x.b,0,none⟩),I5 bt,I5 br,I5 bc] [[(bt,.cells #[tv] 52 (0,0))],[(br,.cells #[I4 p,.slice qa cs.length cap] 57 (0,0))],[(bc,.cells #[.pointer (some ⟨d.cp,0,none⟩)] 29 (0,0))],st,[(d.cp,.cells d.A75 95 (0,0))],d.sW,d.z.S,[(d.mb,.map d.esP d.ckP)],d.su,[(d.ip,.cells #[.map (some d.mq),d.lv] 165 (0,0))],[(d.mq,.map d.esQ d.ckQ)],d.ML,[(d.mi,.map d.esI d.ckI)],[(d.mkb,.map d.esK d.ckK)],d.SI,d.M,d.MR,ME] (fun v H'=>v=undef/\∃(d2:CZ) (tv':A4) (st':List A9),d2.okb/\d.like d2/\d2.next=d.next/\(d2.M=d.M/\d2.MR=d.MR)/\d2.SI=d.SI/\d2.its=(d.its.filter fun y=>y.key≠x.key)/\(∀e∈d2.PL,e∈d.PL)/\Row 9 tv' ((tl++[x.key]).map Value.string) st'/\H'=[[(bt,.cells #[tv'] 52 (0,0))],[(br,.cells #[I4 p,.slice qa cs.length cap] 57 (0,0))],[(bc,.cells #[.pointer (some ⟨d.cp,0,none⟩)] 29 (0,0))],st',[(d2.cp,.cells d2.A75 95 (0,0))],d2.sW,d2.z.S,[(d2.mb,.map d2.esP d2.ckP)],d2.su,[(d2.ip,.cells #[.map (some d2.mq),d2.lv] 165 (0,0))],[(d2.mq,.map d2.esQ d2.ckQ)],d2.ML,[(d2.mi,.map d2.esI d2.ckI)],[(d2.mkb,.map d2.esK d2.ckK)],d2.SI,d2.M,d2.MR,ME]):=by
 have gm:=mL;have ax:(x.b,Obj.cells x.A74 121 (0,0))∈d.SI:=h.its.sub x hx
 obtain ⟨gt,ct,rfl⟩:=hT.form;refine Se func47 ntmps47 [0,1,2,3,4] ?_;intro u R;refine A1<|Zl LL Y<|Zm Y<|Ze (Ai (vs:=[_]) (cs:=[_]) DH Fm HS Y V rfl V rfl V)<|AG fun gb=>Ze (Dj (by_:=16) (news:=[_]) DH (V:Tryz.prog.info? 9=some Tryz.t9) V rfl V rfl Y hT Y Wo Wh B0 V Ft B1 (by(simp only [B6];omega)) (by(simp only [B6];omega))) ?_;rintro _ _ ⟨cO,B,rfl⟩;obtain ⟨ek,dn,rfl⟩:=B.form;refine Xe (Zs I3 Y Y V)<|A6<|Zq<|BA (n:=19) (0::1::3::7::15::0::32::96::224::0::1023::2047::4095::4095::4095::0::40959::114687::262143::[]) 99328 AF AF V<|A3 0 V (AO Y)<|A3 1 V (Ak Y V)<|A3 2 V (AA (off:=0) Hs V rfl HG Y)<|A3 3 V (Ap (off:=0) GB V rfl CM Y)<|Cc (D':=31) 4 V rfl V (Dy Wo (ax)) (AB (cs:=#[_,_,_,_,_,_,_]) F1 CM Y B5 (by exact (by apply I2.1;rfl))) ?_;refine A3 5 V (AO Y)<|A3 6 V (Ak Y V)<|A3 7 V (AA (off:=11) Hs V rfl B9 Y)<|Cc (D':=511) 8 V rfl V (Dy Wo (ax)) (AB (cs:=#[_,_,_]) Cd B9 Y B5 (by exact (by apply I2.1;rfl))) ?_;refine FG 9 V Wh (AB (cs:=#[_,_]) Iv GC Y B5 (BN V))<|Zz (l:=[10,15])<|B7 [false,false,false] [] V rfl (Zw [_,_,_] Y call48 Y V (JP x.q G.q p qa cap cs hC cu G.rw G.wn G.wv)) ?_ Bv ?_;·
  rintro _ _ ⟨_,⟨d9,s3,rfl,g,rfl⟩,rfl⟩;refine ⟨AZ,?_⟩;obtain ⟨w3,c3,rfl⟩:=g.form;rw [I];refine A3 11 V (AO Y)<|A3 12 V (CE Y V)<|A3 13 V (CE Y V)<|A3 14 V (CE Y V)<|Zz (l:=[15])<|B7 [] [] V rfl (Al Ge #[_,_,_]) ?_ (fun _ _ h=>h.elim) Aj;rintro _ _ ⟨bn,rfl,rfl⟩;refine BW<|Yw 16 131071 V (Xw B9 #[.slice w3 (BX x.q x.res cs).1.rows.length c3,I4 (BX x.q x.res cs).1.val,.bool (BX x.q x.res cs).1.fnd])<|Cp<|A3 17 V (Aq Y)<|A3 18 V (Aq Y)<|Ag<|Zn [0,1,3,4,7,9] ?_;refine Zx<|Zq<|A1<|Zm Y<|Zv (Bt Y)<|A6<|AU Y (fun m=>?_) (fun m=>?_);·
   refine A1<|Zl K1 Y<|Zm Y<|Zc [_,_] Y call49 Y V (XX h hx) ?_;rintro _ _ ⟨_,⟨rfl,d2,J,K,O,U,X,_,Z,af,rfl⟩,rfl⟩;refine A6<|AJ<|Zt<|Ce rfl results47 (by exact ⟨rfl,d2,_,cO,J,K,O,U,X,Z,af,(by rw [C0];exact B),rfl⟩)
  cases m
 refine B7 [true,true,true] [(9,(_,_)),(8,(_,_)),(4,(_,_))] V rfl (Al Ge #[_,_,_]) ?_ (fun _ _ h=>h.elim) Aj;rintro _ _ ⟨bn,rfl,rfl⟩;refine ⟨Zk (Ev (by simp [*]) (Ev (by simp [*]) (AZ))),?_⟩;refine Zz (l:=[10])<|B7 [false,false,false] [] V rfl (Zw [_,_,_] Y call48 Y V (JP x.q G.q p qa cap cs hC cu G.rw G.wn G.wv)) ?_ Bv Aj;rintro _ _ ⟨_,⟨d9,s3,rfl,g,rfl⟩,rfl⟩;refine ⟨AZ,?_⟩;obtain ⟨w3,c3,rfl⟩:=g.form;rw [I];refine A3 11 V (AO Y)<|A3 12 V (CE Y V)<|A3 13 V (CE Y V)<|A3 14 V (CE Y V)<|Zz (l:=[16])<|B7 [] [] V rfl (Xw B9 #[.slice w3 (BX x.q x.res cs).1.rows.length c3,I4 (BX x.q x.res cs).1.val,.bool (BX x.q x.res cs).1.fnd]) ?_ (fun _ _ h=>h.elim) Aj;rintro _ _ ⟨rfl,rfl⟩;refine BW<|A3 17 V (Aq Y)<|A3 18 V (Aq Y)<|Ag<|Zn [0,1,3,4,7,9] ?_;refine Zx<|Zq<|A1<|Zm Y<|Zv (Bt Y)<|A6<|AU Y (fun m=>?_) (fun m=>?_);·
  refine A1<|Zl K1 Y<|Zm Y<|Zc [_,_] Y call49 Y V (XX h hx) ?_;rintro _ _ ⟨_,⟨rfl,d2,J,K,O,U,X,_,Z,af,rfl⟩,rfl⟩;refine A6<|AJ<|Zt<|Ce rfl results47 (by exact ⟨rfl,d2,_,cO,J,K,O,U,X,Z,af,(by rw [C0];exact B),rfl⟩)
 cases m
theorem ae{P:Program}{f:FuncId}{args:AK}{A B g:List A9}{Q:A4->List A9->Prop}(G:s.Perm (A++(B++g)))(h:BR P f args [A,B] (fun r H'=>∃m,Q r m/\H'=[A,B,m])):BR P f args [s] (fun r H'=>∃m,Q r m/\H'=[s,m]):=fun u R w J=>by
 have I:Sat u ([A,B]++([g]++R)) w:=J.perm (by
  simp only [PJ,Kx,CA];have:=G.append_right R.flatten
  simpa only [CT]using this)
 refine (h u ([g]++R) w I).mono ?_;rintro e K (⟨v,H',rfl,⟨m,hq,rfl⟩,hsat⟩|⟨_,_,_,h,_⟩)
 · refine .inl ⟨v,_,rfl,⟨m,hq,rfl⟩,hsat.perm ?_⟩
   simp only [PJ,Kx,CA];have e1:(A++(B++(m++(g++R.flatten)))).Perm ((A++(B++g))++(m++R.flatten)):=by
    simp only [CT];refine RT A (RT B ?_);rw [<-CT,<-CT];exact LR.append_right _
   exact e1.trans (G.symm.append_right _)
 · exact h.elim
theorem zW{a b:A9}(O:(s.map (·.1)).Nodup)(J:a∈s)(K:b∈s)(m:a.1≠b.1):∃g,s.Perm ([a]++([b]++g)):=by
 obtain ⟨X,Y,rfl⟩:=Wf J;have B:b∈X++Y:=by
  rcases C2.1 K with h|h
  · exact Ek _ h
  · rcases DB.1 h with h|h
    · exact absurd (by rw [h]) m
    · exact G2 _ h
 obtain ⟨G,I,h2⟩:=Wf B;refine ⟨G++I,N1.trans (List.Perm.cons a ?_)⟩;rw [h2];exact N1
noncomputable def JD(c:CZ)(k:Bk):Bool:=@decide (∃x∈c.its,x.key=k/\x.base<c.pos -64) (Classical.propDecidable _)
def tf(c:CZ)(pre:List Bk)(s:List A9):Prop:=∃d:CZ,d.okb/\d.cp=c.cp/\d.mi=c.mi/\d.pos=c.pos/\(∀y,y∈d.its↔y∈c.its/\y.key∉pre)/\(d.cp,Obj.cells d.A75 95 (0,0))∈s/\(d.mi,Obj.map d.esI d.ckI)∈s/\∀q∈d.SI,q∈s
def bL(c:CZ)(p:List Bk):Prop:=∃zs:List Bk,zs.Perm (c.its.map ItM.key)/\∃post,zs.filter (JD c)=p++post
def WL(c:CZ)(ys:List Bk):Prop:=∃zs:List Bk,zs.Perm (c.its.map ItM.key)/\ys=zs.filter (JD c)
theorem Pd(G:(c.its.map ItM.key).Nodup)(g:x∈c.its):JD c x.key=true↔x.base<c.pos -64:=by
 unfold JD;rw [@decide_eq_true_eq _ (Classical.propDecidable _)];constructor
 · rintro ⟨y,I,B,m⟩
   rwa [Ga G I g B]at m
 · intro h;exact ⟨x,g,rfl,h⟩
theorem aR{α:Type}{l:List α}{f:α->Bool}{i:Nat}{x:α}(h:l[i]?=some x):(l.take (i+1)).filter f=(l.take i).filter f++(if f x=true then [x]else [])/\∃post,l.filter f=(l.take i).filter f++(if f x=true then [x]else [])++post:=by
 have e:(l.take (i+1)).filter f=(l.take i).filter f++(if f x=true then [x]else []):=by
  rw [Bn h,Hj];congr 1;by_cases g:f x=true;· rw [Ax g,List.filter_cons_of_pos g];rfl
  · rw [As g,lR g];rfl
 refine ⟨e,(l.drop (i+1)).filter f,?_⟩;rw [<-e,<-Hj,J0]
theorem cZ{l:List Bk}(g:l.Nodup){i:Nat}{x:Bk}(h:l[i]?=some x)(f:Bk->Bool):x∉(l.take i).filter f:=fun I=>by
 have m:=(Fc.1 I).1;have h2:l=l.take i++x::l.drop (i+1):=by
  obtain ⟨B,G⟩:=C4.1 h;rw [<-G,<-RR B,J0]
 rw [h2,GW]at g;exact g.2.2 x m x (E0 ..) V
theorem vI(h:c.okb)(I:(s.map (·.1)).Nodup)(g:(c.cp,Obj.cells c.A75 95 (0,0))∈s)(h2:(c.mi,Obj.map c.esI c.ckI)∈s):BR prog 17 #[.pointer (some ⟨c.cp,0,none⟩)] [s] (fun r H'=>∃m,(∃zs:List Bk,zs.Perm (c.its.map ItM.key)/\(zs.Pairwise fun x y=>x.data.toList<=y.data.toList)/\Row 9 r (zs.map Value.string) m)/\H'=[s,m]):=by
 have G:c.cp≠c.mi:=fun O=>by
  have B:=Ga I g h2 O;injection B with _ B
  cases B
 obtain ⟨J,U⟩:=zW I g h2 G;refine ae U ((Ny h).mono ?_);rintro r H' ⟨zs,m,g,h2,K,rfl⟩;exact ⟨m,⟨zs,g,h2,K⟩,V⟩
theorem dE(c:CZ):BR prog 51 #[.pointer (some ⟨c.cp,0,none⟩)] [] (fun r H'=>∃g,r= .func (.func 103) #[] #[I5 g]/\H'=[[(g,.cells #[.pointer (some ⟨c.cp,0,none⟩)] 29 (0,0))]]):=by
 refine Se func51 ntmps51 [0] ?_;intro u R;refine A1<|Ze (Bx #[_])<|AG fun g=>A5 Y<|A1<|Zv (Bg (vs:=[]) (us:=[_]) Y Y)<|A5 Y<|AJ<|AP V results51 Y (by exact ⟨g,V,V⟩)
set_option maxHeartbeats 1000000 in
theorem dG(h:c.okb)(bc:Nat):Kc prog 103 #[I5 bc] [[(bc,.cells #[.pointer (some ⟨c.cp,0,none⟩)] 29 (0,0))]] (tf c) (fun x:Bk=>#[.string x]) (bL c) (WL c):=by
 intro l J hA hy s K;obtain ⟨d0,af,O,o9,p8,bn,ek,gq,p9⟩:=hA _ _ K;have U:(d0.its.map ItM.key).Perm (c.its.map ItM.key):=(OS af.its.keys h.its.keys).2 fun a=>by
  simp only [C6,bn,Pc,not_false_eq_true,ef]
 have pg:=h.its.len;have cu:=h.its.keys
 refine Se func103 ntmps103 [0,1] ?_;intro u R;refine Zq<|H5 (s:=s) Wo (fun l5=>?_);rw [<-O];refine Zg<|Zl K1 Y ?_;refine Zc [_] Y call17 Y V (vI af l5 ek gq) ?_;rintro _ _ ⟨_,⟨sk,⟨zs,g,q9,Z⟩,rfl⟩,rfl⟩;replace g:=g.trans U;have l9:=g.length_eq
 rw [B6]at l9;have o8:zs.Nodup:=g.nodup_iff.2 cu
 obtain ⟨pk,ck,rfl⟩:=Z.form;simp only [B6];rw [B6]at Z;refine Zv (Ac DH Y)<|Zm Y<|A6<|AQ<|Zb [8,0,1,6,7] ?_;refine BI (e0:=[(8,_)]) (fun m e H=>∃(i:Nat) (s:List A9),m=zs.length -i/\(i<=zs.length/\J ((zs.take i).filter (JD c)) s)/\e=[(8,I4 (i:Int))]/\H=[s]) (by exact ⟨0,s,V,⟨C7 _,K⟩,V,V⟩) Wp ?_;rintro _ _ _ ⟨i,s,rfl,⟨hi,K⟩,rfl,rfl⟩;refine A1<|Zv (Ay Y Y)<|A6<|Zq<|Aw Y (fun X=>?_) (fun X=>?_);·
  obtain ⟨k,hk⟩:∃k,zs[i]?=some k:=⟨_,BT A0⟩;obtain ⟨x,hx,rfl⟩:=C6.1 (g.mem_iff.1 (DQ hk));obtain ⟨ax,post,G⟩:=aR (f:=JD c) hk;have kv:=cZ o8 hk (JD c)
  obtain ⟨d,hd,j3,pq,cO,j5,hC,hM,hS⟩:=hA _ _ K;have dn:x∈d.its:=(j5 x).2 ⟨hx,kv⟩
  have hg:=hd.its.get dn;have gy:(x.b,Obj.cells x.A74 121 (0,0))∈s:=hS _ (hd.its.sub x dn)
  have d9:=Pd cu hx;rw [show d.cp=d0.cp from j3.trans O.symm]at hC;have pz:zs[i]?=some x.key:=hk
  rcases Z with⟨_,h0,_⟩|⟨gk,capk,curk,zk,hvk,rfl,hlek,hcmk,hcsk,htkk,hfrk⟩
  · simp at h0;subst h0;simp at X
  injection hvk with hv1 hv2 hv3
  subst hv1 hv3;have ic:curk[i]?=some (.string x.key):=by
   have h:=congrArg (fun l=>l[i]?) htkk;simp only [HI,B6,Ax X,DP,hk]at h;simpa using h
  refine AC<|Zx<|Zq<|AQ<|A1<|BU (Be DH Fm Y Y (by first|omega|(simp;omega)))<|Zl Hh Y (hv:=by exact ic) ?_;refine A5 Y<|Zq<|BA (n:=22) (0::1::3::7::0::31::63::127::255::511::0::1024::3072::7168::15360::32767::65535::131071::131071::524287::1048575::2097151::[]) 524288 AF AF V<|BE 0 V K1 Y ?_;refine A3 1 V (Ak Y V)<|A3 2 V (AA (off:=4) Fl V rfl RK Y)<|Cc (D':=15) 3 V rfl V (Dy Wo (hC)) (BF ON Y B0) ?_;refine A3 4 rfl (AO Y)<|Cc (D':=63) 5 rfl rfl rfl (Dy Wo (hM)) (De (Dt HA (D:=fun _=>True)) RC W4 hd.its.im (fun _ _=>trivial) (trivial) (by rw [hg];first|done|rfl) Y Y) ?_;refine A3 6 V (Ak Y V)<|A3 7 V (AA (off:=0) Hs V rfl HG Y)<|A3 8 V (Ap (off:=8) GB V rfl AE Y)<|Cc (D':=1023) 9 V rfl V (Dy Wo (gy)) (BF AH Y B0) ?_;refine BE 10 V K1 Y ?_;refine A3 11 V (Ak Y V)<|A3 12 V (AA (off:=0) Fl V rfl AE Y)<|Cc (D':=16383) 13 V rfl V (Dy Wo (hC)) (BF AH Y B0) ?_
  (refine Dn (D':=32767) 14 (FP Y Y (IntWalk.i64_in _ ?_)) ?_;(focus (have:=hd.pos;omega)))
  refine A3 15 V (EH Y Y)<|A3 16 V (AO Y)<|DF (t:=28) Y (fun B=>?_) (fun B=>?_);·
   rw [DG B];have I:JD c x.key=true:=d9.2 (by rw [<-cO];exact B)
   rw [Ax I]at G;have l8:=hy _ x.key s ⟨zs,g,post,G⟩ K
   refine An 17 V (AO Y)<|An 18 V (AO Y)<|Yw 19 1048575 V (Fe (vs:=[_]) Y Y (l8) Wp) ?_;rintro _ _ ⟨_,⟨s',rfl,rfl,gm⟩,rfl⟩;refine An 20 V (Bt Y)<|A3 21 V (AX Y Y)<|Ag<|Zn [0,1,6,7,8,33] ?_;refine Zx<|AU Y (fun hb=>by cases hb)<|fun hb=>AC<|A8<|Zx<|Zg<|Ya (n:=1) Y Y<|Zm Y<|Z0<|Zn [8,0,1,6,7] ?_;refine Aa (e':=[(8,_)]) (by exact ⟨i+1,s',rfl,⟨by omega,by rw [ax,Ax I];exact gm⟩,rfl,rfl⟩)
  rw [Cl B];have I:¬JD c x.key=true:=fun h9=>B (by rw [cO];exact d9.1 h9)
  refine AN 17 V<|AN 18 V<|AN 19 V<|AN 20 V<|A3 21 V (AL Y Y)<|Ag<|Zn [0,1,6,7,8,33] ?_;refine Zx<|D9 Y<|AC<|A8<|Zx<|Zg<|Ya (n:=1) Y Y<|Zm Y<|Z0<|Zn [8,0,1,6,7] ?_;refine Aa (e':=[(8,_)]) (by exact ⟨i+1,s,rfl,⟨by omega,by rw [ax,As I,D2];exact K⟩,rfl,rfl⟩)
 obtain rfl:i=zs.length:=by omega
 rw [G3]at K;refine BD<|Zt<|Zt<|AV<|Ce V results103 (by exact ⟨_,s,⟨zs,g,V⟩,V,K⟩)
def ItM.core(x:ItM):ItM:={x with res:=CB.none,wq:=none,wc:=0,since:=0}
variable{y:ItM}
theorem J3(h:y.core=x.core):y.b=x.b/\y.id=x.id/\y.q=x.q/\y.tn=x.tn/\y.base=x.base/\y.rq=x.rq/\y.rc=x.rc/\y.L=x.L:=by
 obtain ⟨b,id,q,tn,base,rq,rc,L,res,wq,wc,since⟩:=x;obtain ⟨Z,G,q',K,m,J,I,X,B,U,O,g⟩:=y;unfold ItM.core at h;simp only [ItM.mk.injEq]at h;exact ⟨h.1,h.2.1,h.2.2.1,h.2.2.2.1,h.2.2.2.2.1,h.2.2.2.2.2.1,h.2.2.2.2.2.2.1,h.2.2.2.2.2.2.2.1⟩
theorem MQ(h:y.core=x.core):y.key=x.key:=by unfold ItM.key;rw [(J3 h).2.2.1]
theorem WE{α:Type}(W:List α)(r:α){n:Nat}(h:n<=W.length):(W++[r]).drop n=W.drop n++[r]:=i6 h
def Jq(W W':List BQ)(r:BQ):Prop:=(W'=W++[r]/\W.length<64)\/(W'=(W++[r]).drop 1/\W.length=64)
variable{W' W:List BQ}{r:BQ}
theorem kF{pos:Int}(g:Jq W W' r)(B:(pos -base).toNat<=W.length)(G:base<=pos)(I:pos+1 -64<=base):Cy (pos+1) base W'=Cy pos base W++[r]/\(pos+1 -base).toNat<=W'.length:=by
 have e:(pos+1 -base).toNat=(pos -base).toNat+1:=by omega
 unfold Cy;rcases g with⟨rfl,m⟩|⟨rfl,m⟩
 · rw [Bm,F2,e,show W.length+1 -((pos -base).toNat+1)=W.length -(pos -base).toNat by omega,WE _ _ A0]
   exact ⟨V,by omega⟩
 · rw [CH,Bm,F2,e,cA,show 1+(W.length+1 -1 -((pos -base).toNat+1))=W.length -(pos -base).toNat by omega,WE _ _ A0]
   exact ⟨V,by omega⟩
theorem K5{pos:Int}(h:pos<=base):Cy pos base W=[]:=by
 unfold Cy;rw [show(pos -base).toNat=0 by omega,S5,j0]
def Xu(cs:List Chg)(x:ItM):Prop:=∃ch∈cs,Ct x.q ch=true
theorem Re(g:∀c∈cs,c.ok):cs.any (Dk q)=true↔∃ch∈cs,Ct q ch=true:=by
 rw [mc];constructor
 · rintro ⟨c,hc,h⟩
   unfold Dk at h;rw [G0]at h;exact ⟨c,hc,h.2⟩
 · rintro ⟨c,hc,h⟩
   refine ⟨c,hc,?_⟩;unfold Dk;rw [DG (g c hc),h];rfl
theorem bJ:∀{cs:List Chg} {r:CB},¬cs.any (Dk q)=true->BX q r cs=(r,false,true):=fun{cs r} h=>by
 have g:∀{cs:List Chg},(∀c∈cs,Dk q c=false)->Hm q r cs=some r:=fun{cs}=>by
  induction cs with
  |nil=>intro _;rfl
  |cons c cs ih=>
   intro h;have h2:DC q c r=(r,true):=by unfold DC;rw [h c (E0 ..)];rfl
   unfold Hm;rw [h2];exact ih fun d B=>h d (E7 _ B)
 have m:∀c∈cs,Dk q c=false:=fun c hc=>by
  cases h4:Dk q c with
  |false=>rfl
  |true=>exact absurd (mc.2 ⟨c,hc,h4⟩) h
 unfold BX;rw [g m];show(r,cs.any (Dk q),true)=_
 rw [oY]at h;rw [h]
structure w7(cs:List Chg)(p:Int)(ids:List Int)(MR:List A9)(x y:ItM):Prop where
 core:y.core=x.core
 how:(y=x/\¬(x.id∈ids/\x.base<p))\/((x.id∈ids/\x.base<p)/\(BX x.q x.res cs).2.2=true/\y.res=(BX x.q x.res cs).1/\y.since=p/\EB MR (.slice y.wq y.res.rows.length y.wc) y.res.rows)
structure H8(c d:CZ)(cs:List Chg)(p:Int)(W':List BQ)(M1:List A9)(ids:List Int)(tl:List Bk):Prop where
 okb:d.okb
 cp:d.cp=c.cp
 pos:d.pos=p
 win:d.win=W'
 M:d.M=M1
 ns:d.ns=c.ns
 sc:d.z.cs=c.z.cs
 next:d.next=c.next
 PL:∀e∈d.PL,e∈c.PL
 MR:∀q∈c.MR,q∈d.MR
 i1:∀y∈d.its,∃x∈c.its,w7 cs p ids d.MR x y
 i2:∀x∈c.its,(x.id∈ids->x.base<p->(BX x.q x.res cs).2.2=true)->∃y∈d.its,y.core=x.core
 t1:∀k,k∈tl↔∃x∈c.its,x.key=k/\x.id∈ids/\x.base<p
 t2:tl.Nodup
theorem Jk(h:c.okb)(g:x∈c.its)(m:y∈c.its)(e:x.id=y.id):x=y:=by
 have hi:=h.its.idx.ids;rw [K0]at hi;exact Ga hi g m e
variable{p:Int}{M1:List A9}{ids:List Int}
theorem H8.next_it(h:H8 c d cs p W' M1 ids tl)(hc:c.okb)(J:x∈c.its)(G:x.id∉ids):x∈d.its:=by
 obtain ⟨y,K,B⟩:=h.i2 x J fun g=>absurd g G;obtain ⟨U,m,I⟩:=h.i1 y K;have O:=Jk hc m J (by rw [<-(J3 I.core).2.1,(J3 B).2.1])
 subst O;rcases I.how with⟨rfl,_⟩|⟨⟨g,_⟩,_⟩
 · exact K
 · exact absurd g G
theorem vY(h:H8 c d cs p W' M1 ids tl)(hc:c.okb)(O:x∈c.its)(J:¬x.base<p):H8 c d cs p W' M1 (ids++[x.id]) tl:=by
 have g:∀z∈c.its,z.base<p->(z.id∈ids++[x.id]↔z.id∈ids):=fun z hz B=>by
  rw [C2,C5];refine ⟨fun m=>m.elim id fun h2=>?_,.inl⟩;rw [Jk hc hz O h2]at B;exact absurd B J
 refine ⟨h.okb,h.cp,h.pos,h.win,h.M,h.ns,h.sc,h.next,h.PL,h.MR,fun y U=>?_,fun z hz K=>h.i2 z hz fun m h2=>K ((g z hz h2).2 m) h2,fun k=>?_,h.t2⟩
 · obtain ⟨z,hz,I⟩:=h.i1 y U
   refine ⟨z,hz,I.core,?_⟩;rcases I.how with⟨e,m⟩|⟨m,h2⟩
   · exact .inl ⟨e,fun G=>m ⟨(g z hz G.2).1 G.1,G.2⟩⟩
   · exact .inr ⟨⟨(g z hz m.2).2 m.1,m.2⟩,h2⟩
 · rw [h.t1]
   constructor;· rintro ⟨z,hz,a,b,e⟩;exact ⟨z,hz,a,(g z hz e).2 b,e⟩
   · rintro ⟨z,hz,a,b,e⟩;exact ⟨z,hz,a,(g z hz e).1 b,e⟩
theorem vX(hc:c.okb)(t1:∀k,k∈tl↔∃x∈c.its,x.key=k/\x.id∈ids/\x.base<p)(t2:tl.Nodup)(B:x∈c.its)(J:x.base<p)(O:x.id∉ids):(∀k,k∈tl++[x.key]↔∃y∈c.its,y.key=k/\y.id∈ids++[x.id]/\y.base<p)/\(tl++[x.key]).Nodup:=by
 constructor
 · intro k
   rw [C2,C5,t1];constructor
   · rintro (⟨y,g,a,b,e⟩|rfl)
     · exact ⟨y,g,a,Ek _ b,e⟩
     · exact ⟨x,B,rfl,by simp,J⟩
   · rintro ⟨y,g,rfl,b,e⟩
     rcases C2.1 b with b|b
     · exact .inl ⟨y,g,rfl,b,e⟩
     · rw [Jk hc g B (C5.1 b)];exact .inr rfl
 · rw [GW]
   refine ⟨t2,by simp,fun a I b m=>?_⟩;obtain rfl:=C5.1 m;intro K;obtain ⟨y,g,G,h2,_⟩:=(t1 a).1 I;rw [Ga hc.its.keys g B (G.trans K)]at h2;exact O h2
theorem y8{next:Int}{esQ:Array MapEntry}{ckQ:Nat}{lmQ:List (Int×A4)}{lv:A4}{ML:List A9}{esI:Array MapEntry}{ckI:Nat}{lmI:List (Bk×A4)}{esK:Array MapEntry}{ckK:Nat}{lmK:List (Int×A4)}{SI:List A9}(h:GK its next esQ ckQ lmQ lv ML esI ckI lmI esK ckK lmK SI)(J:(SI.map (·.1)).Nodup)(G:x∈its)(p:Int)(cs:List Chg)(wq:B8)(wc:Nat):
 GK (its.map fun y=>if y.id=x.id then x.upd p cs wq wc else y) next esQ ckQ lmQ lv ML esI ckI lmI esK ckK lmK (IL x.b (x.upd p cs wq wc).obj SI):=by
 have B:∀y∈its,y.id=x.id->y=x:=fun y g e=>by
  have hi:=h.idx.ids;rw [K0]at hi;exact Ga hi g G e
 have m:∀y∈its,(if y.id=x.id then x.upd p cs wq wc else y).key=y.key/\(if y.id=x.id then x.upd p cs wq wc else y).iq=y.iq/\(if y.id=x.id then x.upd p cs wq wc else y).b=y.b/\(if y.id=x.id then x.upd p cs wq wc else y).id=y.id/\(if y.id=x.id then x.upd p cs wq wc else y).q=y.q:=fun y g=>by
  by_cases e:y.id=x.id
  · rw [B y g e,Ax rfl];exact ⟨rfl,rfl,rfl,rfl,rfl⟩
  · rw [As e];exact ⟨rfl,rfl,rfl,rfl,rfl⟩
 have e1:((its.map fun y=>if y.id=x.id then x.upd p cs wq wc else y).map ItM.iq)=its.map ItM.iq:=by
  rw [K0];exact Wc fun y g=>(m y g).2.1
 have e2:((its.map fun y=>if y.id=x.id then x.upd p cs wq wc else y).map ItM.key)=its.map ItM.key:=by
  rw [K0];exact Wc fun y g=>(m y g).1
 refine ⟨by rw [e1];exact h.idx,by rw [e1];exact h.ist,h.im,fun q=>?_,h.km,fun q=>?_,by rw [e2];exact h.keys,fun y g=>?_,h.nx,by rw [B6];exact h.len,fun y g=>?_,fun y g=>?_⟩
 · rw [h.imem]
   constructor;· rintro ⟨y,g,rfl⟩;exact ⟨_,DS g,by rw [(m y g).1,(m y g).2.2.1]⟩
   · rintro ⟨z,hz,rfl⟩
     obtain ⟨y,g,rfl⟩:=C6.1 hz;exact ⟨y,g,by rw [(m y g).1,(m y g).2.2.1]⟩
 · rw [h.kmem]
   constructor;· rintro ⟨y,g,rfl⟩;exact ⟨_,DS g,by rw [(m y g).1,(m y g).2.2.2.1]⟩
   · rintro ⟨z,hz,rfl⟩
     obtain ⟨y,g,rfl⟩:=C6.1 hz;exact ⟨y,g,by rw [(m y g).1,(m y g).2.2.2.1]⟩
 · obtain ⟨z,hz,rfl⟩:=C6.1 g
   rw [(m z hz).2.2.2.1];exact h.ids z hz
 · obtain ⟨z,hz,rfl⟩:=C6.1 g
   rw [(m z hz).2.2.2.2];exact h.q z hz
 · obtain ⟨z,hz,rfl⟩:=C6.1 g
   by_cases e:z.id=x.id
   · simp only [Ax e]
     exact PY (h.sub x G)
   · simp only [As e]
     refine C6.2 ⟨z.ch,h.sub z hz,As fun e2=>?_⟩;have I:=Ga J (h.sub z hz) (h.sub x G) e2
     unfold ItM.ch ItM.obj at I;simp only [jt,Obj.cells.injEq,oy,mm,Value.int.injEq,WD,ef]at I;exact e (by simp_all)
theorem yZ(h:H8 c d cs p W' M1 ids tl)(hc:c.okb)(hn:(d.SI.map (·.1)).Nodup)(O:x∈c.its)(hb:x.base<p)(I:x.id∉ids)(X:(BX x.q x.res cs).2.2=true)(hr:EB s (.slice wq (BX x.q x.res cs).1.rows.length wc) (BX x.q x.res cs).1.rows):
 H8 c {d with SI:=IL x.b (x.upd p cs wq wc).obj d.SI,MR:=s++d.MR,its:=d.its.map fun y=>if y.id=x.id then x.upd p cs wq wc else y} cs p W' M1 (ids++[x.id]) (tl++[x.key]):=by
 have g:=h.next_it hc O I;have G:=y8 h.okb.its hn g p cs wq wc
 have U:(x.upd p cs wq wc).core=x.core:=rfl;obtain ⟨af,ax⟩:=vX hc h.t1 h.t2 O hb I;have e2:((d.its.map fun y=>if y.id=x.id then x.upd p cs wq wc else y).map ItM.key)=d.its.map ItM.key:=by
  rw [K0];refine Wc fun y m=>?_;show(if y.id=x.id then x.upd p cs wq wc else y).key=y.key
  split;· rename_i e;rw [Jk h.okb m g e];rfl
  · rfl
 refine ⟨⟨h.okb.pos,h.okb.win,h.okb.wl,h.okb.wp,h.okb.pool,fun k=>by rw [e2];exact h.okb.pk k,G,fun y m=>?_⟩,h.cp,h.pos,h.win,h.M,h.ns,h.sc,h.next,h.PL,fun q J=>G2 _ (h.MR q J),fun y m=>?_,fun z hz hk=>?_,af,ax⟩
 · obtain ⟨z,hz,rfl⟩:=C6.1 m
   split;· rename_i e;rw [<-Jk h.okb hz g e];exact h.okb.tns z hz
   · exact h.okb.tns z hz
 · obtain ⟨z,hz,rfl⟩:=C6.1 m
   by_cases e:z.id=x.id
   · rw [Ax e]
     exact ⟨x,O,U,.inr ⟨⟨by simp,hb⟩,X,V,V,hr.mono fun q J=>Ek _ J⟩⟩
   · rw [As e]
     obtain ⟨w,hw,Z⟩:=h.i1 z hz;have bn:w.id≠x.id:=fun B=>e (by rw [(J3 Z.core).2.1,B])
     refine ⟨w,hw,Z.core,?_⟩;have hm:w.id∈ids++[x.id]↔w.id∈ids:=by rw [C2,C5];exact ⟨fun B=>B.elim id fun h2=>absurd h2 bn,.inl⟩
     rcases Z.how with⟨a,b⟩|⟨a,b,e1,e3,e4⟩
     · exact .inl ⟨a,fun h3=>b ⟨hm.1 h3.1,h3.2⟩⟩
     · exact .inr ⟨⟨hm.2 a.1,a.2⟩,b,e1,e3,e4.mono fun q J=>G2 _ J⟩
 · by_cases e:z.id=x.id
   · obtain rfl:=Jk hc hz O e
     exact ⟨_,C6.2 ⟨z,g,Ax V⟩,V⟩
   · obtain ⟨y,m,K⟩:=h.i2 z hz fun B h2=>hk (Ek _ B) h2
     exact ⟨y,C6.2 ⟨y,m,As (by rw [(J3 K).2.1];exact e)⟩,K⟩
variable{d2:CZ}
theorem yc(h:H8 c d cs p W' M1 ids tl)(hc:c.okb)(J:x∈c.its)(hb:x.base<p)(O:x.id∉ids)(B:(BX x.q x.res cs).2.2=false)
 (g:d2.okb)(h2:d.like d2)(I:d2.next=d.next)(K:d2.M=d.M/\d2.MR=d.MR)(h6:d2.its=d.its.filter fun y=>y.key≠x.key)(h7:∀e∈d2.PL,e∈d.PL):H8 c d2 cs p W' M1 (ids++[x.id]) (tl++[x.key]):=by
 obtain ⟨X,Z⟩:=vX hc h.t1 h.t2 J hb O;have m:∀y,y∈d2.its↔y∈d.its/\y.key≠x.key:=fun y=>by rw [h6,Fc];simp
 refine ⟨g,h2.cp.trans h.cp,h2.pos.trans h.pos,h2.win.trans h.win,K.1.trans h.M,h2.ns.trans h.ns,h2.sc.trans h.sc,I.trans h.next,fun e he=>h.PL e (h7 e he),fun q hq=>by rw [K.2];exact h.MR q hq,fun y hy=>?_,fun z hz hk=>?_,X,Z⟩
 · obtain ⟨ax,bn⟩:=(m y).1 hy
   obtain ⟨w,hw,U⟩:=h.i1 y ax;have af:w.id≠x.id:=fun e=>bn (by rw [MQ U.core,Jk hc hw J e])
   refine ⟨w,hw,U.core,?_⟩;have m:w.id∈ids++[x.id]↔w.id∈ids:=by rw [C2,C5];exact ⟨fun g=>g.elim id fun h2=>absurd h2 af,.inl⟩
   rcases U.how with⟨a,b⟩|⟨a,b,e1,e3,e4⟩
   · exact .inl ⟨a,fun I=>b ⟨m.1 I.1,I.2⟩⟩
   · exact .inr ⟨⟨m.2 a.1,a.2⟩,b,e1,e3,by rw [K.2];exact e4⟩
 · by_cases e:z.id=x.id
   · obtain rfl:=Jk hc hz J e
     rw [hk B4 hb]at B;cases B
   · obtain ⟨y,hy,G⟩:=h.i2 z hz fun g h2=>hk (Ek _ g) h2
     refine ⟨y,(m y).2 ⟨hy,fun h9=>e ?_⟩,G⟩;rw [MQ G]at h9;rw [Ga hc.its.keys hz J h9]
theorem yf(h:H8 c d r.cs r.p W' M1 ids tl)(hc:c.ok)(hr:EK r.p r.cs)(hp:r.p=c.pos+1){r':BQ}(X:r'.pc=r.pc)(hW:Jq c.win W' r')(hM:∀q∈c.M,q∈d.M)(G:∀x∈c.its,x.id∈ids↔Xu r.cs x)(hy:y∈d.its)(d9:r.p -64<=y.base):y.ok d.M d.MR r.p W':=by
 obtain ⟨x,hx,hs⟩:=h.i1 y hy;have g:=hc.all x hx
 obtain ⟨c1,c2,c3,c4,c5,c6,c7,c8⟩:=J3 hs.core;have B:∀ch∈r.cs,ch.ok:=fun ch af=>by
  obtain ⟨i,hi⟩:=HH af;exact hr.all i ch hi
 have J:r'.p=r.p:=congrArg Prod.fst X;have K:r'.cs=r.cs:=congrArg Prod.snd X
 have I:EB d.MR (.slice y.wq y.res.rows.length y.wc) y.res.rows:=by
  rcases hs.how with⟨rfl,_⟩|⟨_,_,_,_,h5⟩
  · exact g.rw.mono h.MR
  · exact h5
 obtain ⟨r0,O,m⟩:=g.run;by_cases hb:x.base<r.p
 · obtain ⟨Z,U⟩:=kF hW g.reach A0 A0
   rw [<-hp]at Z U;refine ⟨by rw [c3];exact g.q,by rw [c5];exact g.base,by rw [c4];exact g.tn,by rw [c6,c7,c8];exact g.rp.mono hM,by rw [c8];exact g.rl,by rw [c8];exact g.fit,I,by rw [c5];exact U,r0,by rw [c3,c8];exact O,?_⟩;rw [c3,c5,Z,OZ,m,J1];have hl:=O9 g.reach
   have cO:=hc.pos;have cu:=g.base
   unfold GN GN;rw [J,K];rcases hs.how with⟨rfl,ax⟩|⟨⟨hin,_⟩,hok,e1,e2,_⟩
   · have hq:¬r.cs.any (Dk y.q)=true:=fun h9=>ax ⟨(G y hx).2 ((Re B).1 h9),hb⟩
     rw [bJ hq,Ax ⟨rfl,by rw [hl];omega,by rw [hl];omega⟩];rfl
   · have hq:r.cs.any (Dk x.q)=true:=(Re B).2 ((G x hx).1 hin)
     rw [Ax ⟨hok,by rw [hl];omega,by rw [hl];omega⟩,(MW hok).2,Ax hq,e1,e2]
 · have bn:y=x:=by
    rcases hs.how with⟨e,_⟩|⟨⟨_,h9⟩,_⟩
    · exact e
    · exact absurd h9 hb
   subst bn;rw [K5 A0]at m;exact ⟨g.q,g.base,g.tn,g.rp.mono hM,g.rl,g.fit,I,by omega,r0,O,by rw [K5 A0];exact m⟩
theorem TJ{α:Type} [DecidableEq α]:∀{a b:List α},a.Nodup->(∀x∈a,x∈b)->a.length<=b.length
 |[],_,_,_=>C7 _
 |x::a,b,g,hs=>by
  obtain ⟨G,g⟩:=HK.1 g;have h2:=TJ (a:=a) (b:=b.erase x) g fun y B=>by
   have m:y≠x:=fun e=>G (e▸B);exact (List.mem_erase_of_ne m).2 (hs y (E7 _ B))
  have I:=nf (hs x (E0 ..));have J:=List.length_pos_of_mem (hs x (E0 ..))
  rw [E3];omega
theorem pR(h:c.okb)(U:Jq c.win W r)(Z:r.p=c.pos+1)(O:EK r.p r.cs)(K:∀q∈c.M,q∈M1)(J:Cv M1 (.slice r.q r.cs.length r.cap) r.cs):W.length<=64/\∀(i:Nat) (g:BQ),W[i]?=some g->g.p=r.p -(W.length:Int)+1+(i:Int)/\Cv M1 (.slice g.q g.cs.length g.cap) g.cs/\EK g.p g.cs:=by
 have B:∀(i:Nat) (g:BQ),(c.win++[r])[i]?=some g->g.p=c.pos -(c.win.length:Int)+1+(i:Int)/\Cv M1 (.slice g.q g.cs.length g.cap) g.cs/\EK g.p g.cs:=fun i g m=>by
  rcases FF i c.win.length with h1|h1
  · rw [Wa h1]at m
    exact iU h K i g m
  · rw [RM h1]at m
    have h2:i -c.win.length=0:=by
     have:=(C4.1 m).1;simp at this;omega
    rw [h2]at m;have I:r=g:=by simpa using m
    subst I;exact ⟨by omega,J,O⟩
 have G:(c.win++[r]).length=c.win.length+1:=by rw [Bm];rfl
 rcases U with⟨rfl,X⟩|⟨rfl,X⟩
 · refine ⟨by omega,fun i g m=>?_⟩
   obtain ⟨a,b,e⟩:=B i g m;exact ⟨by rw [G];omega,b,e⟩
 · refine ⟨by rw [CH];omega,fun i g m=>?_⟩
   rw [RW]at m;obtain ⟨a,b,e⟩:=B (1+i) g m;exact ⟨by rw [CH,G];omega,b,e⟩
theorem vg(h:c.okb){sW:List A9}(J:Jq c.win W r)(g:Bd 2 57 (.slice wq W.length wc) W.length (Du W) sW)(O:r.p=c.pos+1)(m:EK r.p r.cs)(I:∀q∈c.M,q∈M1)(G:Cv M1 (.slice r.q r.cs.length r.cap) r.cs){lv2:A4}{ML2:List A9}(hst:WQ (c.its.map ItM.iq) lv2 ML2):
 H8 c {c with pos:=r.p,wq:=wq,wc:=wc,win:=W,sW:=sW,lv:=lv2,ML:=ML2,M:=M1} r.cs r.p W M1 [] []:=by
 have B:=pR h J O m I G;have U:=m.pos
 exact ⟨⟨⟨by show 0<=r.p;omega,by show r.p<=10000;omega⟩,g,B.1,B.2,h.pool,h.pk,{h.its with ist:=hst},h.tns⟩,V,V,V,V,V,V,V,fun e K=>K,fun q X=>X,fun y hy=>⟨y,hy,V,.inl ⟨V,fun h=>absurd h.1 B4⟩⟩,fun x Z _=>⟨x,Z,V⟩,fun k=>by simp,mu⟩
structure IJ(c d:CZ)(p:Int)(cs:List Chg)(q2:B8)(cap2:Nat)(zs:List Bk):Prop where
 ok:d.ok
 cp:d.cp=c.cp
 pos:d.pos=p
 win:Jq c.win d.win ⟨p,q2,cap2,cs⟩
 ns:d.ns=c.ns
 sc:d.z.cs=c.z.cs
 next:d.next=c.next
 PL:∀e∈d.PL,e∈c.PL
 i1:∀y∈d.its,p -64<=y.base/\∃x∈c.its,y.core=x.core/\((¬(Xu cs x/\x.base<p)/\y.res=x.res/\y.since=x.since)\/((Xu cs x/\x.base<p)/\(BX x.q x.res cs).2.2=true/\y.since=p))
 i2:∀x∈c.its,p -64<=x.base->(Xu cs x->x.base<p->(BX x.q x.res cs).2.2=true)->∃y∈d.its,y.core=x.core
 z1:∀k,k∈zs↔∃x∈c.its,x.key=k/\Xu cs x/\x.base<p
 z2:zs.Nodup
 z3:zs.Pairwise fun x y=>x.data.toList<=y.data.toList
 M:∀q∈c.M,q∈d.M
theorem IJ.zcap{q2:B8}{cap2:Nat}{zs:List Bk}(h:IJ c d p cs q2 cap2 zs):d.z.cap=c.z.cap:=congrArg Prod.fst h.sc
theorem yF(g:((its.map ItM.iq).map (·.1)).Nodup){B:List Int}(h:∀i,i∈B↔JS (its.map ItM.iq) cs i)(m:x∈its):x.id∈B↔Xu cs x:=by
 rw [h];constructor
 · rintro ⟨y,J,G,hc⟩
   obtain ⟨w,I,rfl⟩:=C6.1 J;rw [K0]at g;have:=Ga g I m G
   subst this;exact hc
 · intro hc
   exact ⟨x.iq,DS m,V,hc⟩
structure JQ(d d2:CZ)(pre:List Bk):Prop where
 okb:d2.okb
 like:d.like d2
 next:d2.next=d.next
 M:d2.M=d.M/\d2.MR=d.MR
 mi:d2.mi=d.mi
 PL:∀e∈d2.PL,e∈d.PL
 its:∀y,y∈d2.its↔y∈d.its/\y.key∉pre
theorem Rn(h:d.okb):JQ d d []:=⟨h,⟨rfl,rfl,rfl,rfl,rfl⟩,rfl,⟨rfl,rfl⟩,rfl,fun e g=>g,fun y=>by simp⟩
theorem dF{pre:List Bk}{k:Bk}(h:JQ d d2 pre)(J:d.okb)(I:bL d (pre++[k])):∃x∈d2.its,x.key=k:=by
 obtain ⟨zs,B,post,g⟩:=I;have m:(zs.filter (JD d)).Nodup:=(B.nodup_iff.2 J.its.keys).sublist Sp
 have K:k∈zs:=(Fc.1 (by rw [g];simp:k∈zs.filter (JD d))).1;obtain ⟨x,O,rfl⟩:=C6.1 (B.mem_iff.1 K);refine ⟨x,(h.its x).2 ⟨O,fun G=>?_⟩,V⟩;rw [g,CT,GW]at m;exact m.2.2 _ G _ B4 V
theorem Rm{g:CZ}{pre:List Bk}(h:JQ d d2 pre)(B:g.okb)(h2:d2.like g)(G:g.next=d2.next)(m:g.M=d2.M/\g.MR=d2.MR)(I:g.mi=d2.mi)(J:g.its=d2.its.filter fun y=>y.key≠x.key)(K:∀e∈g.PL,e∈d2.PL):JQ d g (pre++[x.key]):=by
 refine ⟨B,h.like.trans h2,G.trans h.next,⟨m.1.trans h.M.1,m.2.trans h.M.2⟩,I.trans h.mi,fun e O=>h.PL e (K e O),fun y=>?_⟩;rw [J,Fc,h.its,C2,C5];simp only [GO,ne_eq,not_or];exact ⟨fun⟨⟨a,b⟩,e⟩=>⟨a,b,e⟩,fun⟨a,b,e⟩=>⟨⟨a,b⟩,e⟩⟩
theorem vZ{q2:B8}{cap2:Nat}{zi:List Int}{zs ys:List Bk}(hc:c.ok)(hR:EK p cs)(hp:p=c.pos+1)(hW:Jq c.win W ⟨p,q2,cap2,cs⟩)(h:H8 c d cs p W M1 zi tl)(hM:∀q∈c.M,q∈M1)(cu:∀i,i∈zi↔JS (c.its.map ItM.iq) cs i)(G:JQ d d2 ys)(Z:WL d ys)(hz:zs.Perm tl)(cO:zs.Pairwise fun x y=>x.data.toList<=y.data.toList):IJ c d2 p cs q2 cap2 zs:=by
 have g:∀x∈c.its,x.id∈zi↔Xu cs x:=fun x B=>yF hc.its.idx.ids cu B;have m:∀y,y∈d2.its↔y∈d.its/\p -64<=y.base:=fun y=>by
  rw [G.its];constructor
  · rintro ⟨I,hn⟩
    refine ⟨I,aq fun X=>hn ?_⟩;obtain ⟨ks,af,rfl⟩:=Z;refine Fc.2 ⟨af.mem_iff.2 (DS I),(Pd h.okb.its.keys I).2 ?_⟩;rw [h.pos];omega
  · rintro ⟨I,hb⟩
    refine ⟨I,fun X=>?_⟩;obtain ⟨ks,af,rfl⟩:=Z;have:=(Pd h.okb.its.keys I).1 (Fc.1 X).2
    rw [h.pos]at this;omega
 have J:d2.pos=p:=G.like.pos.trans h.pos;have K:d2.win=W:=G.like.win.trans h.win
 refine ⟨⟨G.okb,fun y I=>?_⟩,G.like.cp.trans h.cp,J,by rw [K];exact hW,G.like.ns.trans h.ns,G.like.sc.trans h.sc,G.next.trans h.next,fun e he=>h.PL e (G.PL e he),fun y I=>?_,fun x B hb hk=>?_,fun k=>?_,hz.nodup_iff.2 h.t2,cO,fun q hq=>by rw [G.M.1,h.M];exact hM q hq⟩
 · obtain ⟨O,U⟩:=(m y).1 I
   rw [J,K,G.M.1,G.M.2];exact yf (r:=⟨p,q2,cap2,cs⟩) h hc hR hp rfl hW (fun q hq=>by rw [h.M];exact hM q hq) g O U
 · obtain ⟨O,U⟩:=(m y).1 I
   obtain ⟨x,B,hs⟩:=h.i1 y O;refine ⟨U,x,B,hs.core,?_⟩;rcases hs.how with⟨rfl,bn⟩|⟨⟨hin,hb⟩,hok,_,hsi,_⟩
   · exact .inl ⟨fun X=>bn ⟨(g y B).2 X.1,X.2⟩,rfl,rfl⟩
   · exact .inr ⟨⟨(g x B).1 hin,hb⟩,hok,hsi⟩
 · obtain ⟨y,I,ax⟩:=h.i2 x B fun h1 h2=>hk ((g x B).1 h1) h2
   exact ⟨y,(m y).2 ⟨I,by rw [(J3 ax).2.2.2.2.1];exact hb⟩,ax⟩
 · rw [hz.mem_iff,h.t1]
   constructor;· rintro ⟨x,B,a,b,e⟩;exact ⟨x,B,a,(g x B).1 b,e⟩
   · rintro ⟨x,B,a,b,e⟩;exact ⟨x,B,a,(g x B).2 b,e⟩
theorem iL(h:H8 c d cs p W' M1 ids tl)(hc:c.ok)(hC:Cv ME (.slice qa cs.length cap) cs)(O:cs.length<=1000)(hx:x∈c.its)(hb:x.base<p)(G:x.id∉ids)(hT:Row 9 tv (tl.map Value.string) st)(U:tl.length<=1000000)(K J I:Nat):
 BR prog 47 #[.string x.key,.pointer (some ⟨x.b,0,none⟩),I5 K,I5 J,I5 I] [[(K,.cells #[tv] 52 (0,0))],[(J,.cells #[I4 p,.slice qa cs.length cap] 57 (0,0))],[(I,.cells #[.pointer (some ⟨c.cp,0,none⟩)] 29 (0,0))],st,[(c.cp,.cells d.A75 95 (0,0))],d.sW,d.z.S,[(d.mb,.map d.esP d.ckP)],d.su,[(d.ip,.cells #[.map (some d.mq),d.lv] 165 (0,0))],[(d.mq,.map d.esQ d.ckQ)],d.ML,[(d.mi,.map d.esI d.ckI)],[(d.mkb,.map d.esK d.ckK)],d.SI,d.M,d.MR,ME] (fun v H'=>v=undef/\∃(d2:CZ) (m:A4) (g:List A9),H8 c d2 cs p W' M1 (ids++[x.id]) (tl++[x.key])/\Row 9 m ((tl++[x.key]).map Value.string) g/\H'=[[(K,.cells #[m] 52 (0,0))],[(J,.cells #[I4 p,.slice qa cs.length cap] 57 (0,0))],[(I,.cells #[.pointer (some ⟨c.cp,0,none⟩)] 29 (0,0))],g,[(c.cp,.cells d2.A75 95 (0,0))],d2.sW,d2.z.S,[(d2.mb,.map d2.esP d2.ckP)],d2.su,[(d2.ip,.cells #[.map (some d2.mq),d2.lv] 165 (0,0))],[(d2.mq,.map d2.esQ d2.ckQ)],d2.ML,[(d2.mi,.map d2.esI d2.ckI)],[(d2.mkb,.map d2.esK d2.ckK)],d2.SI,d2.M,d2.MR,ME]):=by
 rw [<-h.cp];have X:=h.next_it hc.tookb hx G
 have hl:x.live d.MR:=by
  have B:=(hc.all x hx).live hc.tookb;exact ⟨B.q,B.rw.mono h.MR,B.wn,B.wv⟩
 cases hok:(BX x.q x.res cs).2.2 with
 |true=>
  refine (ou h.okb X hl p hC O hok hT U K J I).mono ?_;rintro v H' ⟨B,wq,wc,m,g,s,h2,Z,h4,rfl⟩;exact ⟨B,_,m,g,yZ h hc.tookb h4 hx hb G hok Z,h2,V⟩
 |false=>
  refine (ow h.okb X hl p hC O hok hT U K J I).mono ?_;rintro v H' ⟨B,d2,m,g,h2,Z,h4,h5,_,h6,h7,h8,rfl⟩;exact ⟨B,d2,m,g,yc h hc.tookb hx hb G hok h2 Z h4 h5 h6 h7,h8,by rw [Z.cp]⟩
end Go.Proofs.YthhakdmlpngcmaaGreatDoor
