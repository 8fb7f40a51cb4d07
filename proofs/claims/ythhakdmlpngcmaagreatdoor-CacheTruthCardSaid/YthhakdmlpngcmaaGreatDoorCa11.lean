/- prepared. -/
import Derived.Test.YthhakdmlpngcmaaGreatDoorCa5
set_option linter.unusedVariables false
set_option linter.unusedSimpArgs false
namespace Go.Proofs.YthhakdmlpngcmaaGreatDoor
open Go.Proofs.Tryz
open Go Go.RowKit Gw
set_option maxRecDepth 100000
attribute [local irreducible] Gw.At Gw.Nx Gw.Ops
variable{c:CZ}{q:QM}{pg:B8}{cg:Nat}{L:List RP}{ME:List A9}{r0:C9}
theorem xk(h:c.ok)(hq:BI q)(te base:Int)(hb:0<=base/\base<=10000)(hL:G6 ME (.slice pg L.length cg) L)(ax:L.length<=1000000)(af:∀x∈L,x.fits)(K:Es q L=some r0)(O:¬(c.pos -base).toNat<=c.win.length)(G:AK)(Z:Nat×Nat):BS prog 38 #[.pointer (some ⟨c.cp,0,none⟩),.agg #[I0 q.kd,I0 q.tb,I0 q.cl,I0 q.lo,I0 q.hi,I0 q.bq,I0 q.ot,I0 te,I0 base,.slice pg L.length cg]] [[(c.cp,.cells c.A98 95 (0,0))],c.sW,c.M,ME,[(1,.cells (Lib.pow10Tab.map fun z=>Value.int .u64 z).toArray G Z)]] (fun w H'=>w= .tuple #[.string ⟨#[]⟩,.pointer none,.bool false]/\H'=[[(c.cp,.cells c.A98 95 (0,0))],c.sW,c.M,ME,[(1,.cells (Lib.pow10Tab.map fun z=>Value.int .u64 z).toArray G Z)]]):=by
 have bn:=mL;have J:=h.pos
 have cu:=h.wl;have U:=F5 h.win
 refine Se func38 ntmps38 [0,1] ?_;intro u R;refine A1<|Ze (Bx #[I0 q.kd,I0 q.tb,I0 q.cl,I0 q.lo,I0 q.hi,I0 q.bq,I0 q.ot,I0 te,I0 base,.slice pg L.length cg])<|AG fun be=>Za Y<|Za Y<|A5 Y<|A1<|Zh 0 G1 V rfl CM Y<|Zo Wh (AB (cs:=q.A95) F1 CM Y B5 (by exact (by apply HX.1;rfl)))<|Xr [_] Y call10 Y V (Ni q hq G Z)<|Zm Y<|Zd Y V<|Zd Y V<|Za Y<|A5 Y<|Zq<|A1<|Zm Y<|Zv (EU (n:=0) Y Y)<|Zm Y<|Ao (t:=22) Y V (fun g1=>?_) (fun g1=>?_);·
  exact absurd V g1
 refine Yf 8 G1 V rfl AE Y<|Yl AH Y<|Xr [_] Y call26 Y V (JJ base) ?_;rw [D2 hb];refine Yg (Br Y)<|Zv (AL Y Y)<|Z0<|Zn [0,3,7,27] ?_;refine Zx<|AQ Y (fun m=>by cases m)<|fun m=>AC<|Zx<|A1<|Zm Y<|Zh 8 G1 V rfl AE Y<|Zl AH Y<|Xr [_,_] Y call55 Y V (O7 J base hb ⟨U,by omega⟩) ?_;rw [An O];refine Zm Y<|Zd Y V<|Zd Y V<|Za Y<|A5 Y<|A1<|Zh 0 G1 V rfl CM Y<|Zo Wh (AB (cs:=#[_,_,_,_,_,_,_]) F1 CM Y B5 (by exact (by apply HX.1;rfl)))<|Zh 9 G1 V rfl N3 Y<|Zl RR Y<|Zc [_,_] Y call79 Y V (X5 hL q K) ?_;rintro _ _ ⟨_,⟨cO,sr,rfl,g,rfl⟩,rfl⟩;obtain ⟨X,I,rfl⟩:=g.form;refine Zm Y<|Zd Y V<|Zd Y V<|Ze (Al GS #[_,_,_])<|AG fun bs=>Xe (Xw B9 #[.slice X r0.rows.length I,I0 r0.val,.bool r0.fnd])<|AW Y<|Zn [3,7,9,10,11,12] ?_;refine Zx<|Zq<|A1<|Zm Y<|Zv (Br Y)<|Zm Y<|Aj (t:=45) Y V (fun g2=>by cases g2)<|fun g2=>Zf Y Y<|Yg (Br Y)<|Zv (AL Y Y)<|A6<|AQ Y (fun B=>?_) (fun B=>?_);·
  refine A1<|Za Y<|Za Y<|A5 Y<|AJ<|Zt<|jk V results38 Y Y Y (by exact ⟨V,V⟩)
 cases B
set_option maxHeartbeats 1000000 in
theorem XM(h:c.ok)(hq:BI q)(te base:Int)(hb:0<=base/\base<=10000)(hL:G6 ME (.slice pg L.length cg) L)(cO:L.length<=1000000)(U:∀x∈L,x.fits)(Z:Es q L=some r0)(af:(c.pos -base).toNat<=c.win.length)(Tp:AK)(zp:Nat×Nat):BS prog 38 #[.pointer (some ⟨c.cp,0,none⟩),.agg #[I0 q.kd,I0 q.tb,I0 q.cl,I0 q.lo,I0 q.hi,I0 q.bq,I0 q.ot,I0 te,I0 base,.slice pg L.length cg]] [[(c.cp,.cells c.A98 95 (0,0))],c.sW,c.M,ME,[(1,.cells (Lib.pow10Tab.map fun z=>Value.int .u64 z).toArray Tp zp)]] (fun w H'=>∃b rq rc wq wc s1 s2,w= .tuple #[.string (str (Bn q)),I1 b,.bool (BA q r0 base (Ct c.pos base c.win)).2.2]/\G6 s1 (.slice rq L.length rc) L/\Di s2 (.slice wq (BA q r0 base (Ct c.pos base c.win)).1.rows.length wc) (BA q r0 base (Ct c.pos base c.win)).1.rows/\H'=[[(c.cp,.cells c.A98 95 (0,0))],c.sW,c.M,ME,[(1,.cells (Lib.pow10Tab.map fun z=>Value.int .u64 z).toArray Tp zp)],[(b,.cells #[I0 q.kd,I0 q.tb,I0 q.cl,I0 q.lo,I0 q.hi,I0 q.bq,I0 q.ot,I0 te,I0 base,.slice rq L.length rc,I0 0,.slice wq (BA q r0 base (Ct c.pos base c.win)).1.rows.length wc,I0 (BA q r0 base (Ct c.pos base c.win)).1.val,.bool (BA q r0 base (Ct c.pos base c.win)).1.fnd,I0 (BA q r0 base (Ct c.pos base c.win)).2.1] 121 (0,0))],s1,s2]):=by
 have ic:=mL;have ek:=h.pos
 have j5:=h.wl;have gq:=F5 h.win
 obtain ⟨wl,m⟩:∃wl,wl=Ct c.pos base c.win:=⟨_,rfl⟩;have G:wl.length=(c.pos -base).toNat:=by rw [m];exact OC af
 have ax:Ee (c.sW++c.M) (.slice (Ec c.wq (c.win.length -(c.pos -base).toNat) c.wc 2) (c.pos -base).toNat (c.wc -(c.win.length -(c.pos -base).toNat))) wl:=by
  have h1:=Nc (a:=c.win.length -(c.pos -base).toNat) (jJ h.tookb) A0;rw [m];rwa [show c.win.length -(c.win.length -(c.pos -base).toNat)=(c.pos -base).toNat by omega]at h1
 obtain ⟨cv,O⟩:∃cv,cv=c.wc -(c.win.length -(c.pos -base).toNat):=⟨_,rfl⟩;obtain ⟨pv,X⟩:∃pv,pv=Ec c.wq (c.win.length -(c.pos -base).toNat) c.wc 2:=⟨_,rfl⟩;rw [<-O,<-X,<-G]at ax;rw [<-m];have K:∀y∈wl,y.cs.length<=1000:=fun y hy=>by
  have:=Rp h.tookb (r:=y) (by rw [m]at hy;exact Kf hy);omega
 obtain ⟨_,j3,gm⟩:=OQ Z;refine Se func38 ntmps38 [0,1] ?_;intro u R;refine A1<|Ze (Bx #[I0 q.kd,I0 q.tb,I0 q.cl,I0 q.lo,I0 q.hi,I0 q.bq,I0 q.ot,I0 te,I0 base,.slice pg L.length cg])<|AG fun be=>Za Y<|Za Y<|A5 Y<|A1<|Zh 0 G1 V rfl CM Y<|Zo Wh (AB (cs:=q.A95) F1 CM Y B5 (by exact (by apply HX.1;rfl)))<|Xr [_] Y call10 Y V (Ni q hq Tp zp)<|Zm Y<|Zd Y V<|Zd Y V<|Za Y<|A5 Y<|Zq<|A1<|Zm Y<|Zv (EU (n:=0) Y Y)<|Zm Y<|Ao (t:=22) Y V (fun g1=>?_) (fun g1=>?_);·
  exact absurd V g1
 refine Yf 8 G1 V rfl AE Y<|Yl AH Y<|Xr [_] Y call26 Y V (JJ base) ?_;rw [D2 hb];refine Yg (Br Y)<|Zv (AL Y Y)<|Z0<|Zn [0,3,7,27] ?_;refine Zx<|AQ Y (fun I=>by cases I)<|fun I=>AC<|Zx<|A1<|Zm Y<|Zh 8 G1 V rfl AE Y<|Zl AH Y<|Xr [_,_] Y call55 Y V (O7 ek base hb ⟨gq,by omega⟩) ?_;rw [As af,<-O,<-X,<-G];refine Zm Y<|Zd Y V<|Zd Y V<|Za Y<|A5 Y<|A1<|Zh 0 G1 V rfl CM Y<|Zo Wh (AB (cs:=#[_,_,_,_,_,_,_]) F1 CM Y B5 (by exact (by apply HX.1;rfl)))<|Zh 9 G1 V rfl N3 Y<|Zl RR Y<|Zc [_,_] Y call79 Y V (X5 hL q Z) ?_;rintro _ _ ⟨_,⟨kv,sr,rfl,B,rfl⟩,rfl⟩;obtain ⟨gy,bn,rfl⟩:=B.form;refine Zm Y<|Zd Y V<|Zd Y V<|Ze (Al GS #[_,_,_])<|AG fun bs=>Xe (Xw B9 #[.slice gy r0.rows.length bn,I0 r0.val,.bool r0.fnd])<|AW Y<|Zn [3,7,9,10,11,12] ?_;refine Zx<|Zq<|A1<|Zm Y<|Zv (Br Y)<|Zm Y<|Aj (t:=45) Y V (fun g2=>by cases g2)<|fun g2=>Zf Y Y<|Yg (Br Y)<|Zv (AL Y Y)<|A6<|AQ Y (fun J=>by cases J)<|fun J=>AC<|Zx<|Zq ?_;have dn:=Cy B A0
 refine Cb (s1:=c.sW) (s2:=c.M) Wo Wo ?_;refine Zg<|Zh 0 G1 V rfl CM Y<|Zo Wh (AB (cs:=#[_,_,_,_,_,_,_]) F1 CM Y B5 (by exact (by apply HX.1;rfl)))<|Zo Wh (AB (cs:=#[_,_,_]) CN B9 Y B5 (BO V))<|Zh 8 G1 V rfl AE Y<|Zl AH Y<|Zm Y<|Zc [_,_,_,_] Y call80 Y V (Qk q hq base A0 ax A0 K dn A0 gm) ?_;rintro _ _ ⟨_,⟨l5,s3,rfl,g,rfl⟩,rfl⟩;obtain ⟨wq,wc,rfl⟩:=g.form;have cu:=Md g
 refine Zm Y<|Zd Y rfl<|Zd Y rfl<|Zd Y rfl<|Xe (BL B9 Y Y Hi Wu (by exact (rfl:_=(#[.slice wq (BA q r0 base wl).1.rows.length wc,I0 (BA q r0 base wl).1.val,.bool (BA q r0 base wl).1.fnd]:AM))) Fi B5 (by exact BC _))<|Za Y<|AW Y<|Zn [3,7,11,12,13] ?_;refine Zx<|Zq<|kQ (s1:=c.sW) (s2:=c.M) (by repeat(first|exact V4.here _|apply V4.there)) ?_;refine Aw (n:=11) (0::0::2::0::0::30::62::0::7::383::1023::[]) 68 AF AF V<|A3 0 V (AO Y)<|FF 1 V Wh (AB (cs:=#[_,_,_,_,_,_,_,_,_,_]) Tr HL Y B5 (BO V))<|FF 3 V Wh (AB (cs:=#[_,_,_]) CN B9 Y B5 (BO V))<|A3 4 V (AO Y)<|A3 7 V (AO Y)<|Zz (l:=[2])<|B7 [true,false] [(3,(_,_))] V rfl (Zw [_] Y call36 Y V (Qs q te base hL cO U)) ?_ Bp Ah;rintro _ _ ⟨_,⟨rq,rc,s1,rfl,d9,rfl⟩,rfl⟩;refine Bk<|A3 5 V (BM (vs:=[(0,.agg #[I0 q.kd,I0 q.tb,I0 q.cl,I0 q.lo,I0 q.hi,I0 q.bq,I0 q.ot,I0 te,I0 base,.slice rq L.length rc]),(2,.agg #[.slice wq (BA q r0 base wl).1.rows.length wc,I0 (BA q r0 base wl).1.val,.bool (BA q r0 base wl).1.fnd]),(3,I0 (BA q r0 base wl).2.1)]) (cs:=#[I0 q.kd,I0 q.tb,I0 q.cl,I0 q.lo,I0 q.hi,I0 q.bq,I0 q.ot,I0 te,I0 base,.slice rq L.length rc,I0 0,.slice wq (BA q r0 base wl).1.rows.length wc,I0 (BA q r0 base wl).1.val,.bool (BA q r0 base wl).1.fnd,I0 (BA q r0 base wl).2.1]) Y (AZ (pl:=#[(0,10),(10,1),(11,3),(14,1)]) zeroValue121 Hv (fun _=>by kernel_rfl) AF))<|A3 8 V (Aq Y)<|Zz (l:=[6])<|B7 [false] [] V rfl (Bx #[I0 q.kd,I0 q.tb,I0 q.cl,I0 q.lo,I0 q.hi,I0 q.bq,I0 q.ot,I0 te,I0 base,.slice rq L.length rc,I0 0,.slice wq (BA q r0 base wl).1.rows.length wc,I0 (BA q r0 base wl).1.val,.bool (BA q r0 base wl).1.fnd,I0 (BA q r0 base wl).2.1]) ?_ (fun _ _ h=>h.elim) Ah;rintro _ _ ⟨b,rfl,rfl⟩;refine Bk<|A3 9 V (Aq Y)<|A3 10 V (Aq Y)<|Ag<|Zx<|AJ<|jk V results38 Y Y Y (by exact ⟨b,rq,rc,wq,wc,s1,s3,V,d9,Cy g cu,V⟩)
variable{base:Int}
theorem Sg{r:C9}{l:List BR}(h:(BA q r base l).2.2=true):GU q base 0 (r,base) l=some ((BA q r base l).1,(BA q r base l).2.1):=Lm h
theorem jI{c:CZ}(h:c.okb){m:List A9}(X:∀q∈c.M,q∈m):∀(i:Nat) (r:BR),c.win[i]?=some r->r.p=c.pos -(c.win.length:Int)+1+(i:Int)/\Cv m (.slice r.q r.cs.length r.cap) r.cs/\EK r.p r.cs:=fun i r Z=>by
 obtain ⟨J,⟨p,cap,e,U,O⟩,K⟩:=h.wp i r Z;refine ⟨J,⟨p,cap,e,U,fun j x hx=>?_⟩,K⟩;obtain ⟨g,off,cur,T,zz,B,G,I⟩:=O j x hx;exact ⟨g,off,cur,T,zz,B,X _ G,I⟩
variable{its:List ItM}
theorem ai{K:Bm}(h:∀y∈its,y.key≠K):(its.filter fun y=>y.key≠K)=its:=cT.2 fun y g=>by simpa using h y g
theorem tf{PL:List Bh}(m:∀k,k∈PL.map (·.key)↔k∈its.map ItM.key)(e:Bh)(x:ItM)(g:e.key=x.key):∀k,k∈(PL++[e]).map (·.key)↔k∈(its++[x]).map ItM.key:=by
 intro k;rw [C0,C0,C2,C2,m k,MA,MA,g]
def Mq(b:Nat)(id:Int)(q:QM)(tn base:Int)(rq:B8)(rc:Nat)(L:List RP)(R:C9×Int×Bool)(wq:B8)(wc:Nat):ItM:=⟨b,id,q,tn,base,rq,rc,L,R.1,wq,wc,R.2.1⟩
variable{wq:B8}{wc:Nat}
theorem fo{b:Nat}{id:Int}(X:BI q){tn:Int}(Z:0<=tn/\tn<=1000000)(U:0<=base/\base<=10000){rq:B8}{rc:Nat}(G:L.length<=1000000)(m:∀x∈L,x.fits)(I:Es q L=some r0)(J:(c.pos -base).toNat<=c.win.length)(B:(BA q r0 base (Ct c.pos base c.win)).2.2=true){K g:List A9}
 (O:G6 K (.slice rq L.length rc) L)(h2:Di g (.slice wq (BA q r0 base (Ct c.pos base c.win)).1.rows.length wc) (BA q r0 base (Ct c.pos base c.win)).1.rows):(Mq b id q tn base rq rc L (BA q r0 base (Ct c.pos base c.win)) wq wc).ok K g c.pos c.win:=
 ⟨X,U,Z,O,G,m,h2,J,r0,I,Sg B⟩
theorem iH(p:B8)(n c:Nat)(v f:A4)(hv:v.oneCell'=true/\v.cells=#[v])(B:f.oneCell'=true/\f.cells=#[f])(G:n<=1000000):BJ prog 40 #[.agg #[.slice p n c,v,f]] [] (I0 (1+(n:Int))):=by
 refine Se func40 ntmps40 [0] ?_;intro u R;refine A1<|Ze (Bx #[_,_,_])<|AG fun g=>A5 Y<|A1<|Zh 0 DS V rfl D3 Y<|Zl GF Y<|Zv (Ab C1 Y)<|Ya (m:=1) Y Y<|A5 Y<|AJ<|AP V results40 Y (by exact ⟨V,V⟩)
variable{k:Nat}
theorem xg(h:c.ok)(hq:BI q)(hk:k<c.ns)(Z:k<=1000000)(base:Int)(X:0<=base/\base<=10000)(U:G6 ME (.slice pg L.length cg) L)(I:L.length<=1000000)(B:∀x∈L,x.fits)(J:Es q L=some r0)(K:¬(c.pos -base).toNat<=c.win.length)(G:AK)(O:Nat×Nat):BS prog 13 #[.pointer (some ⟨c.cp,0,none⟩),.agg #[I0 q.kd,I0 q.tb,I0 q.cl,I0 q.lo,I0 q.hi,I0 q.bq,I0 q.ot,I0 (k:Int),I0 base,.slice pg L.length cg]] [[(c.cp,.cells c.A98 95 (0,0))],c.sW,c.M,ME,[(1,.cells (Lib.pow10Tab.map fun z=>Value.int .u64 z).toArray G O)]] (fun w H'=>w= .bool false/\H'=[[(c.cp,.cells c.A98 95 (0,0))],c.sW,c.M,ME,[(1,.cells (Lib.pow10Tab.map fun z=>Value.int .u64 z).toArray G O)]]):=by
 refine Se func13 ntmps13 [0,1] ?_;intro u R;refine A1<|Ze (Bx #[I0 q.kd,I0 q.tb,I0 q.cl,I0 q.lo,I0 q.hi,I0 q.bq,I0 q.ot,I0 (k:Int),I0 base,.slice pg L.length cg])<|AG fun be=>A5 Y<|Zq<|A1<|Zm Y<|Zv (Bg SM Y Y)<|A6<|AQ Y (fun m=>by cases m)<|fun m=>AC<|Zx<|A1<|Zm Y<|Zo Wh (AB (cs:=#[I0 q.kd,I0 q.tb,I0 q.cl,I0 q.lo,I0 q.hi,I0 q.bq,I0 q.ot,I0 (k:Int),I0 base,.slice pg L.length cg]) Tr HL Y Wn (BO V))<|Zc [_,_] Y call38 Y V (xk h hq (k:Int) base X U I B J K G O) ?_;rintro _ _ ⟨_,⟨rfl,rfl⟩,rfl⟩;refine Zm Y<|Zd Y V<|Zd Y V<|Zd Y V<|Za Y<|Za Y<|AW Y<|Zn [0,3,5,6,7] ?_;refine Zx<|Zq<|A1<|Zm Y<|Zv (Br Y)<|A6<|AQ Y (fun g=>?_) (fun g=>?_);·
  refine A1<|A5 Y<|AJ<|Zt<|AP V results13 Y (by exact ⟨V,V⟩)
 cases g
theorem sH(h:c.ok)(hq:BI q)(hk:k<c.ns)(ax:k<=1000000)(base:Int)(hb:0<=base/\base<=10000)(X:G6 ME (.slice pg L.length cg) L)(J:L.length<=1000000)(B:∀x∈L,x.fits)(K:Es q L=some r0)(O:(c.pos -base).toNat<=c.win.length)(G:(BA q r0 base (Ct c.pos base c.win)).2.2=false)(I:AK)(U:Nat×Nat):BS prog 13 #[.pointer (some ⟨c.cp,0,none⟩),.agg #[I0 q.kd,I0 q.tb,I0 q.cl,I0 q.lo,I0 q.hi,I0 q.bq,I0 q.ot,I0 (k:Int),I0 base,.slice pg L.length cg]] [[(c.cp,.cells c.A98 95 (0,0))],c.sW,c.M,ME,[(1,.cells (Lib.pow10Tab.map fun z=>Value.int .u64 z).toArray I U)]] (fun w H'=>w= .bool false/\H'=[[(c.cp,.cells c.A98 95 (0,0))],c.sW,c.M,ME,[(1,.cells (Lib.pow10Tab.map fun z=>Value.int .u64 z).toArray I U)]]):=by
 refine Se func13 ntmps13 [0,1] ?_;intro u R;refine A1<|Ze (Bx #[I0 q.kd,I0 q.tb,I0 q.cl,I0 q.lo,I0 q.hi,I0 q.bq,I0 q.ot,I0 (k:Int),I0 base,.slice pg L.length cg])<|AG fun be=>A5 Y<|Zq<|A1<|Zm Y<|Zv (Bg SM Y Y)<|A6<|AQ Y (fun m=>by cases m)<|fun m=>AC<|Zx<|A1<|Zm Y<|Zo Wh (AB (cs:=#[I0 q.kd,I0 q.tb,I0 q.cl,I0 q.lo,I0 q.hi,I0 q.bq,I0 q.ot,I0 (k:Int),I0 base,.slice pg L.length cg]) Tr HL Y Wn (BO V))<|Zc [_,_] Y call38 Y V (XM h hq (k:Int) base hb X J B K O I U) ?_;rintro _ _ ⟨_,⟨b,rq,rc,wq,wc,s1,s2,rfl,Z,af,rfl⟩,rfl⟩;rw [G];refine Zm Y<|Zd Y V<|Zd Y V<|Zd Y V<|Za Y<|Za Y<|AW Y<|Zn [0,3,5,6,7] ?_;refine Zx<|Zq<|A1<|Zm Y<|Zv (Br Y)<|A6<|AQ Y (fun g=>?_) (fun g=>?_);·
  refine A1<|A5 Y<|AJ<|Zt<|AP V results13 Y (by exact ⟨V,V⟩)
 cases g
variable{x:ItM}
theorem sF(h:c.ok)(hq:BI q)(hk:k<c.ns)(cu:k<=1000000)(base:Int)(hb:0<=base/\base<=10000)(hL:G6 ME (.slice pg L.length cg) L)(K:L.length<=1000000)(B:∀x∈L,x.fits)(X:Es q L=some r0)(Z:(c.pos -base).toNat<=c.win.length)(G:(BA q r0 base (Ct c.pos base c.win)).2.2=true)(hx:x∈c.its)(af:x.key=str (Bn q))(cO:base<=x.base)(J:AK)(zp:Nat×Nat):BS prog 13 #[.pointer (some ⟨c.cp,0,none⟩),.agg #[I0 q.kd,I0 q.tb,I0 q.cl,I0 q.lo,I0 q.hi,I0 q.bq,I0 q.ot,I0 (k:Int),I0 base,.slice pg L.length cg]] [[(c.cp,.cells c.A98 95 (0,0))],c.sW,c.M,[(c.mi,.map c.esI c.ckI)],c.SI,ME,[(1,.cells (Lib.pow10Tab.map fun z=>Value.int .u64 z).toArray J zp)]] (fun w H'=>w= .bool true/\H'=[[(c.cp,.cells c.A98 95 (0,0))],c.sW,c.M,[(c.mi,.map c.esI c.ckI)],c.SI,ME,[(1,.cells (Lib.pow10Tab.map fun z=>Value.int .u64 z).toArray J zp)]]):=by
 have U:=h.its.get hx;rw [af]at U;have O:(x.b,Obj.cells x.A97 121 (0,0))∈c.SI:=h.its.sub x hx
 refine Se func13 ntmps13 [0,1] ?_;intro u R;refine A1<|Ze (Bx #[I0 q.kd,I0 q.tb,I0 q.cl,I0 q.lo,I0 q.hi,I0 q.bq,I0 q.ot,I0 (k:Int),I0 base,.slice pg L.length cg])<|AG fun be=>A5 Y<|Zq<|A1<|Zm Y<|Zv (Bg SM Y Y)<|A6<|AQ Y (fun m=>by cases m)<|fun m=>AC<|Zx<|A1<|Zm Y<|Zo Wh (AB (cs:=#[I0 q.kd,I0 q.tb,I0 q.cl,I0 q.lo,I0 q.hi,I0 q.bq,I0 q.ot,I0 (k:Int),I0 base,.slice pg L.length cg]) Tr HL Y Wn (BO V))<|Zc [_,_] Y call38 Y V (XM h hq (k:Int) base hb hL K B X Z J zp) ?_;rintro _ _ ⟨_,⟨b,rq,rc,wq,wc,s1,s2,rfl,ax,bn,rfl⟩,rfl⟩;rw [G];refine Zm Y<|Zd Y V<|Zd Y V<|Zd Y V<|Za Y<|Za Y<|AW Y<|Zn [0,3,5,6,7] ?_;refine Zx<|Zq<|A1<|Zm Y<|Zv (Br Y)<|A6<|AQ Y (fun g=>by cases g)<|fun g=>AC<|Zx<|A1<|Zm Y<|Zp Y rfl<|Zh 4 Ft rfl rfl Sf Y<|Zl RK Y<|Zm Y<|Zo Wh (EW (EG HG (D:=fun _=>True)) SJ a8 h.its.im (fun _ _=>trivial) (trivial) (⟨by rw [U];first|done|rfl,by rw [U];first|done|rfl⟩) Y Y)<|Zm Y<|Zd Y rfl<|Zd Y rfl<|Za Y<|AW Y<|Zn [0,3,5,6,8,9] ?_;refine Zx<|Zq<|AR<|Zq<|Aw (n:=12) (0::1::3::7::15::31::63::3::131::511::1023::2047::[]) 0 AF AF V<|A3 0 V (AO Y)<|A3 1 V (AO Y)<|Ce (t:=36) Y (fun I=>?_) (fun I=>?_);·
  rw [I];refine B1 2 V (AO Y)<|B1 3 V (Ak Y V)<|B1 4 V (AA (off:=0) Hv V rfl HL Y)<|B1 5 V (AA (off:=8) G1 V rfl AE Y)<|J2 (D':=127) 6 Y V rfl V (Dy Wo (O)) (BD AH Y Ax) ?_;refine B1 7 V (AA (off:=8) G1 V rfl AE Y)<|DP 8 V Wh (BD AH Y Ax)<|B1 9 V (GV Y Y)<|A3 10 V (AX Y Y)<|A3 11 V (Aq Y)<|Ag<|Zx<|Av Y (fun h3=>?_) (fun h3=>?_);·
   refine A1<|AW Y<|Zn [4] ?_;refine Zx<|AJ<|Ac<|Zt<|AP V results13 Y (by exact ⟨V,V⟩)
  exfalso;omega
 rw [I];cases I
variable{s:List A9}
theorem Ph{b:Nat}{o o':Obj}(h:(b,o)∈s):(b,o')∈IQ b o' s:=C6.2 ⟨_,h,As rfl⟩
theorem VD(b:Nat)(o o':Obj)(s:List A9):IQ b o' (IQ b o s)=IQ b o' s:=by
 unfold IQ;rw [KK];refine Wc fun p _=>?_;show(if(if p.1=b then(b,o)else p).1=b then(b,o')else(if p.1=b then(b,o)else p))=if p.1=b then(b,o')else p
 by_cases h:p.1=b
 · simp only [As h,Hh]
 · simp only [An h]
def ItM.upd(x:ItM)(p:Int)(cs:List Chg)(wq:B8)(wc:Nat):ItM:={x with res:=(Bb x.q x.res cs).1,wq:=wq,wc:=wc,since:=p}
structure ItM.live(MR:List A9)(x:ItM):Prop where
 q:BI x.q
 rw:Di MR (.slice x.wq x.res.rows.length x.wc) x.res.rows
 wn:x.res.rows.length<=10000000
 wv:-2000000000000000000<=x.res.val/\x.res.val<=2000000000000000000
theorem ItM.ok.live(h:c.okb)(I:x.ok c.M c.MR c.pos c.win):x.live c.MR:=by
 obtain ⟨r0,m,g⟩:=I.run;obtain ⟨_,B,G⟩:=OQ m;have X:=h.wl
 have U:(Ct c.pos x.base c.win).length<=64:=by unfold Ct;rw [CH];omega
 have J:=RZ _ 0 (r0,x.base) _ 1000000000000000000 200 g (fun y Z=>by have:=Rp h (r:=y) (Kf Z);omega) G B0 B;have K:x.res.rows.length<=_:=J.2
 have O:_<=x.res.val/\x.res.val<=_:=J.1;exact ⟨I.q,I.rw,by omega,by omega,by omega⟩
variable{d:CZ}{qa:B8}{cap:Nat}{cs:List Chg}{tl:List Bm}{tv:A4}{st:List A9}
set_option maxHeartbeats 1000000 in
theorem pY(h:d.okb)(hx:x∈d.its)(O:x.live d.MR)(p:Int)(hC:Cv ME (.slice qa cs.length cap) cs)(Z:cs.length<=1000)(U:(Bb x.q x.res cs).2.2=true)(hT:Row 9 tv (tl.map Value.string) st)(gq:tl.length<=1000000)(bt br bc:Nat):BS prog 47 #[.string x.key,.pointer (some ⟨x.b,0,none⟩),I1 bt,I1 br,I1 bc] [[(bt,.cells #[tv] 52 (0,0))],[(br,.cells #[I0 p,.slice qa cs.length cap] 57 (0,0))],[(bc,.cells #[.pointer (some ⟨d.cp,0,none⟩)] 29 (0,0))],st,[(d.cp,.cells d.A98 95 (0,0))],d.sW,d.z.S,[(d.mb,.map d.esP d.ckP)],d.su,[(d.ip,.cells #[.map (some d.mq),d.lv] 165 (0,0))],[(d.mq,.map d.esQ d.ckQ)],d.ML,[(d.mi,.map d.esI d.ckI)],[(d.mkb,.map d.esK d.ckK)],d.SI,d.M,d.MR,ME] (fun v H'=>v=undef/\∃wq wc cO cu s,Row 9 cO ((tl++[x.key]).map Value.string) cu/\Di s (.slice wq (Bb x.q x.res cs).1.rows.length wc) (Bb x.q x.res cs).1.rows/\(d.SI.map (·.1)).Nodup/\H'=[[(bt,.cells #[cO] 52 (0,0))],[(br,.cells #[I0 p,.slice qa cs.length cap] 57 (0,0))],[(bc,.cells #[.pointer (some ⟨d.cp,0,none⟩)] 29 (0,0))],cu,[(d.cp,.cells d.A98 95 (0,0))],d.sW,d.z.S,[(d.mb,.map d.esP d.ckP)],d.su,[(d.ip,.cells #[.map (some d.mq),d.lv] 165 (0,0))],[(d.mq,.map d.esQ d.ckQ)],d.ML,[(d.mi,.map d.esI d.ckI)],[(d.mkb,.map d.esK d.ckK)],IQ x.b (x.upd p cs wq wc).obj d.SI,d.M,s++d.MR,ME]):=by
 have gm:=mL;have B:(x.b,Obj.cells x.A97 121 (0,0))∈d.SI:=h.its.sub x hx
 obtain ⟨gt,ct,rfl⟩:=hT.form;refine Se func47 ntmps47 [0,1,2,3,4] ?_;intro u R;refine Zq<|H7 (s:=d.SI) Wo (fun af=>?_);refine Zg<|Zl LS Y<|Zm Y<|Ze (Ai (vs:=[_]) (cs:=[_]) DH Fk HT Y V rfl V rfl V)<|AG fun gb=>Ze (Dk (by_:=16) (news:=[_]) DH (V:Tryz.prog.info? 9=some Tryz.t9) V rfl V rfl Y hT Y Wo Wh Ax V G0 B0 (by(simp only [B6];omega)) (by(simp only [B6];omega))) ?_;rintro _ _ ⟨ax,K,rfl⟩;obtain ⟨ek,dn,rfl⟩:=K.form;refine Xe (Zs IF Y Y V)<|A6<|Zq<|Aw (n:=19) (0::1::3::7::15::0::32::96::224::0::1023::2047::4095::4095::4095::0::40959::114687::262143::[]) 99328 AF AF V<|A3 0 V (AO Y)<|A3 1 V (Ak Y V)<|A3 2 V (AA (off:=0) Hv V rfl HL Y)<|A3 3 V (Ap (off:=0) G1 V rfl CM Y)<|CV (D':=31) 4 V rfl V (Dy Wo (B)) (AB (cs:=#[_,_,_,_,_,_,_]) F1 CM Y B5 (by exact (by apply HX.1;rfl))) ?_;refine A3 5 V (AO Y)<|A3 6 V (Ak Y V)<|A3 7 V (AA (off:=11) Hv V rfl B9 Y)<|CV (D':=511) 8 V rfl V (Dy Wo (B)) (AB (cs:=#[_,_,_]) CN B9 Y B5 (by exact (by apply HX.1;rfl))) ?_;refine FF 9 V Wh (AB (cs:=#[_,_]) IH G3 Y B5 (BO V))<|Zz (l:=[10,15])<|B7 [false,false,false] [] V rfl (Zw [_,_,_] Y call48 Y V (JO x.q O.q p qa cap cs hC Z O.rw O.wn O.wv)) ?_ Bp ?_;·
  rintro _ _ ⟨_,⟨d9,s3,rfl,g,rfl⟩,rfl⟩;refine ⟨AY,?_⟩;obtain ⟨G,m,rfl⟩:=g.form;rw [U];refine A3 11 V (AO Y)<|A3 12 V (CE Y V)<|A3 13 V (CE Y V)<|A3 14 V (CE Y V)<|Zz (l:=[15])<|B7 [] [] V rfl (Al GS #[_,_,_]) ?_ (fun _ _ h=>h.elim) Ah;rintro _ _ ⟨bn,rfl,rfl⟩;refine Bk<|Yw 16 131071 V (Xw B9 #[.slice G (Bb x.q x.res cs).1.rows.length m,I0 (Bb x.q x.res cs).1.val,.bool (Bb x.q x.res cs).1.fnd])<|D0<|A3 17 V (Aq Y)<|A3 18 V (Aq Y)<|Ag<|Zn [0,1,3,4,7,9] ?_;refine Zx<|Zq<|A1<|Zm Y<|Zv (Br Y)<|A6<|AQ Y (fun I=>by cases I)<|fun I=>AC<|Zx ?_;have X:=Md g
  have J:(x.b,Obj.cells #[I0 x.q.kd,I0 x.q.tb,I0 x.q.cl,I0 x.q.lo,I0 x.q.hi,I0 x.q.bq,I0 x.q.ot,I0 x.tn,I0 x.base,.slice x.rq x.L.length x.rc,I0 x.id,.slice G (Bb x.q x.res cs).1.rows.length m,I0 (Bb x.q x.res cs).1.val,.bool (Bb x.q x.res cs).1.fnd,I0 x.since] 121 (0,0))∈IQ x.b (.cells #[I0 x.q.kd,I0 x.q.tb,I0 x.q.cl,I0 x.q.lo,I0 x.q.hi,I0 x.q.bq,I0 x.q.ot,I0 x.tn,I0 x.base,.slice x.rq x.L.length x.rc,I0 x.id,.slice G (Bb x.q x.res cs).1.rows.length m,I0 (Bb x.q x.res cs).1.val,.bool (Bb x.q x.res cs).1.fnd,I0 x.since] 121 (0,0)) d.SI:=Ph B;refine Cb (s1:=s3) (s2:=d.MR) Wo Wo ?_;refine Aw (n:=11) (0::0::0::0::8::5::37::101::255::511::1023::[]) 1152 AF AF rfl<|A3 0 rfl (AO Y)<|A3 1 rfl (AO Y)<|FF 2 rfl Wh (AB (cs:=#[_,_,_]) CN B9 Y B5 (BO rfl))<|A3 3 rfl (AA (off:=0) HF rfl rfl AE Y)<|BE 4 rfl AH Y<|A3 5 rfl (Ak Y rfl)<|A3 6 rfl (AA (off:=11) Hv rfl rfl B9 Y)<|Zz (l:=[7])<|B7 [true,false] [(4,(_,_))] rfl rfl (OD B9 Y Y Hi Wo (B) (by exact congrArg (fun a=>IQ x.b (Obj.cells a 121 (0,0)) d.SI) (rfl:_=(#[I0 x.q.kd,I0 x.q.tb,I0 x.q.cl,I0 x.q.lo,I0 x.q.hi,I0 x.q.bq,I0 x.q.ot,I0 x.tn,I0 x.base,.slice x.rq x.L.length x.rc,I0 x.id,.slice G (Bb x.q x.res cs).1.rows.length m,I0 (Bb x.q x.res cs).1.val,.bool (Bb x.q x.res cs).1.fnd,I0 x.since]:AM))) Fi B5 (by exact BC _)) ?_ (fun _ _ h=>h.elim) Ah;rintro _ _ ⟨rfl,rfl⟩;refine Bk<|A3 8 V (Ak Y V)<|A3 9 V (AA (off:=14) Hv V rfl AE Y)<|Zz (l:=[10])<|B7 [false] [] V rfl (Fh AE Y Y V Wo (J) (by exact (VD _ _ _ _).trans (congrArg (fun a=>IQ x.b (Obj.cells a 121 (0,0)) d.SI) (V:_=(#[I0 x.q.kd,I0 x.q.tb,I0 x.q.cl,I0 x.q.lo,I0 x.q.hi,I0 x.q.bq,I0 x.q.ot,I0 x.tn,I0 x.base,.slice x.rq x.L.length x.rc,I0 x.id,.slice G (Bb x.q x.res cs).1.rows.length m,I0 (Bb x.q x.res cs).1.val,.bool (Bb x.q x.res cs).1.fnd,I0 p]:AM)))) B5 (by exact BC _)) ?_ (fun _ _ h=>h.elim) Ah;rintro _ _ ⟨rfl,rfl⟩
  refine Bk<|Ag<|Cc rfl results47 (by exact ⟨rfl,G,m,_,ax,s3,(by rw [C0];exact K),Cy g X,af,rfl⟩)
 refine B7 [true,true,true] [(9,(_,_)),(8,(_,_)),(4,(_,_))] V rfl (Al GS #[_,_,_]) ?_ (fun _ _ h=>h.elim) Ah;rintro _ _ ⟨bn,rfl,rfl⟩;refine ⟨Zk (Ey (by simp [*]) (Ey (by simp [*]) (AY))),?_⟩;refine Zz (l:=[10])<|B7 [false,false,false] [] V rfl (Zw [_,_,_] Y call48 Y V (JO x.q O.q p qa cap cs hC Z O.rw O.wn O.wv)) ?_ Bp Ah;rintro _ _ ⟨_,⟨d9,s3,rfl,g,rfl⟩,rfl⟩;refine ⟨AY,?_⟩;obtain ⟨G,m,rfl⟩:=g.form;rw [U];refine A3 11 V (AO Y)<|A3 12 V (CE Y V)<|A3 13 V (CE Y V)<|A3 14 V (CE Y V)<|Zz (l:=[16])<|B7 [] [] V rfl (Xw B9 #[.slice G (Bb x.q x.res cs).1.rows.length m,I0 (Bb x.q x.res cs).1.val,.bool (Bb x.q x.res cs).1.fnd]) ?_ (fun _ _ h=>h.elim) Ah;rintro _ _ ⟨rfl,rfl⟩;refine Bk<|A3 17 V (Aq Y)<|A3 18 V (Aq Y)<|Ag<|Zn [0,1,3,4,7,9] ?_;refine Zx<|Zq<|A1<|Zm Y<|Zv (Br Y)<|A6<|AQ Y (fun I=>by cases I)<|fun I=>AC<|Zx ?_;have X:=Md g
 have J:(x.b,Obj.cells #[I0 x.q.kd,I0 x.q.tb,I0 x.q.cl,I0 x.q.lo,I0 x.q.hi,I0 x.q.bq,I0 x.q.ot,I0 x.tn,I0 x.base,.slice x.rq x.L.length x.rc,I0 x.id,.slice G (Bb x.q x.res cs).1.rows.length m,I0 (Bb x.q x.res cs).1.val,.bool (Bb x.q x.res cs).1.fnd,I0 x.since] 121 (0,0))∈IQ x.b (.cells #[I0 x.q.kd,I0 x.q.tb,I0 x.q.cl,I0 x.q.lo,I0 x.q.hi,I0 x.q.bq,I0 x.q.ot,I0 x.tn,I0 x.base,.slice x.rq x.L.length x.rc,I0 x.id,.slice G (Bb x.q x.res cs).1.rows.length m,I0 (Bb x.q x.res cs).1.val,.bool (Bb x.q x.res cs).1.fnd,I0 x.since] 121 (0,0)) d.SI:=Ph B;refine Cb (s1:=s3) (s2:=d.MR) Wo Wo ?_;refine Aw (n:=11) (0::0::0::0::8::5::37::101::255::511::1023::[]) 1152 AF AF rfl<|A3 0 rfl (AO Y)<|A3 1 rfl (AO Y)<|FF 2 rfl Wh (AB (cs:=#[_,_,_]) CN B9 Y B5 (BO rfl))<|A3 3 rfl (AA (off:=0) HF rfl rfl AE Y)<|BE 4 rfl AH Y<|A3 5 rfl (Ak Y rfl)<|A3 6 rfl (AA (off:=11) Hv rfl rfl B9 Y)<|Zz (l:=[7])<|B7 [true,false] [(4,(_,_))] rfl rfl (OD B9 Y Y Hi Wo (B) (by exact congrArg (fun a=>IQ x.b (Obj.cells a 121 (0,0)) d.SI) (rfl:_=(#[I0 x.q.kd,I0 x.q.tb,I0 x.q.cl,I0 x.q.lo,I0 x.q.hi,I0 x.q.bq,I0 x.q.ot,I0 x.tn,I0 x.base,.slice x.rq x.L.length x.rc,I0 x.id,.slice G (Bb x.q x.res cs).1.rows.length m,I0 (Bb x.q x.res cs).1.val,.bool (Bb x.q x.res cs).1.fnd,I0 x.since]:AM))) Fi B5 (by exact BC _)) ?_ (fun _ _ h=>h.elim) Ah;rintro _ _ ⟨rfl,rfl⟩;refine Bk<|A3 8 V (Ak Y V)<|A3 9 V (AA (off:=14) Hv V rfl AE Y)<|Zz (l:=[10])<|B7 [false] [] V rfl (Fh AE Y Y V Wo (J) (by exact (VD _ _ _ _).trans (congrArg (fun a=>IQ x.b (Obj.cells a 121 (0,0)) d.SI) (V:_=(#[I0 x.q.kd,I0 x.q.tb,I0 x.q.cl,I0 x.q.lo,I0 x.q.hi,I0 x.q.bq,I0 x.q.ot,I0 x.tn,I0 x.base,.slice x.rq x.L.length x.rc,I0 x.id,.slice G (Bb x.q x.res cs).1.rows.length m,I0 (Bb x.q x.res cs).1.val,.bool (Bb x.q x.res cs).1.fnd,I0 p]:AM)))) B5 (by exact BC _)) ?_ (fun _ _ h=>h.elim) Ah;rintro _ _ ⟨rfl,rfl⟩
 refine Bk<|Ag<|Cc rfl results47 (by exact ⟨rfl,G,m,_,ax,s3,(by rw [C0];exact K),Cy g X,af,rfl⟩)
set_option maxHeartbeats 1000000 in
theorem pu(h:d.okb)(hx:x∈d.its)(G:x.live d.MR)(p:Int)(hC:Cv ME (.slice qa cs.length cap) cs)(cu:cs.length<=1000)(I:(Bb x.q x.res cs).2.2=false)(hT:Row 9 tv (tl.map Value.string) st)(gq:tl.length<=1000000)(bt br bc:Nat):BS prog 47 #[.string x.key,.pointer (some ⟨x.b,0,none⟩),I1 bt,I1 br,I1 bc] [[(bt,.cells #[tv] 52 (0,0))],[(br,.cells #[I0 p,.slice qa cs.length cap] 57 (0,0))],[(bc,.cells #[.pointer (some ⟨d.cp,0,none⟩)] 29 (0,0))],st,[(d.cp,.cells d.A98 95 (0,0))],d.sW,d.z.S,[(d.mb,.map d.esP d.ckP)],d.su,[(d.ip,.cells #[.map (some d.mq),d.lv] 165 (0,0))],[(d.mq,.map d.esQ d.ckQ)],d.ML,[(d.mi,.map d.esI d.ckI)],[(d.mkb,.map d.esK d.ckK)],d.SI,d.M,d.MR,ME] (fun v H'=>v=undef/\∃(d2:CZ) (tv':A4) (st':List A9),d2.okb/\d.like d2/\d2.next=d.next/\(d2.M=d.M/\d2.MR=d.MR)/\d2.SI=d.SI/\d2.its=(d.its.filter fun y=>y.key≠x.key)/\(∀e∈d2.PL,e∈d.PL)/\Row 9 tv' ((tl++[x.key]).map Value.string) st'/\H'=[[(bt,.cells #[tv'] 52 (0,0))],[(br,.cells #[I0 p,.slice qa cs.length cap] 57 (0,0))],[(bc,.cells #[.pointer (some ⟨d.cp,0,none⟩)] 29 (0,0))],st',[(d2.cp,.cells d2.A98 95 (0,0))],d2.sW,d2.z.S,[(d2.mb,.map d2.esP d2.ckP)],d2.su,[(d2.ip,.cells #[.map (some d2.mq),d2.lv] 165 (0,0))],[(d2.mq,.map d2.esQ d2.ckQ)],d2.ML,[(d2.mi,.map d2.esI d2.ckI)],[(d2.mkb,.map d2.esK d2.ckK)],d2.SI,d2.M,d2.MR,ME]):=by
 have gm:=mL;have ax:(x.b,Obj.cells x.A97 121 (0,0))∈d.SI:=h.its.sub x hx
 obtain ⟨gt,ct,rfl⟩:=hT.form;refine Se func47 ntmps47 [0,1,2,3,4] ?_;intro u R;refine A1<|Zl LS Y<|Zm Y<|Ze (Ai (vs:=[_]) (cs:=[_]) DH Fk HT Y V rfl V rfl V)<|AG fun gb=>Ze (Dk (by_:=16) (news:=[_]) DH (V:Tryz.prog.info? 9=some Tryz.t9) V rfl V rfl Y hT Y Wo Wh Ax V G0 B0 (by(simp only [B6];omega)) (by(simp only [B6];omega))) ?_;rintro _ _ ⟨cO,B,rfl⟩;obtain ⟨ek,dn,rfl⟩:=B.form;refine Xe (Zs IF Y Y V)<|A6<|Zq<|Aw (n:=19) (0::1::3::7::15::0::32::96::224::0::1023::2047::4095::4095::4095::0::40959::114687::262143::[]) 99328 AF AF V<|A3 0 V (AO Y)<|A3 1 V (Ak Y V)<|A3 2 V (AA (off:=0) Hv V rfl HL Y)<|A3 3 V (Ap (off:=0) G1 V rfl CM Y)<|CV (D':=31) 4 V rfl V (Dy Wo (ax)) (AB (cs:=#[_,_,_,_,_,_,_]) F1 CM Y B5 (by exact (by apply HX.1;rfl))) ?_;refine A3 5 V (AO Y)<|A3 6 V (Ak Y V)<|A3 7 V (AA (off:=11) Hv V rfl B9 Y)<|CV (D':=511) 8 V rfl V (Dy Wo (ax)) (AB (cs:=#[_,_,_]) CN B9 Y B5 (by exact (by apply HX.1;rfl))) ?_;refine FF 9 V Wh (AB (cs:=#[_,_]) IH G3 Y B5 (BO V))<|Zz (l:=[10,15])<|B7 [false,false,false] [] V rfl (Zw [_,_,_] Y call48 Y V (JO x.q G.q p qa cap cs hC cu G.rw G.wn G.wv)) ?_ Bp ?_;·
  rintro _ _ ⟨_,⟨d9,s3,rfl,g,rfl⟩,rfl⟩;refine ⟨AY,?_⟩;obtain ⟨w3,c3,rfl⟩:=g.form;rw [I];refine A3 11 V (AO Y)<|A3 12 V (CE Y V)<|A3 13 V (CE Y V)<|A3 14 V (CE Y V)<|Zz (l:=[15])<|B7 [] [] V rfl (Al GS #[_,_,_]) ?_ (fun _ _ h=>h.elim) Ah;rintro _ _ ⟨bn,rfl,rfl⟩;refine Bk<|Yw 16 131071 V (Xw B9 #[.slice w3 (Bb x.q x.res cs).1.rows.length c3,I0 (Bb x.q x.res cs).1.val,.bool (Bb x.q x.res cs).1.fnd])<|D0<|A3 17 V (Aq Y)<|A3 18 V (Aq Y)<|Ag<|Zn [0,1,3,4,7,9] ?_;refine Zx<|Zq<|A1<|Zm Y<|Zv (Br Y)<|A6<|AQ Y (fun m=>?_) (fun m=>?_);·
   refine A1<|Zl Kd Y<|Zm Y<|Zc [_,_] Y call49 Y V (Xn h hx) ?_;rintro _ _ ⟨_,⟨rfl,d2,J,K,O,U,X,_,Z,af,rfl⟩,rfl⟩;refine A6<|AJ<|Zt<|Cc rfl results47 (by exact ⟨rfl,d2,_,cO,J,K,O,U,X,Z,af,(by rw [C0];exact B),rfl⟩)
  cases m
 refine B7 [true,true,true] [(9,(_,_)),(8,(_,_)),(4,(_,_))] V rfl (Al GS #[_,_,_]) ?_ (fun _ _ h=>h.elim) Ah;rintro _ _ ⟨bn,rfl,rfl⟩;refine ⟨Zk (Ey (by simp [*]) (Ey (by simp [*]) (AY))),?_⟩;refine Zz (l:=[10])<|B7 [false,false,false] [] V rfl (Zw [_,_,_] Y call48 Y V (JO x.q G.q p qa cap cs hC cu G.rw G.wn G.wv)) ?_ Bp Ah;rintro _ _ ⟨_,⟨d9,s3,rfl,g,rfl⟩,rfl⟩;refine ⟨AY,?_⟩;obtain ⟨w3,c3,rfl⟩:=g.form;rw [I];refine A3 11 V (AO Y)<|A3 12 V (CE Y V)<|A3 13 V (CE Y V)<|A3 14 V (CE Y V)<|Zz (l:=[16])<|B7 [] [] V rfl (Xw B9 #[.slice w3 (Bb x.q x.res cs).1.rows.length c3,I0 (Bb x.q x.res cs).1.val,.bool (Bb x.q x.res cs).1.fnd]) ?_ (fun _ _ h=>h.elim) Ah;rintro _ _ ⟨rfl,rfl⟩;refine Bk<|A3 17 V (Aq Y)<|A3 18 V (Aq Y)<|Ag<|Zn [0,1,3,4,7,9] ?_;refine Zx<|Zq<|A1<|Zm Y<|Zv (Br Y)<|A6<|AQ Y (fun m=>?_) (fun m=>?_);·
  refine A1<|Zl Kd Y<|Zm Y<|Zc [_,_] Y call49 Y V (Xn h hx) ?_;rintro _ _ ⟨_,⟨rfl,d2,J,K,O,U,X,_,Z,af,rfl⟩,rfl⟩;refine A6<|AJ<|Zt<|Cc rfl results47 (by exact ⟨rfl,d2,_,cO,J,K,O,U,X,Z,af,(by rw [C0];exact B),rfl⟩)
 cases m
theorem bF{P:Program}{f:FuncId}{args:AM}{A B g:List A9}{Q:A4->List A9->Prop}(G:s.Perm (A++(B++g)))(h:BS P f args [A,B] (fun r H'=>∃m,Q r m/\H'=[A,B,m])):BS P f args [s] (fun r H'=>∃m,Q r m/\H'=[s,m]):=fun u R w J=>by
 have I:Sat u ([A,B]++([g]++R)) w:=J.perm (by
  simp only [Pc,LN,CC];have:=G.append_right R.flatten
  simpa only [Cd]using this)
 refine (h u ([g]++R) w I).mono ?_;rintro e K (⟨v,H',rfl,⟨m,hq,rfl⟩,hsat⟩|⟨_,_,_,h,_⟩)
 · refine .inl ⟨v,_,rfl,⟨m,hq,rfl⟩,hsat.perm ?_⟩
   simp only [Pc,LN,CC];have e1:(A++(B++(m++(g++R.flatten)))).Perm ((A++(B++g))++(m++R.flatten)):=by
    simp only [Cd];refine Rg A (Rg B ?_);rw [<-Cd,<-Cd];exact Lo.append_right _
   exact e1.trans (G.symm.append_right _)
 · exact h.elim
theorem sL{a b:A9}(O:(s.map (·.1)).Nodup)(J:a∈s)(K:b∈s)(m:a.1≠b.1):∃g,s.Perm ([a]++([b]++g)):=by
 obtain ⟨X,Y,rfl⟩:=Wf J;have B:b∈X++Y:=by
  rcases C2.1 K with h|h
  · exact Ek _ h
  · rcases DB.1 h with h|h
    · exact absurd (by rw [h]) m
    · exact GB _ h
 obtain ⟨G,I,h2⟩:=Wf B;refine ⟨G++I,Nd.trans (List.Perm.cons a ?_)⟩;rw [h2];exact Nd
noncomputable def JE(c:CZ)(k:Bm):Bool:=@decide (∃x∈c.its,x.key=k/\x.base<c.pos -64) (Classical.propDecidable _)
def vf(c:CZ)(pre:List Bm)(s:List A9):Prop:=∃d:CZ,d.okb/\d.cp=c.cp/\d.mi=c.mi/\d.pos=c.pos/\(∀y,y∈d.its↔y∈c.its/\y.key∉pre)/\(d.cp,Obj.cells d.A98 95 (0,0))∈s/\(d.mi,Obj.map d.esI d.ckI)∈s/\∀q∈d.SI,q∈s
def bg(c:CZ)(p:List Bm):Prop:=∃zs:List Bm,zs.Perm (c.its.map ItM.key)/\∃post,zs.filter (JE c)=p++post
def WY(c:CZ)(ys:List Bm):Prop:=∃zs:List Bm,zs.Perm (c.its.map ItM.key)/\ys=zs.filter (JE c)
theorem Pk(G:(c.its.map ItM.key).Nodup)(g:x∈c.its):JE c x.key=true↔x.base<c.pos -64:=by
 unfold JE;rw [@decide_eq_true_eq _ (Classical.propDecidable _)];constructor
 · rintro ⟨y,I,B,m⟩
   rwa [Gd G I g B]at m
 · intro h;exact ⟨x,g,rfl,h⟩
theorem ag{α:Type}{l:List α}{f:α->Bool}{i:Nat}{x:α}(h:l[i]?=some x):(l.take (i+1)).filter f=(l.take i).filter f++(if f x=true then [x]else [])/\∃post,l.filter f=(l.take i).filter f++(if f x=true then [x]else [])++post:=by
 have e:(l.take (i+1)).filter f=(l.take i).filter f++(if f x=true then [x]else []):=by
  rw [Bl h,Hj];congr 1;by_cases g:f x=true;· rw [As g,List.filter_cons_of_pos g];rfl
  · rw [An g,lj g];rfl
 refine ⟨e,(l.drop (i+1)).filter f,?_⟩;rw [<-e,<-Hj,K1]
theorem dP{l:List Bm}(g:l.Nodup){i:Nat}{x:Bm}(h:l[i]?=some x)(f:Bm->Bool):x∉(l.take i).filter f:=fun I=>by
 have m:=(FG.1 I).1;have h2:l=l.take i++x::l.drop (i+1):=by
  obtain ⟨B,G⟩:=C4.1 h;rw [<-G,<-RW B,K1]
 rw [h2,Ge]at g;exact g.2.2 x m x (E3 ..) V
theorem vW(h:c.okb)(I:(s.map (·.1)).Nodup)(g:(c.cp,Obj.cells c.A98 95 (0,0))∈s)(h2:(c.mi,Obj.map c.esI c.ckI)∈s):BS prog 17 #[.pointer (some ⟨c.cp,0,none⟩)] [s] (fun r H'=>∃m,(∃zs:List Bm,zs.Perm (c.its.map ItM.key)/\(zs.Pairwise fun x y=>x.data.toList<=y.data.toList)/\Row 9 r (zs.map Value.string) m)/\H'=[s,m]):=by
 have G:c.cp≠c.mi:=fun O=>by
  have B:=Gd I g h2 O;injection B with _ B
  cases B
 obtain ⟨J,U⟩:=sL I g h2 G;refine bF U ((O3 h).mono ?_);rintro r H' ⟨zs,m,g,h2,K,rfl⟩;exact ⟨m,⟨zs,g,h2,K⟩,V⟩
theorem dV(c:CZ):BS prog 51 #[.pointer (some ⟨c.cp,0,none⟩)] [] (fun r H'=>∃g,r= .func (.func 103) #[] #[I1 g]/\H'=[[(g,.cells #[.pointer (some ⟨c.cp,0,none⟩)] 29 (0,0))]]):=by
 refine Se func51 ntmps51 [0] ?_;intro u R;refine A1<|Ze (Bx #[_])<|AG fun g=>A5 Y<|A1<|Zv (Bf (vs:=[]) (us:=[_]) Y Y)<|A5 Y<|AJ<|AP V results51 Y (by exact ⟨g,V,V⟩)
set_option maxHeartbeats 1000000 in
theorem dX(h:c.okb)(bc:Nat):KY prog 103 #[I1 bc] [[(bc,.cells #[.pointer (some ⟨c.cp,0,none⟩)] 29 (0,0))]] (vf c) (fun x:Bm=>#[.string x]) (bg c) (WY c):=by
 intro l J hA hy s K;obtain ⟨d0,af,O,o9,p8,bn,ek,gq,p9⟩:=hA _ _ K;have U:(d0.its.map ItM.key).Perm (c.its.map ItM.key):=(N6 af.its.keys h.its.keys).2 fun a=>by
  simp only [C6,bn,Pr,not_false_eq_true,fL]
 have pg:=h.its.len;have cu:=h.its.keys
 refine Se func103 ntmps103 [0,1] ?_;intro u R;refine Zq<|H7 (s:=s) Wo (fun l5=>?_);rw [<-O];refine Zg<|Zl Kd Y ?_;refine Zc [_] Y call17 Y V (vW af l5 ek gq) ?_;rintro _ _ ⟨_,⟨sk,⟨zs,g,q9,Z⟩,rfl⟩,rfl⟩;replace g:=g.trans U;have l9:=g.length_eq
 rw [B6]at l9;have o8:zs.Nodup:=g.nodup_iff.2 cu
 obtain ⟨pk,ck,rfl⟩:=Z.form;simp only [B6];rw [B6]at Z;refine Zv (Ab DH Y)<|Zm Y<|A6<|AR<|Zb [8,0,1,6,7] ?_;refine BF (e0:=[(8,_)]) (fun m e H=>∃(i:Nat) (s:List A9),m=zs.length -i/\(i<=zs.length/\J ((zs.take i).filter (JE c)) s)/\e=[(8,I0 (i:Int))]/\H=[s]) (by exact ⟨0,s,V,⟨C7 _,K⟩,V,V⟩) Wp ?_;rintro _ _ _ ⟨i,s,rfl,⟨hi,K⟩,rfl,rfl⟩;refine A1<|Zv (Ay Y Y)<|A6<|Zq<|Av Y (fun X=>?_) (fun X=>?_);·
  obtain ⟨k,hk⟩:∃k,zs[i]?=some k:=⟨_,BT A0⟩;obtain ⟨x,hx,rfl⟩:=C6.1 (g.mem_iff.1 (DO hk));obtain ⟨ax,post,G⟩:=ag (f:=JE c) hk;have kv:=dP o8 hk (JE c)
  obtain ⟨d,hd,j3,pq,cO,j5,hC,hM,hS⟩:=hA _ _ K;have dn:x∈d.its:=(j5 x).2 ⟨hx,kv⟩
  have hg:=hd.its.get dn;have gy:(x.b,Obj.cells x.A97 121 (0,0))∈s:=hS _ (hd.its.sub x dn)
  have d9:=Pk cu hx;rw [show d.cp=d0.cp from j3.trans O.symm]at hC;have pz:zs[i]?=some x.key:=hk
  rcases Z with⟨_,h0,_⟩|⟨gk,capk,curk,zk,hvk,rfl,hlek,hcmk,hcsk,htkk,hfrk⟩
  · simp at h0;subst h0;simp at X
  injection hvk with hv1 hv2 hv3
  subst hv1 hv3;have ic:curk[i]?=some (.string x.key):=by
   have h:=congrArg (fun l=>l[i]?) htkk;simp only [HH,B6,As X,DQ,hk]at h;simpa using h
  refine AC<|Zx<|Zq<|AR<|A1<|BZ (BU DH Fk Y Y (by first|omega|(simp;omega)))<|Zl HO Y (hv:=by exact ic) ?_;refine A5 Y<|Zq<|Aw (n:=22) (0::1::3::7::0::31::63::127::255::511::0::1024::3072::7168::15360::32767::65535::131071::131071::524287::1048575::2097151::[]) 524288 AF AF V<|BE 0 V Kd Y ?_;refine A3 1 V (Ak Y V)<|A3 2 V (AA (off:=4) Ft V rfl Sf Y)<|CV (D':=15) 3 V rfl V (Dy Wo (hC)) (BD RK Y Ax) ?_;refine A3 4 rfl (AO Y)<|CV (D':=63) 5 rfl rfl rfl (Dy Wo (hM)) (Dp (EG HG (D:=fun _=>True)) SJ a8 hd.its.im (fun _ _=>trivial) (trivial) (by rw [hg];first|done|rfl) Y Y) ?_;refine A3 6 V (Ak Y V)<|A3 7 V (AA (off:=0) Hv V rfl HL Y)<|A3 8 V (Ap (off:=8) G1 V rfl AE Y)<|CV (D':=1023) 9 V rfl V (Dy Wo (gy)) (BD AH Y Ax) ?_;refine BE 10 V Kd Y ?_;refine A3 11 V (Ak Y V)<|A3 12 V (AA (off:=0) Ft V rfl AE Y)<|CV (D':=16383) 13 V rfl V (Dy Wo (hC)) (BD AH Y Ax) ?_
  (refine Dn (D':=32767) 14 (FU Y Y (IntWalk.i64_in _ ?_)) ?_;(focus (have:=hd.pos;omega)))
  refine A3 15 V (EI Y Y)<|A3 16 V (AO Y)<|DD (t:=28) Y (fun B=>?_) (fun B=>?_);·
   rw [D2 B];have I:JE c x.key=true:=d9.2 (by rw [<-cO];exact B)
   rw [As I]at G;have l8:=hy _ x.key s ⟨zs,g,post,G⟩ K
   refine B1 17 V (AO Y)<|B1 18 V (AO Y)<|Yw 19 1048575 V (Ff (vs:=[_]) Y Y (l8) Wp) ?_;rintro _ _ ⟨_,⟨s',rfl,rfl,gm⟩,rfl⟩;refine B1 20 V (Br Y)<|A3 21 V (AX Y Y)<|Ag<|Zn [0,1,6,7,8,33] ?_;refine Zx<|AQ Y (fun hb=>by cases hb)<|fun hb=>AC<|A8<|Zx<|Zg<|Ya (n:=1) Y Y<|Zm Y<|Z0<|Zn [8,0,1,6,7] ?_;refine Aa (e':=[(8,_)]) (by exact ⟨i+1,s',rfl,⟨by omega,by rw [ax,As I];exact gm⟩,rfl,rfl⟩)
  rw [Cl B];have I:¬JE c x.key=true:=fun h9=>B (by rw [cO];exact d9.1 h9)
  refine AN 17 V<|AN 18 V<|AN 19 V<|AN 20 V<|A3 21 V (AL Y Y)<|Ag<|Zn [0,1,6,7,8,33] ?_;refine Zx<|DI Y<|AC<|A8<|Zx<|Zg<|Ya (n:=1) Y Y<|Zm Y<|Z0<|Zn [8,0,1,6,7] ?_;refine Aa (e':=[(8,_)]) (by exact ⟨i+1,s,rfl,⟨by omega,by rw [ax,An I,DA];exact K⟩,rfl,rfl⟩)
 obtain rfl:i=zs.length:=by omega
 rw [GC]at K;refine Az<|Zt<|Zt<|AV<|Cc V results103 (by exact ⟨_,s,⟨zs,g,V⟩,V,K⟩)
def ItM.core(x:ItM):ItM:={x with res:=C9.none,wq:=none,wc:=0,since:=0}
variable{y:ItM}
theorem J4(h:y.core=x.core):y.b=x.b/\y.id=x.id/\y.q=x.q/\y.tn=x.tn/\y.base=x.base/\y.rq=x.rq/\y.rc=x.rc/\y.L=x.L:=by
 obtain ⟨b,id,q,tn,base,rq,rc,L,res,wq,wc,since⟩:=x;obtain ⟨Z,G,q',K,m,J,I,X,B,U,O,g⟩:=y;unfold ItM.core at h;simp only [ItM.mk.injEq]at h;exact ⟨h.1,h.2.1,h.2.2.1,h.2.2.2.1,h.2.2.2.2.1,h.2.2.2.2.2.1,h.2.2.2.2.2.2.1,h.2.2.2.2.2.2.2.1⟩
theorem MI(h:y.core=x.core):y.key=x.key:=by unfold ItM.key;rw [(J4 h).2.2.1]
theorem WQ{α:Type}(W:List α)(r:α){n:Nat}(h:n<=W.length):(W++[r]).drop n=W.drop n++[r]:=j0 h
def Jn(W W':List BR)(r:BR):Prop:=(W'=W++[r]/\W.length<64)\/(W'=(W++[r]).drop 1/\W.length=64)
variable{W' W:List BR}{r:BR}
theorem ko{pos:Int}(g:Jn W W' r)(B:(pos -base).toNat<=W.length)(G:base<=pos)(I:pos+1 -64<=base):Ct (pos+1) base W'=Ct pos base W++[r]/\(pos+1 -base).toNat<=W'.length:=by
 have e:(pos+1 -base).toNat=(pos -base).toNat+1:=by omega
 unfold Ct;rcases g with⟨rfl,m⟩|⟨rfl,m⟩
 · rw [BW,F2,e,show W.length+1 -((pos -base).toNat+1)=W.length -(pos -base).toNat by omega,WQ _ _ A0]
   exact ⟨V,by omega⟩
 · rw [CH,BW,F2,e,cE,show 1+(W.length+1 -1 -((pos -base).toNat+1))=W.length -(pos -base).toNat by omega,WQ _ _ A0]
   exact ⟨V,by omega⟩
theorem La{pos:Int}(h:pos<=base):Ct pos base W=[]:=by
 unfold Ct;rw [show(pos -base).toNat=0 by omega,S8,k8]
def Y8(cs:List Chg)(x:ItM):Prop:=∃ch∈cs,Cn x.q ch=true
theorem Ru(g:∀c∈cs,c.ok):cs.any (Da q)=true↔∃ch∈cs,Cn q ch=true:=by
 rw [eA];constructor
 · rintro ⟨c,hc,h⟩
   unfold Da at h;rw [Fm]at h;exact ⟨c,hc,h.2⟩
 · rintro ⟨c,hc,h⟩
   refine ⟨c,hc,?_⟩;unfold Da;rw [D2 (g c hc),h];rfl
theorem bY:∀{cs:List Chg} {r:C9},¬cs.any (Da q)=true->Bb q r cs=(r,false,true):=fun{cs r} h=>by
 have g:∀{cs:List Chg},(∀c∈cs,Da q c=false)->Ht q r cs=some r:=fun{cs}=>by
  induction cs with
  |nil=>intro _;rfl
  |cons c cs ih=>
   intro h;have h2:DC q c r=(r,true):=by unfold DC;rw [h c (E3 ..)];rfl
   unfold Ht;rw [h2];exact ih fun d B=>h d (E7 _ B)
 have m:∀c∈cs,Da q c=false:=fun c hc=>by
  cases h4:Da q c with
  |false=>rfl
  |true=>exact absurd (eA.2 ⟨c,hc,h4⟩) h
 unfold Bb;rw [g m];show(r,cs.any (Da q),true)=_
 rw [p5]at h;rw [h]
structure xr(cs:List Chg)(p:Int)(ids:List Int)(MR:List A9)(x y:ItM):Prop where
 core:y.core=x.core
 how:(y=x/\¬(x.id∈ids/\x.base<p))\/((x.id∈ids/\x.base<p)/\(Bb x.q x.res cs).2.2=true/\y.res=(Bb x.q x.res cs).1/\y.since=p/\Di MR (.slice y.wq y.res.rows.length y.wc) y.res.rows)
structure HV(c d:CZ)(cs:List Chg)(p:Int)(W':List BR)(M1:List A9)(ids:List Int)(tl:List Bm):Prop where
 okb:d.okb
 cp:d.cp=c.cp
 pos:d.pos=p
 win:d.win=W'
 M:d.M=M1
 ns:d.ns=c.ns
 sc:d.z.cs=c.z.cs
 next:d.next=c.next
 PL:∀e∈d.PL,e∈c.PL
 MR:∀q∈c.MR,q∈d.MR
 i1:∀y∈d.its,∃x∈c.its,xr cs p ids d.MR x y
 i2:∀x∈c.its,(x.id∈ids->x.base<p->(Bb x.q x.res cs).2.2=true)->∃y∈d.its,y.core=x.core
 t1:∀k,k∈tl↔∃x∈c.its,x.key=k/\x.id∈ids/\x.base<p
 t2:tl.Nodup
theorem Jh(h:c.okb)(g:x∈c.its)(m:y∈c.its)(e:x.id=y.id):x=y:=by
 have hi:=h.its.idx.ids;rw [KK]at hi;exact Gd hi g m e
variable{p:Int}{M1:List A9}{ids:List Int}
theorem HV.next_it(h:HV c d cs p W' M1 ids tl)(hc:c.okb)(J:x∈c.its)(G:x.id∉ids):x∈d.its:=by
 obtain ⟨y,K,B⟩:=h.i2 x J fun g=>absurd g G;obtain ⟨U,m,I⟩:=h.i1 y K;have O:=Jh hc m J (by rw [<-(J4 I.core).2.1,(J4 B).2.1])
 subst O;rcases I.how with⟨rfl,_⟩|⟨⟨g,_⟩,_⟩
 · exact K
 · exact absurd g G
theorem wJ(h:HV c d cs p W' M1 ids tl)(hc:c.okb)(O:x∈c.its)(J:¬x.base<p):HV c d cs p W' M1 (ids++[x.id]) tl:=by
 have g:∀z∈c.its,z.base<p->(z.id∈ids++[x.id]↔z.id∈ids):=fun z hz B=>by
  rw [C2,C5];refine ⟨fun m=>m.elim id fun h2=>?_,.inl⟩;rw [Jh hc hz O h2]at B;exact absurd B J
 refine ⟨h.okb,h.cp,h.pos,h.win,h.M,h.ns,h.sc,h.next,h.PL,h.MR,fun y U=>?_,fun z hz K=>h.i2 z hz fun m h2=>K ((g z hz h2).2 m) h2,fun k=>?_,h.t2⟩
 · obtain ⟨z,hz,I⟩:=h.i1 y U
   refine ⟨z,hz,I.core,?_⟩;rcases I.how with⟨e,m⟩|⟨m,h2⟩
   · exact .inl ⟨e,fun G=>m ⟨(g z hz G.2).1 G.1,G.2⟩⟩
   · exact .inr ⟨⟨(g z hz m.2).2 m.1,m.2⟩,h2⟩
 · rw [h.t1]
   constructor;· rintro ⟨z,hz,a,b,e⟩;exact ⟨z,hz,a,(g z hz e).2 b,e⟩
   · rintro ⟨z,hz,a,b,e⟩;exact ⟨z,hz,a,(g z hz e).1 b,e⟩
theorem wI(hc:c.okb)(t1:∀k,k∈tl↔∃x∈c.its,x.key=k/\x.id∈ids/\x.base<p)(t2:tl.Nodup)(B:x∈c.its)(J:x.base<p)(O:x.id∉ids):(∀k,k∈tl++[x.key]↔∃y∈c.its,y.key=k/\y.id∈ids++[x.id]/\y.base<p)/\(tl++[x.key]).Nodup:=by
 constructor
 · intro k
   rw [C2,C5,t1];constructor
   · rintro (⟨y,g,a,b,e⟩|rfl)
     · exact ⟨y,g,a,Ek _ b,e⟩
     · exact ⟨x,B,rfl,by simp,J⟩
   · rintro ⟨y,g,rfl,b,e⟩
     rcases C2.1 b with b|b
     · exact .inl ⟨y,g,rfl,b,e⟩
     · rw [Jh hc g B (C5.1 b)];exact .inr rfl
 · rw [Ge]
   refine ⟨t2,by simp,fun a I b m=>?_⟩;obtain rfl:=C5.1 m;intro K;obtain ⟨y,g,G,h2,_⟩:=(t1 a).1 I;rw [Gd hc.its.keys g B (G.trans K)]at h2;exact O h2
theorem yT{next:Int}{esQ:Array MapEntry}{ckQ:Nat}{lmQ:List (Int×A4)}{lv:A4}{ML:List A9}{esI:Array MapEntry}{ckI:Nat}{lmI:List (Bm×A4)}{esK:Array MapEntry}{ckK:Nat}{lmK:List (Int×A4)}{SI:List A9}(h:GN its next esQ ckQ lmQ lv ML esI ckI lmI esK ckK lmK SI)(J:(SI.map (·.1)).Nodup)(G:x∈its)(p:Int)(cs:List Chg)(wq:B8)(wc:Nat):
 GN (its.map fun y=>if y.id=x.id then x.upd p cs wq wc else y) next esQ ckQ lmQ lv ML esI ckI lmI esK ckK lmK (IQ x.b (x.upd p cs wq wc).obj SI):=by
 have B:∀y∈its,y.id=x.id->y=x:=fun y g e=>by
  have hi:=h.idx.ids;rw [KK]at hi;exact Gd hi g G e
 have m:∀y∈its,(if y.id=x.id then x.upd p cs wq wc else y).key=y.key/\(if y.id=x.id then x.upd p cs wq wc else y).iq=y.iq/\(if y.id=x.id then x.upd p cs wq wc else y).b=y.b/\(if y.id=x.id then x.upd p cs wq wc else y).id=y.id/\(if y.id=x.id then x.upd p cs wq wc else y).q=y.q:=fun y g=>by
  by_cases e:y.id=x.id
  · rw [B y g e,As rfl];exact ⟨rfl,rfl,rfl,rfl,rfl⟩
  · rw [An e];exact ⟨rfl,rfl,rfl,rfl,rfl⟩
 have e1:((its.map fun y=>if y.id=x.id then x.upd p cs wq wc else y).map ItM.iq)=its.map ItM.iq:=by
  rw [KK];exact Wc fun y g=>(m y g).2.1
 have e2:((its.map fun y=>if y.id=x.id then x.upd p cs wq wc else y).map ItM.key)=its.map ItM.key:=by
  rw [KK];exact Wc fun y g=>(m y g).1
 refine ⟨by rw [e1];exact h.idx,by rw [e1];exact h.ist,h.im,fun q=>?_,h.km,fun q=>?_,by rw [e2];exact h.keys,fun y g=>?_,h.nx,by rw [B6];exact h.len,fun y g=>?_,fun y g=>?_⟩
 · rw [h.imem]
   constructor;· rintro ⟨y,g,rfl⟩;exact ⟨_,Dd g,by rw [(m y g).1,(m y g).2.2.1]⟩
   · rintro ⟨z,hz,rfl⟩
     obtain ⟨y,g,rfl⟩:=C6.1 hz;exact ⟨y,g,by rw [(m y g).1,(m y g).2.2.1]⟩
 · rw [h.kmem]
   constructor;· rintro ⟨y,g,rfl⟩;exact ⟨_,Dd g,by rw [(m y g).1,(m y g).2.2.2.1]⟩
   · rintro ⟨z,hz,rfl⟩
     obtain ⟨y,g,rfl⟩:=C6.1 hz;exact ⟨y,g,by rw [(m y g).1,(m y g).2.2.2.1]⟩
 · obtain ⟨z,hz,rfl⟩:=C6.1 g
   rw [(m z hz).2.2.2.1];exact h.ids z hz
 · obtain ⟨z,hz,rfl⟩:=C6.1 g
   rw [(m z hz).2.2.2.2];exact h.q z hz
 · obtain ⟨z,hz,rfl⟩:=C6.1 g
   by_cases e:z.id=x.id
   · simp only [As e]
     exact Ph (h.sub x G)
   · simp only [An e]
     refine C6.2 ⟨z.ch,h.sub z hz,An fun e2=>?_⟩;have I:=Gd J (h.sub z hz) (h.sub x G) e2
     unfold ItM.ch ItM.obj at I;simp only [kc,Obj.cells.injEq,pP,mu,Value.int.injEq,WD,fL]at I;exact e (by simp_all)
theorem zF(h:HV c d cs p W' M1 ids tl)(hc:c.okb)(hn:(d.SI.map (·.1)).Nodup)(O:x∈c.its)(hb:x.base<p)(I:x.id∉ids)(X:(Bb x.q x.res cs).2.2=true)(hr:Di s (.slice wq (Bb x.q x.res cs).1.rows.length wc) (Bb x.q x.res cs).1.rows):
 HV c {d with SI:=IQ x.b (x.upd p cs wq wc).obj d.SI,MR:=s++d.MR,its:=d.its.map fun y=>if y.id=x.id then x.upd p cs wq wc else y} cs p W' M1 (ids++[x.id]) (tl++[x.key]):=by
 have g:=h.next_it hc O I;have G:=yT h.okb.its hn g p cs wq wc
 have U:(x.upd p cs wq wc).core=x.core:=rfl;obtain ⟨af,ax⟩:=wI hc h.t1 h.t2 O hb I;have e2:((d.its.map fun y=>if y.id=x.id then x.upd p cs wq wc else y).map ItM.key)=d.its.map ItM.key:=by
  rw [KK];refine Wc fun y m=>?_;show(if y.id=x.id then x.upd p cs wq wc else y).key=y.key
  split;· rename_i e;rw [Jh h.okb m g e];rfl
  · rfl
 refine ⟨⟨h.okb.pos,h.okb.win,h.okb.wl,h.okb.wp,h.okb.pool,fun k=>by rw [e2];exact h.okb.pk k,G,fun y m=>?_⟩,h.cp,h.pos,h.win,h.M,h.ns,h.sc,h.next,h.PL,fun q J=>GB _ (h.MR q J),fun y m=>?_,fun z hz hk=>?_,af,ax⟩
 · obtain ⟨z,hz,rfl⟩:=C6.1 m
   split;· rename_i e;rw [<-Jh h.okb hz g e];exact h.okb.tns z hz
   · exact h.okb.tns z hz
 · obtain ⟨z,hz,rfl⟩:=C6.1 m
   by_cases e:z.id=x.id
   · rw [As e]
     exact ⟨x,O,U,.inr ⟨⟨by simp,hb⟩,X,V,V,hr.mono fun q J=>Ek _ J⟩⟩
   · rw [An e]
     obtain ⟨w,hw,Z⟩:=h.i1 z hz;have bn:w.id≠x.id:=fun B=>e (by rw [(J4 Z.core).2.1,B])
     refine ⟨w,hw,Z.core,?_⟩;have hm:w.id∈ids++[x.id]↔w.id∈ids:=by rw [C2,C5];exact ⟨fun B=>B.elim id fun h2=>absurd h2 bn,.inl⟩
     rcases Z.how with⟨a,b⟩|⟨a,b,e1,e3,e4⟩
     · exact .inl ⟨a,fun h3=>b ⟨hm.1 h3.1,h3.2⟩⟩
     · exact .inr ⟨⟨hm.2 a.1,a.2⟩,b,e1,e3,e4.mono fun q J=>GB _ J⟩
 · by_cases e:z.id=x.id
   · obtain rfl:=Jh hc hz O e
     exact ⟨_,C6.2 ⟨z,g,As V⟩,V⟩
   · obtain ⟨y,m,K⟩:=h.i2 z hz fun B h2=>hk (Ek _ B) h2
     exact ⟨y,C6.2 ⟨y,m,An (by rw [(J4 K).2.1];exact e)⟩,K⟩
variable{d2:CZ}
theorem zG(h:HV c d cs p W' M1 ids tl)(hc:c.okb)(J:x∈c.its)(hb:x.base<p)(O:x.id∉ids)(B:(Bb x.q x.res cs).2.2=false)
 (g:d2.okb)(h2:d.like d2)(I:d2.next=d.next)(K:d2.M=d.M/\d2.MR=d.MR)(h6:d2.its=d.its.filter fun y=>y.key≠x.key)(h7:∀e∈d2.PL,e∈d.PL):HV c d2 cs p W' M1 (ids++[x.id]) (tl++[x.key]):=by
 obtain ⟨X,Z⟩:=wI hc h.t1 h.t2 J hb O;have m:∀y,y∈d2.its↔y∈d.its/\y.key≠x.key:=fun y=>by rw [h6,FG];simp
 refine ⟨g,h2.cp.trans h.cp,h2.pos.trans h.pos,h2.win.trans h.win,K.1.trans h.M,h2.ns.trans h.ns,h2.sc.trans h.sc,I.trans h.next,fun e he=>h.PL e (h7 e he),fun q hq=>by rw [K.2];exact h.MR q hq,fun y hy=>?_,fun z hz hk=>?_,X,Z⟩
 · obtain ⟨ax,bn⟩:=(m y).1 hy
   obtain ⟨w,hw,U⟩:=h.i1 y ax;have af:w.id≠x.id:=fun e=>bn (by rw [MI U.core,Jh hc hw J e])
   refine ⟨w,hw,U.core,?_⟩;have m:w.id∈ids++[x.id]↔w.id∈ids:=by rw [C2,C5];exact ⟨fun g=>g.elim id fun h2=>absurd h2 af,.inl⟩
   rcases U.how with⟨a,b⟩|⟨a,b,e1,e3,e4⟩
   · exact .inl ⟨a,fun I=>b ⟨m.1 I.1,I.2⟩⟩
   · exact .inr ⟨⟨m.2 a.1,a.2⟩,b,e1,e3,by rw [K.2];exact e4⟩
 · by_cases e:z.id=x.id
   · obtain rfl:=Jh hc hz J e
     rw [hk B4 hb]at B;cases B
   · obtain ⟨y,hy,G⟩:=h.i2 z hz fun g h2=>hk (Ek _ g) h2
     refine ⟨y,(m y).2 ⟨hy,fun h9=>e ?_⟩,G⟩;rw [MI G]at h9;rw [Gd hc.its.keys hz J h9]
theorem zH(h:HV c d r.cs r.p W' M1 ids tl)(hc:c.ok)(hr:EK r.p r.cs)(hp:r.p=c.pos+1){r':BR}(X:r'.pc=r.pc)(hW:Jn c.win W' r')(hM:∀q∈c.M,q∈d.M)(G:∀x∈c.its,x.id∈ids↔Y8 r.cs x)(hy:y∈d.its)(d9:r.p -64<=y.base):y.ok d.M d.MR r.p W':=by
 obtain ⟨x,hx,hs⟩:=h.i1 y hy;have g:=hc.all x hx
 obtain ⟨c1,c2,c3,c4,c5,c6,c7,c8⟩:=J4 hs.core;have B:∀ch∈r.cs,ch.ok:=fun ch af=>by
  obtain ⟨i,hi⟩:=HB af;exact hr.all i ch hi
 have J:r'.p=r.p:=congrArg Prod.fst X;have K:r'.cs=r.cs:=congrArg Prod.snd X
 have I:Di d.MR (.slice y.wq y.res.rows.length y.wc) y.res.rows:=by
  rcases hs.how with⟨rfl,_⟩|⟨_,_,_,_,h5⟩
  · exact g.rw.mono h.MR
  · exact h5
 obtain ⟨r0,O,m⟩:=g.run;by_cases hb:x.base<r.p
 · obtain ⟨Z,U⟩:=ko hW g.reach A0 A0
   rw [<-hp]at Z U;refine ⟨by rw [c3];exact g.q,by rw [c5];exact g.base,by rw [c4];exact g.tn,by rw [c6,c7,c8];exact g.rp.mono hM,by rw [c8];exact g.rl,by rw [c8];exact g.fit,I,by rw [c5];exact U,r0,by rw [c3,c8];exact O,?_⟩;rw [c3,c5,Z,Od,m,KB];have hl:=OC g.reach
   have cO:=hc.pos;have cu:=g.base
   unfold GU GU;rw [J,K];rcases hs.how with⟨rfl,ax⟩|⟨⟨hin,_⟩,hok,e1,e2,_⟩
   · have hq:¬r.cs.any (Da y.q)=true:=fun h9=>ax ⟨(G y hx).2 ((Ru B).1 h9),hb⟩
     rw [bY hq,As ⟨rfl,by rw [hl];omega,by rw [hl];omega⟩];rfl
   · have hq:r.cs.any (Da x.q)=true:=(Ru B).2 ((G x hx).1 hin)
     rw [As ⟨hok,by rw [hl];omega,by rw [hl];omega⟩,(MQ hok).2,As hq,e1,e2]
 · have bn:y=x:=by
    rcases hs.how with⟨e,_⟩|⟨⟨_,h9⟩,_⟩
    · exact e
    · exact absurd h9 hb
   subst bn;rw [La A0]at m;exact ⟨g.q,g.base,g.tn,g.rp.mono hM,g.rl,g.fit,I,by omega,r0,O,by rw [La A0];exact m⟩
theorem P8{α:Type} [DecidableEq α]:∀{a b:List α},a.Nodup->(∀x∈a,x∈b)->a.length<=b.length
 |[],_,_,_=>C7 _
 |x::a,b,g,hs=>by
  obtain ⟨G,g⟩:=HJ.1 g;have h2:=P8 (a:=a) (b:=b.erase x) g fun y B=>by
   have m:y≠x:=fun e=>G (e▸B);exact (List.mem_erase_of_ne m).2 (hs y (E7 _ B))
  have I:=nt (hs x (E3 ..));have J:=List.length_pos_of_mem (hs x (E3 ..))
  rw [E4];omega
theorem qJ(h:c.okb)(U:Jn c.win W r)(Z:r.p=c.pos+1)(O:EK r.p r.cs)(K:∀q∈c.M,q∈M1)(J:Cv M1 (.slice r.q r.cs.length r.cap) r.cs):W.length<=64/\∀(i:Nat) (g:BR),W[i]?=some g->g.p=r.p -(W.length:Int)+1+(i:Int)/\Cv M1 (.slice g.q g.cs.length g.cap) g.cs/\EK g.p g.cs:=by
 have B:∀(i:Nat) (g:BR),(c.win++[r])[i]?=some g->g.p=c.pos -(c.win.length:Int)+1+(i:Int)/\Cv M1 (.slice g.q g.cs.length g.cap) g.cs/\EK g.p g.cs:=fun i g m=>by
  rcases FA i c.win.length with h1|h1
  · rw [Wa h1]at m
    exact jI h K i g m
  · rw [RT h1]at m
    have h2:i -c.win.length=0:=by
     have:=(C4.1 m).1;simp at this;omega
    rw [h2]at m;have I:r=g:=by simpa using m
    subst I;exact ⟨by omega,J,O⟩
 have G:(c.win++[r]).length=c.win.length+1:=by rw [BW];rfl
 rcases U with⟨rfl,X⟩|⟨rfl,X⟩
 · refine ⟨by omega,fun i g m=>?_⟩
   obtain ⟨a,b,e⟩:=B i g m;exact ⟨by rw [G];omega,b,e⟩
 · refine ⟨by rw [CH];omega,fun i g m=>?_⟩
   rw [S1]at m;obtain ⟨a,b,e⟩:=B (1+i) g m;exact ⟨by rw [CH,G];omega,b,e⟩
theorem wL(h:c.okb){sW:List A9}(J:Jn c.win W r)(g:Bc 2 57 (.slice wq W.length wc) W.length (Dv W) sW)(O:r.p=c.pos+1)(m:EK r.p r.cs)(I:∀q∈c.M,q∈M1)(G:Cv M1 (.slice r.q r.cs.length r.cap) r.cs){lv2:A4}{ML2:List A9}(hst:Wj (c.its.map ItM.iq) lv2 ML2):
 HV c {c with pos:=r.p,wq:=wq,wc:=wc,win:=W,sW:=sW,lv:=lv2,ML:=ML2,M:=M1} r.cs r.p W M1 [] []:=by
 have B:=qJ h J O m I G;have U:=m.pos
 exact ⟨⟨⟨by show 0<=r.p;omega,by show r.p<=10000;omega⟩,g,B.1,B.2,h.pool,h.pk,{h.its with ist:=hst},h.tns⟩,V,V,V,V,V,V,V,fun e K=>K,fun q X=>X,fun y hy=>⟨y,hy,V,.inl ⟨V,fun h=>absurd h.1 B4⟩⟩,fun x Z _=>⟨x,Z,V⟩,fun k=>by simp,mx⟩
structure H9(c d:CZ)(p:Int)(cs:List Chg)(q2:B8)(cap2:Nat)(zs:List Bm):Prop where
 ok:d.ok
 cp:d.cp=c.cp
 pos:d.pos=p
 win:Jn c.win d.win ⟨p,q2,cap2,cs⟩
 ns:d.ns=c.ns
 sc:d.z.cs=c.z.cs
 next:d.next=c.next
 PL:∀e∈d.PL,e∈c.PL
 i1:∀y∈d.its,p -64<=y.base/\∃x∈c.its,y.core=x.core/\((¬(Y8 cs x/\x.base<p)/\y.res=x.res/\y.since=x.since)\/((Y8 cs x/\x.base<p)/\(Bb x.q x.res cs).2.2=true/\y.since=p))
 i2:∀x∈c.its,p -64<=x.base->(Y8 cs x->x.base<p->(Bb x.q x.res cs).2.2=true)->∃y∈d.its,y.core=x.core
 z1:∀k,k∈zs↔∃x∈c.its,x.key=k/\Y8 cs x/\x.base<p
 z2:zs.Nodup
 z3:zs.Pairwise fun x y=>x.data.toList<=y.data.toList
 M:∀q∈c.M,q∈d.M
theorem H9.zcap{q2:B8}{cap2:Nat}{zs:List Bm}(h:H9 c d p cs q2 cap2 zs):d.z.cap=c.z.cap:=congrArg Prod.fst h.sc
theorem yc(g:((its.map ItM.iq).map (·.1)).Nodup){B:List Int}(h:∀i,i∈B↔JR (its.map ItM.iq) cs i)(m:x∈its):x.id∈B↔Y8 cs x:=by
 rw [h];constructor
 · rintro ⟨y,J,G,hc⟩
   obtain ⟨w,I,rfl⟩:=C6.1 J;rw [KK]at g;have:=Gd g I m G
   subst this;exact hc
 · intro hc
   exact ⟨x.iq,Dd m,V,hc⟩
structure JP(d d2:CZ)(pre:List Bm):Prop where
 okb:d2.okb
 like:d.like d2
 next:d2.next=d.next
 M:d2.M=d.M/\d2.MR=d.MR
 mi:d2.mi=d.mi
 PL:∀e∈d2.PL,e∈d.PL
 its:∀y,y∈d2.its↔y∈d.its/\y.key∉pre
theorem S9(h:d.okb):JP d d []:=⟨h,⟨rfl,rfl,rfl,rfl,rfl⟩,rfl,⟨rfl,rfl⟩,rfl,fun e g=>g,fun y=>by simp⟩
theorem dW{pre:List Bm}{k:Bm}(h:JP d d2 pre)(J:d.okb)(I:bg d (pre++[k])):∃x∈d2.its,x.key=k:=by
 obtain ⟨zs,B,post,g⟩:=I;have m:(zs.filter (JE d)).Nodup:=(B.nodup_iff.2 J.its.keys).sublist S0
 have K:k∈zs:=(FG.1 (by rw [g];simp:k∈zs.filter (JE d))).1;obtain ⟨x,O,rfl⟩:=C6.1 (B.mem_iff.1 K);refine ⟨x,(h.its x).2 ⟨O,fun G=>?_⟩,V⟩;rw [g,Cd,Ge]at m;exact m.2.2 _ G _ B4 V
theorem Rz{g:CZ}{pre:List Bm}(h:JP d d2 pre)(B:g.okb)(h2:d2.like g)(G:g.next=d2.next)(m:g.M=d2.M/\g.MR=d2.MR)(I:g.mi=d2.mi)(J:g.its=d2.its.filter fun y=>y.key≠x.key)(K:∀e∈g.PL,e∈d2.PL):JP d g (pre++[x.key]):=by
 refine ⟨B,h.like.trans h2,G.trans h.next,⟨m.1.trans h.M.1,m.2.trans h.M.2⟩,I.trans h.mi,fun e O=>h.PL e (K e O),fun y=>?_⟩;rw [J,FG,h.its,C2,C5];simp only [G4,ne_eq,not_or];exact ⟨fun⟨⟨a,b⟩,e⟩=>⟨a,b,e⟩,fun⟨a,b,e⟩=>⟨⟨a,b⟩,e⟩⟩
theorem wK{q2:B8}{cap2:Nat}{zi:List Int}{zs ys:List Bm}(hc:c.ok)(hR:EK p cs)(hp:p=c.pos+1)(hW:Jn c.win W ⟨p,q2,cap2,cs⟩)(h:HV c d cs p W M1 zi tl)(hM:∀q∈c.M,q∈M1)(cu:∀i,i∈zi↔JR (c.its.map ItM.iq) cs i)(G:JP d d2 ys)(Z:WY d ys)(hz:zs.Perm tl)(cO:zs.Pairwise fun x y=>x.data.toList<=y.data.toList):H9 c d2 p cs q2 cap2 zs:=by
 have g:∀x∈c.its,x.id∈zi↔Y8 cs x:=fun x B=>yc hc.its.idx.ids cu B;have m:∀y,y∈d2.its↔y∈d.its/\p -64<=y.base:=fun y=>by
  rw [G.its];constructor
  · rintro ⟨I,hn⟩
    refine ⟨I,aw fun X=>hn ?_⟩;obtain ⟨ks,af,rfl⟩:=Z;refine FG.2 ⟨af.mem_iff.2 (Dd I),(Pk h.okb.its.keys I).2 ?_⟩;rw [h.pos];omega
  · rintro ⟨I,hb⟩
    refine ⟨I,fun X=>?_⟩;obtain ⟨ks,af,rfl⟩:=Z;have:=(Pk h.okb.its.keys I).1 (FG.1 X).2
    rw [h.pos]at this;omega
 have J:d2.pos=p:=G.like.pos.trans h.pos;have K:d2.win=W:=G.like.win.trans h.win
 refine ⟨⟨G.okb,fun y I=>?_⟩,G.like.cp.trans h.cp,J,by rw [K];exact hW,G.like.ns.trans h.ns,G.like.sc.trans h.sc,G.next.trans h.next,fun e he=>h.PL e (G.PL e he),fun y I=>?_,fun x B hb hk=>?_,fun k=>?_,hz.nodup_iff.2 h.t2,cO,fun q hq=>by rw [G.M.1,h.M];exact hM q hq⟩
 · obtain ⟨O,U⟩:=(m y).1 I
   rw [J,K,G.M.1,G.M.2];exact zH (r:=⟨p,q2,cap2,cs⟩) h hc hR hp rfl hW (fun q hq=>by rw [h.M];exact hM q hq) g O U
 · obtain ⟨O,U⟩:=(m y).1 I
   obtain ⟨x,B,hs⟩:=h.i1 y O;refine ⟨U,x,B,hs.core,?_⟩;rcases hs.how with⟨rfl,bn⟩|⟨⟨hin,hb⟩,hok,_,hsi,_⟩
   · exact .inl ⟨fun X=>bn ⟨(g y B).2 X.1,X.2⟩,rfl,rfl⟩
   · exact .inr ⟨⟨(g x B).1 hin,hb⟩,hok,hsi⟩
 · obtain ⟨y,I,ax⟩:=h.i2 x B fun h1 h2=>hk ((g x B).1 h1) h2
   exact ⟨y,(m y).2 ⟨I,by rw [(J4 ax).2.2.2.2.1];exact hb⟩,ax⟩
 · rw [hz.mem_iff,h.t1]
   constructor;· rintro ⟨x,B,a,b,e⟩;exact ⟨x,B,a,(g x B).1 b,e⟩
   · rintro ⟨x,B,a,b,e⟩;exact ⟨x,B,a,(g x B).2 b,e⟩
theorem j4(h:HV c d cs p W' M1 ids tl)(hc:c.ok)(hC:Cv ME (.slice qa cs.length cap) cs)(O:cs.length<=1000)(hx:x∈c.its)(hb:x.base<p)(G:x.id∉ids)(hT:Row 9 tv (tl.map Value.string) st)(U:tl.length<=1000000)(K J I:Nat):
 BS prog 47 #[.string x.key,.pointer (some ⟨x.b,0,none⟩),I1 K,I1 J,I1 I] [[(K,.cells #[tv] 52 (0,0))],[(J,.cells #[I0 p,.slice qa cs.length cap] 57 (0,0))],[(I,.cells #[.pointer (some ⟨c.cp,0,none⟩)] 29 (0,0))],st,[(c.cp,.cells d.A98 95 (0,0))],d.sW,d.z.S,[(d.mb,.map d.esP d.ckP)],d.su,[(d.ip,.cells #[.map (some d.mq),d.lv] 165 (0,0))],[(d.mq,.map d.esQ d.ckQ)],d.ML,[(d.mi,.map d.esI d.ckI)],[(d.mkb,.map d.esK d.ckK)],d.SI,d.M,d.MR,ME] (fun v H'=>v=undef/\∃(d2:CZ) (m:A4) (g:List A9),HV c d2 cs p W' M1 (ids++[x.id]) (tl++[x.key])/\Row 9 m ((tl++[x.key]).map Value.string) g/\H'=[[(K,.cells #[m] 52 (0,0))],[(J,.cells #[I0 p,.slice qa cs.length cap] 57 (0,0))],[(I,.cells #[.pointer (some ⟨c.cp,0,none⟩)] 29 (0,0))],g,[(c.cp,.cells d2.A98 95 (0,0))],d2.sW,d2.z.S,[(d2.mb,.map d2.esP d2.ckP)],d2.su,[(d2.ip,.cells #[.map (some d2.mq),d2.lv] 165 (0,0))],[(d2.mq,.map d2.esQ d2.ckQ)],d2.ML,[(d2.mi,.map d2.esI d2.ckI)],[(d2.mkb,.map d2.esK d2.ckK)],d2.SI,d2.M,d2.MR,ME]):=by
 rw [<-h.cp];have X:=h.next_it hc.tookb hx G
 have hl:x.live d.MR:=by
  have B:=(hc.all x hx).live hc.tookb;exact ⟨B.q,B.rw.mono h.MR,B.wn,B.wv⟩
 cases hok:(Bb x.q x.res cs).2.2 with
 |true=>
  refine (pY h.okb X hl p hC O hok hT U K J I).mono ?_;rintro v H' ⟨B,wq,wc,m,g,s,h2,Z,h4,rfl⟩;exact ⟨B,_,m,g,zF h hc.tookb h4 hx hb G hok Z,h2,V⟩
 |false=>
  refine (pu h.okb X hl p hC O hok hT U K J I).mono ?_;rintro v H' ⟨B,d2,m,g,h2,Z,h4,h5,_,h6,h7,h8,rfl⟩;exact ⟨B,d2,m,g,zG h hc.tookb hx hb G hok h2 Z h4 h5 h6 h7,h8,by rw [Z.cp]⟩
end Go.Proofs.YthhakdmlpngcmaaGreatDoor
