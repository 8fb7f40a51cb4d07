/- Put. -/
/- What Apply does to an entry. -/
/- Stale entries. -/
/- What Apply does, in plain words. -/
/- Apply, in plain words. -/
import Derived.Test.YteaiajghbkenoaaGreatDoorEz
import Derived.Test.YteaiajghbkenoaaGreatDoorCa6
set_option linter.unusedVariables false
set_option linter.unusedSimpArgs false
namespace Go.Proofs.YteaiajghbkenoaaGreatDoor
open Go.Proofs.Tryz
open Go Go.RowKit Gw
set_option maxRecDepth 100000
attribute [local irreducible] Gw.At Gw.Nx Gw.Ops
variable{q:QM}{base:Int}
theorem NS{r:CE}{l:List BU}(h:(BC q r base l).2.2=true):GD q base 0 (r,base) l=some ((BC q r base l).1,(BC q r base l).2.1):=Lc h
theorem WS{c:CZ}(h:c.okb){m:List A9}(X:∀q∈c.M,q∈m):∀(i:Nat) (r:BU),c.win[i]?=some r->r.p=c.pos -(c.win.length:Int)+1+(i:Int)/\Cr m (.slice r.q r.cs.length r.cap) r.cs/\EH r.p r.cs:=fun i r Z=>by
 obtain ⟨J,⟨p,cap,e,U,O⟩,K⟩:=h.wp i r Z;refine ⟨J,⟨p,cap,e,U,fun j x hx=>?_⟩,K⟩;obtain ⟨g,off,cur,T,zz,B,G,I⟩:=O j x hx;exact ⟨g,off,cur,T,zz,B,X _ G,I⟩
variable{its:List ItM}
theorem aJ{K:ByteArray}(h:∀y∈its,y.key≠K):(its.filter fun y=>y.key≠K)=its:=jt.2 fun y g=>by simpa using h y g
theorem qG{PL:List Bv}(m:∀k,k∈PL.map (·.key)↔k∈its.map ItM.key)(e:Bv)(x:ItM)(g:e.key=x.key):∀k,k∈(PL++[e]).map (·.key)↔k∈(its++[x]).map ItM.key:=by
 intro k;rw [Bm,Bm,BE,BE,m k,Lk,Lk,g]
def IE(b:Nat)(id:Int)(q:QM)(tn base:Int)(rq:Option Addr)(rc:Nat)(L:List RP)(R:CE×Int×Bool)(wq:Option Addr)(wc:Nat):ItM:=⟨b,id,q,tn,base,rq,rc,L,R.1,wq,wc,R.2.1⟩
variable{c:CZ}{wq:Option Addr}{wc:Nat}{L:List RP}{r0:CE}
theorem TJ{b:Nat}{id:Int}(X:BJ q){tn:Int}(Z:0<=tn/\tn<=1000000)(U:0<=base/\base<=10000){rq:Option Addr}{rc:Nat}(G:L.length<=1000000)(m:∀x∈L,x.fits)(I:EX q L=some r0)(J:(c.pos -base).toNat<=c.win.length)(B:(BC q r0 base (DI c.pos base c.win)).2.2=true){K g:List A9}
 (O:G8 K (.slice rq L.length rc) L)(h2:De g (.slice wq (BC q r0 base (DI c.pos base c.win)).1.rows.length wc) (BC q r0 base (DI c.pos base c.win)).1.rows):(IE b id q tn base rq rc L (BC q r0 base (DI c.pos base c.win)) wq wc).ok K g c.pos c.win:=
 ⟨X,U,Z,O,G,m,h2,J,r0,I,NS B⟩
theorem Tv(p:Option Addr)(n c:Nat)(v f:Value)(hv:v.oneCell'=true/\v.cells=#[v])(B:f.oneCell'=true/\f.cells=#[f])(G:n<=1000000):BI prog 46 #[.agg #[.slice p n c,v,f]] [] (I4 (1+(n:Int))):=by
 refine Se func46 ntmps46 [0] ?_;intro u R;refine A0<|Ze (Bx #[_,_,_])<|AD fun g=>A3 Y<|A0<|Zh 0 C7 V rfl C6 Y<|Zl FA Y ?_;refine Zv (Aa B6 Y)<|Ya (m:=1) Y Y<|A3 Y<|AJ<|AP V results46 Y (by exact ⟨V,V⟩)
variable{k cg:Nat}{pg:Option Addr}{ME:List A9}
theorem wG(h:c.ok)(hq:BJ q)(hk:k<c.ns)(Z:k<=1000000)(base:Int)(X:0<=base/\base<=10000)(U:G8 ME (.slice pg L.length cg) L)(I:L.length<=1000000)(B:∀x∈L,x.fits)(J:EX q L=some r0)(K:¬(c.pos -base).toNat<=c.win.length)(G:TypeId)(O:Nat×Nat):BZ prog 14 #[.pointer (some ⟨c.cp,0,none⟩),.agg #[I4 q.kd,I4 q.tb,I4 q.cl,I4 q.lo,I4 q.hi,I4 q.bq,I4 q.ot,I4 (k:Int),I4 base,.slice pg L.length cg]] [[(c.cp,.cells c.A33 120 (0,0))],c.sW,c.M,ME,[(1,.cells (Lib.pow10Tab.map fun z=>Value.int .u64 z).toArray G O)]] (fun w H'=>w= .bool false/\H'=[[(c.cp,.cells c.A33 120 (0,0))],c.sW,c.M,ME,[(1,.cells (Lib.pow10Tab.map fun z=>Value.int .u64 z).toArray G O)]]):=by
 refine Se func14 ntmps14 [0,1] ?_;intro u R;refine A0<|Ze (Bx #[I4 q.kd,I4 q.tb,I4 q.cl,I4 q.lo,I4 q.hi,I4 q.bq,I4 q.ot,I4 (k:Int),I4 base,.slice pg L.length cg])<|AD fun be=>A3 Y<|Zq<|A0<|Zm Y<|Zv (Be N6 Y Y)<|A4<|AX Y (fun m=>by cases m)<|fun m=>AC<|Zx<|A0<|Zm Y<|Zo Wh (AA (cs:=#[I4 q.kd,I4 q.tb,I4 q.cl,I4 q.lo,I4 q.hi,I4 q.bq,I4 q.ot,I4 (k:Int),I4 base,.slice pg L.length cg]) SJ Gk Y Wn (by exact BM V)) ?_;refine Zc [_,_] Y call44 Y V (wI h hq (k:Int) base X U I B J K G O) ?_;rintro _ _ ⟨_,⟨rfl,rfl⟩,rfl⟩;refine Zm Y<|Zd Y V<|Zd Y V<|Zd Y V<|Za Y<|Za Y<|AG Y<|Zn [0,3,5,6,7] ?_;refine Zx<|Zq<|A0<|Zm Y<|Zv (Bo Y)<|A4<|AX Y (fun g=>?_) (fun g=>?_)
 ·
  refine A0<|A3 Y<|AJ<|Zt<|AP V results14 Y (by exact ⟨V,V⟩)
 cases g
theorem pu(h:c.ok)(hq:BJ q)(hk:k<c.ns)(ax:k<=1000000)(base:Int)(hb:0<=base/\base<=10000)(X:G8 ME (.slice pg L.length cg) L)(J:L.length<=1000000)(B:∀x∈L,x.fits)(K:EX q L=some r0)(O:(c.pos -base).toNat<=c.win.length)(G:(BC q r0 base (DI c.pos base c.win)).2.2=false)(I:TypeId)(U:Nat×Nat):BZ prog 14 #[.pointer (some ⟨c.cp,0,none⟩),.agg #[I4 q.kd,I4 q.tb,I4 q.cl,I4 q.lo,I4 q.hi,I4 q.bq,I4 q.ot,I4 (k:Int),I4 base,.slice pg L.length cg]] [[(c.cp,.cells c.A33 120 (0,0))],c.sW,c.M,ME,[(1,.cells (Lib.pow10Tab.map fun z=>Value.int .u64 z).toArray I U)]] (fun w H'=>w= .bool false/\H'=[[(c.cp,.cells c.A33 120 (0,0))],c.sW,c.M,ME,[(1,.cells (Lib.pow10Tab.map fun z=>Value.int .u64 z).toArray I U)]]):=by
 refine Se func14 ntmps14 [0,1] ?_;intro u R;refine A0<|Ze (Bx #[I4 q.kd,I4 q.tb,I4 q.cl,I4 q.lo,I4 q.hi,I4 q.bq,I4 q.ot,I4 (k:Int),I4 base,.slice pg L.length cg])<|AD fun be=>A3 Y<|Zq<|A0<|Zm Y<|Zv (Be N6 Y Y)<|A4<|AX Y (fun m=>by cases m)<|fun m=>AC<|Zx<|A0<|Zm Y<|Zo Wh (AA (cs:=#[I4 q.kd,I4 q.tb,I4 q.cl,I4 q.lo,I4 q.hi,I4 q.bq,I4 q.ot,I4 (k:Int),I4 base,.slice pg L.length cg]) SJ Gk Y Wn (by exact BM V)) ?_;refine Zc [_,_] Y call44 Y V (RJ h hq (k:Int) base hb X J B K O I U) ?_;rintro _ _ ⟨_,⟨b,rq,rc,wq,wc,s1,s2,rfl,Z,af,rfl⟩,rfl⟩;rw [G];refine Zm Y<|Zd Y V<|Zd Y V<|Zd Y V<|Za Y<|Za Y<|AG Y<|Zn [0,3,5,6,7] ?_;refine Zx<|Zq<|A0<|Zm Y<|Zv (Bo Y)<|A4<|AX Y (fun g=>?_) (fun g=>?_)
 ·
  refine A0<|A3 Y<|AJ<|Zt<|AP V results14 Y (by exact ⟨V,V⟩)
 cases g
variable{x:ItM}
theorem pY(h:c.ok)(hq:BJ q)(hk:k<c.ns)(cu:k<=1000000)(base:Int)(hb:0<=base/\base<=10000)(hL:G8 ME (.slice pg L.length cg) L)(K:L.length<=1000000)(B:∀x∈L,x.fits)(X:EX q L=some r0)(Z:(c.pos -base).toNat<=c.win.length)(G:(BC q r0 base (DI c.pos base c.win)).2.2=true)(hx:x∈c.its)(af:x.key=str (Cv q))(cO:base<=x.base)(J:TypeId)(zp:Nat×Nat):BZ prog 14 #[.pointer (some ⟨c.cp,0,none⟩),.agg #[I4 q.kd,I4 q.tb,I4 q.cl,I4 q.lo,I4 q.hi,I4 q.bq,I4 q.ot,I4 (k:Int),I4 base,.slice pg L.length cg]] [[(c.cp,.cells c.A33 120 (0,0))],c.sW,c.M,[(c.mi,.map c.esI c.ckI)],c.SI,ME,[(1,.cells (Lib.pow10Tab.map fun z=>Value.int .u64 z).toArray J zp)]] (fun w H'=>w= .bool true/\H'=[[(c.cp,.cells c.A33 120 (0,0))],c.sW,c.M,[(c.mi,.map c.esI c.ckI)],c.SI,ME,[(1,.cells (Lib.pow10Tab.map fun z=>Value.int .u64 z).toArray J zp)]]):=by
 have U:=h.its.get hx;rw [af]at U;have O:(x.b,Obj.cells x.A32 126 (0,0))∈c.SI:=h.its.sub x hx
 refine Se func14 ntmps14 [0,1] ?_;intro u R;refine A0<|Ze (Bx #[I4 q.kd,I4 q.tb,I4 q.cl,I4 q.lo,I4 q.hi,I4 q.bq,I4 q.ot,I4 (k:Int),I4 base,.slice pg L.length cg])<|AD fun be=>A3 Y<|Zq<|A0<|Zm Y<|Zv (Be N6 Y Y)<|A4<|AX Y (fun m=>by cases m)<|fun m=>AC<|Zx<|A0<|Zm Y<|Zo Wh (AA (cs:=#[I4 q.kd,I4 q.tb,I4 q.cl,I4 q.lo,I4 q.hi,I4 q.bq,I4 q.ot,I4 (k:Int),I4 base,.slice pg L.length cg]) SJ Gk Y Wn (by exact BM V)) ?_;refine Zc [_,_] Y call44 Y V (RJ h hq (k:Int) base hb hL K B X Z J zp) ?_;rintro _ _ ⟨_,⟨b,rq,rc,wq,wc,s1,s2,rfl,ax,bn,rfl⟩,rfl⟩;rw [G];refine Zm Y<|Zd Y V<|Zd Y V<|Zd Y V<|Za Y<|Za Y<|AG Y<|Zn [0,3,5,6,7] ?_;refine Zx<|Zq<|A0<|Zm Y<|Zv (Bo Y)<|A4<|AX Y (fun g=>by cases g)<|fun g=>AC<|Zx<|A0<|Zm Y<|Zp Y V<|Zh 4 F0 V rfl O2 Y<|Zl Mz Y ?_;refine Zm Y<|Zo Wh (E9 (Dj GF (D:=fun _=>True)) N5 Ss h.its.im (fun _ _=>trivial) (trivial) (⟨by rw [U];first|done|rfl,by rw [U];first|done|rfl⟩) Y Y) ?_;refine Zm Y<|Zd Y V<|Zd Y V<|Za Y<|AG Y<|Zn [0,3,5,6,8,9] ?_;refine Zx<|Zq<|AQ<|Zq<|Az (n:=12) (0::1::3::7::15::31::63::3::131::511::1023::2047::[]) 0 A6 A6 V<|A2 0 V (AO Y)<|A2 1 V (AO Y)<|Bu (t:=36) Y (fun I=>?_) (fun I=>?_)
 ·
  rw [I];refine AH 2 V (AO Y)<|AH 3 V (Aq Y V)<|AH 4 V (AB (off:=0) HO V rfl Gk Y)<|AH 5 V (AB (off:=8) Fk V rfl A5 Y)<|XE (D':=127) 6 Y V rfl V (FL Wo (O)) (BO AE Y AN) ?_;refine AH 7 V (AB (off:=8) Fk V rfl A5 Y)<|DA 8 V Wh (BO AE Y AN) ?_;refine AH 9 V (H9 Y Y)<|A2 10 V (AV Y Y)<|A2 11 V (Aw Y)<|Ah<|Zx<|Au Y (fun h3=>?_) (fun h3=>?_)
  ·
   refine A0<|AG Y<|Zn [4] ?_;refine Zx<|AJ<|Ae<|Zt<|AP V results14 Y (by exact ⟨V,V⟩)
  exfalso;omega
 rw [I];cases I
set_option maxHeartbeats 1000000 in
theorem pX(h:c.ok)(G:BJ q)(hk:k<c.ns)(sj:k<=1000000)(base:Int)(hb:0<=base/\base<=10000)(hL:G8 ME (.slice pg L.length cg) L)(kv:L.length<=1000000)(cO:∀x∈L,x.fits)(gy:EX q L=some r0)(pz:(c.pos -base).toNat<=c.win.length)(I:(BC q r0 base (DI c.pos base c.win)).2.2=true)(qj:c.next<1000000000)(bn:∀y∈c.its,y.key≠str (Cv q))(o9:c.its.length<500)(gB:(1+((BC q r0 base (DI c.pos base c.win)).1.rows.length:Int))<=c.z.fr)(Tp:TypeId)(zp:Nat×Nat):BZ prog 14 #[.pointer (some ⟨c.cp,0,none⟩),.agg #[I4 q.kd,I4 q.tb,I4 q.cl,I4 q.lo,I4 q.hi,I4 q.bq,I4 q.ot,I4 (k:Int),I4 base,.slice pg L.length cg]] [[(c.cp,.cells #[I4 c.pos,.slice c.wq c.win.length c.wc,.pointer (some ⟨c.z.r,0,none⟩),.pointer (some ⟨c.ip,0,none⟩),.map (some c.mi),.map (some c.mkb),I4 c.next] 120 (0,0))],c.sW,c.z.S,[(c.mb,.map c.esP c.ckP)],c.su,[(c.ip,.cells #[.map (some c.mq),c.lv] 186 (0,0))],[(c.mq,.map c.esQ c.ckQ)],c.ML,[(c.mi,.map c.esI c.ckI)],[(c.mkb,.map c.esK c.ckK)],c.SI,c.M,c.MR,ME,[(1,.cells (Lib.pow10Tab.map fun z=>Value.int .u64 z).toArray Tp zp)]] (fun w H'=>w= .bool true/\∃(d:CZ) (b:Nat) (rq wq:Option Addr) (rc wc:Nat) (s:List A9),d.ok/\c.like d/\d.next=c.next+1/\d.M=s++c.M/\d.its=c.its++[(IE b (c.next+1) q (k:Int) base rq rc L (BC q r0 base (DI c.pos base c.win)) wq wc)]/\(∀e∈d.PL,e∈c.PL\/e.sz=(1+((BC q r0 base (DI c.pos base c.win)).1.rows.length:Int)))/\H'=[[(d.cp,.cells #[I4 d.pos,.slice d.wq d.win.length d.wc,.pointer (some ⟨d.z.r,0,none⟩),.pointer (some ⟨d.ip,0,none⟩),.map (some d.mi),.map (some d.mkb),I4 d.next] 120 (0,0))],d.sW,d.z.S,[(d.mb,.map d.esP d.ckP)],d.su,[(d.ip,.cells #[.map (some d.mq),d.lv] 186 (0,0))],[(d.mq,.map d.esQ d.ckQ)],d.ML,[(d.mi,.map d.esI d.ckI)],[(d.mkb,.map d.esK d.ckK)],d.SI,d.M,d.MR,ME,[(1,.cells (Lib.pow10Tab.map fun z=>Value.int .u64 z).toArray Tp zp)]]):=by
 have hg:=h.its.none bn;have p8:=h.its.len_eq.length_eq
 rw [B2,B2]at p8;have qo:(BC q r0 base (DI c.pos base c.win)).1.rows.length<=1000000:=by
  obtain ⟨_,qw,qx⟩:=LV gy;have sJ:=h.wl
  have sw:(DI c.pos base c.win).length<=64:=by unfold DI;rw [C2];omega
  have h9:=OV _ 0 (r0,base) _ 1000000000000000000 200 (NS I) (fun y B=>by have:=PX h.tookb (r:=y) (ID B);omega) qx AW qw;have r9:(BC q r0 base (DI c.pos base c.win)).1.rows.length<=_:=h9.2
  omega
 refine Se func14 ntmps14 [0,1] ?_;intro u R;refine A0<|Ze (Bx #[I4 q.kd,I4 q.tb,I4 q.cl,I4 q.lo,I4 q.hi,I4 q.bq,I4 q.ot,I4 (k:Int),I4 base,.slice pg L.length cg])<|AD fun be=>A3 Y<|Zq<|A0<|Zm Y<|Zv (Be N6 Y Y)<|A4<|AX Y (fun l9=>by cases l9)<|fun l9=>AC<|Zx<|A0<|Zm Y<|Zo Wh (AA (cs:=#[I4 q.kd,I4 q.tb,I4 q.cl,I4 q.lo,I4 q.hi,I4 q.bq,I4 q.ot,I4 (k:Int),I4 base,.slice pg L.length cg]) SJ Gk Y Wn (by exact BM V)) ?_;refine Zc [_,_] Y call44 Y V (RJ h G (k:Int) base hb hL kv cO gy pz Tp zp) ?_;rintro _ _ ⟨_,⟨b,rq,rc,wq,wc,s1,s2,rfl,qa,qb,rfl⟩,rfl⟩;rw [I];refine Zm Y<|Zd Y V<|Zd Y V<|Zd Y V<|Za Y<|Za Y<|AG Y<|Zn [0,3,5,6,7] ?_;refine Zx<|Zq<|A0<|Zm Y<|Zv (Bo Y)<|A4<|AX Y (fun l5=>by cases l5)<|fun l5=>AC<|Zx<|A0<|Zm Y<|Zp Y V<|Zh 4 F0 V rfl O2 Y<|Zl Mz Y ?_;refine Zm Y<|Zo Wh (E9 (Dj GF (D:=fun _=>True)) N5 Ss h.its.im (fun _ _=>trivial) (trivial) (⟨by rw [hg];first|done|rfl,by rw [hg];first|done|rfl⟩) Y Y) ?_;refine Zm Y<|Zd Y V<|Zd Y V<|Za Y<|AG Y<|Zn [0,3,5,6,8,9] ?_;refine Zx<|Zq<|AQ<|Zq<|Az (n:=12) (0::1::3::7::15::31::63::3::131::511::1023::2047::[]) 0 A6 A6 V<|A2 0 V (AO Y)<|A2 1 V (AO Y)<|Bu (t:=36) Y (fun g1=>?_) (fun g1=>?_)
 ·
  rw [g1];cases g1
 rw [g1];refine AF 2 V<|AF 3 V<|AF 4 V<|AF 5 V<|AF 6 V<|AF 7 V<|AF 8 V<|AF 9 V<|A2 10 V (AL Y Y)<|A2 11 V (Aw Y)<|Ah<|Zx<|Ch Y<|A0<|Zm Y<|AG Y<|Zn [0,5,6,8,46] ?_;refine Zx<|AX Y (fun h4=>by cases h4)<|fun h4=>A0<|Zm Y<|Zp Y V<|Zh 4 F0 V rfl O2 Y<|Zl Mz Y ?_;refine Zo Wh (QB N5 h.its.im Y) ?_;refine Zv (Fw (n:=500) Y Y)<|A3 Y<|Au Y (fun h5=>by omega)<|fun h5=>AC<|A8<|Zx<|Zq<|GM (s:=c.z.S) Wo (fun hd=>?_);rw [Bj.keys]at hd;refine Az (n:=21) (0::1::3::7::0::16::48::112::240::0::0::1024::3072::7168::15360::32767::65535::131071::131071::262143::1048575::[]) 49152 A6 A6 V<|A2 0 V (AO Y)<|A2 1 V (Aq Y V)<|A2 2 V (AB (off:=2) F0 V rfl sizeOf113 Y)<|B3 3 V Iv Y ?_;refine A2 4 V (AO Y)<|A2 5 V (Aq Y V)<|A2 6 V (AB (off:=0) HO V rfl Gk Y)<|A2 7 V (AB (off:=7) Fk V rfl A5 Y)<|B3 8 V AE Y ?_;refine A2 9 V (AO Y)<|A2 10 V (AO Y)<|A2 11 V (Aq Y V)<|A2 12 V (AB (off:=11) HO V rfl As Y)<|E6 13 V Wh (AA (cs:=#[_,_,_]) BW As Y Ax (by exact (by apply HC.1;rfl))) ?_;refine Yz 14 15360 32767 [13,8,3] [false,true,true] [(8,(_,_)),(3,(_,_))] V Y V rfl V rfl (Zu [_] Y call46 Y V (Tv wq (BC q r0 base (DI c.pos base c.win)).1.rows.length wc (I4 (BC q r0 base (DI c.pos base c.win)).1.val) (.bool (BC q r0 base (DI c.pos base c.win)).1.fnd) ⟨V,V⟩ ⟨V,V⟩ qo))<|CT<|B5<|Zz (l:=[15]) ?_;have p9:∀e∈c.PL,e.key≠str (Cv q):=fun e he hk=>by
  obtain ⟨y,B,qz⟩:=Bk.1 ((h.pk e.key).1 (DO he));exact bn y B (qz.trans hk)
 refine B1 [false,false] [] V rfl (Zw [_,_,_,_] Y call45 Y V (wE h.pool hd hk A1 gB (K:=str (Cv q)) p9)) ?_ Bz Ai;rintro _ _ ⟨_,⟨rfl,z2,ep2,cp2,lp2,su2,bp,ql,ek,pq,rfl⟩,rfl⟩;refine B5<|A2 16 V (AO Y)<|A2 17 V (C8 Y V)<|A2 18 V (C8 Y V)<|A2 19 V (Aw Y)<|A2 20 V (Aw Y)<|Ah<|Zn [0,5,6,10,11] ?_;refine Zx<|Zq<|A0<|Zm Y<|Zv (Bo Y)<|A4<|AX Y (fun l8=>by cases l8)<|fun l8=>AC<|Zx<|Zq<|Zq<|BV<|Zg<|Zm Y<|Zm Y<|Ze (Aj (vs:=[_]) (cs:=[_]) Cd F1 HQ Y V rfl V rfl V)<|AD fun ga=>Ze (EZ (by_:=16) (news:=[_]) Cd (V:Tryz.prog.info? 9=some Tryz.t9) V rfl V rfl Y (GU 9) Y Wo Wh AN V Fl AW AW AW) ?_;rintro _ _ ⟨sq,q9,rfl⟩;obtain ⟨gq,cq,rfl⟩:=q9.form;rcases q9 with⟨_,h0,_⟩|⟨gq2,capq,curq,zq,hvq,rfl,hleq,hcmq,hcsq,htkq,hfrq⟩
 · cases h0
 injection hvq with hv1 hv2 hv3
 subst hv1 hv3;have o8:curq[0]?=some (.string (str (Cv q))):=by
  have h:=congrArg (fun l=>l[0]?) htkq;simpa using h
 refine Zv (Aa Cd Y)<|Zm Y<|A4<|AQ<|Zb [90,0,5,6,88,89] ?_;refine BB (e0:=[(90,_)]) (fun m e H=>∃(i:Nat) (cu:Value) (d9:List A9) (af:Array MapEntry) (U:Nat) (j5:List (Int×Value)) (X:Array MapEntry) (J:Nat) (ic:List (ByteArray×Value)) (Z:Array MapEntry) (O:Nat) (j3:List (Int×Value)),m=1 -i/\(i<=1/\GQ (if i=0 then c.its else c.its) c.next af U j5 cu d9 X J ic Z O j3 c.SI)/\e=[(90,I4 (i:Int))]/\H=[[(c.ip,.cells #[.map (some c.mq),cu] 186 (0,0))],[(c.mq,.map af U)],[(c.mi,.map X J)],[(c.mkb,.map Z O)]]) (by exact ⟨0,c.lv,c.ML,c.esQ,c.ckQ,c.lmQ,c.esI,c.ckI,c.lmI,c.esK,c.ckK,c.lmK,V,⟨by decide,h.its⟩,V,V⟩) Wp ?_;rintro _ _ _ ⟨i,cu,d9,af,U,j5,X,J,ic,Z,O,j3,rfl,⟨hi,g⟩,rfl,rfl⟩;refine Zq<|BV<|Zg<|Zv (Av Y Y)<|A4<|Zq<|Au Y (fun ax=>?_) (fun ax=>?_)
 ·
  obtain rfl:i=0:=by simp at ax;omega
  rw [AM rfl]at g;refine AC<|Zx<|Zq<|AQ<|Zq<|BV<|Zg<|BX (BQ Cd F1 Y Y (by first|omega|decide|(simp;done)|(simp at ax⊢;omega)))<|Zl HB Y (hv:=by exact o8) ?_;refine A3 Y<|Zg<|Zm Y<|Zm Y<|Xr [_,_] Y call47 Y V (mR g bn) ?_;refine Z0<|A8<|Zx<|BV<|Zg<|Ya (n:=1) Y Y<|Zm Y<|Z0<|Zn [90,0,5,6,88,89] ?_;refine Ab (e':=[(90,_)]) (by exact ⟨1,cu,d9,af,U,j5,X,J,ic,Z,O,j3,rfl,⟨by decide,by rw [AK AW];exact g⟩,rfl,rfl⟩)
 obtain rfl:i=1:=by simp at ax;omega
 rw [AK AW]at g;refine Ay<|Zt<|Zt<|AR<|Zx<|A0<|Zm Y<|Zm Y<|Zm Y<|Zc [_,_,_] Y call48 Y V (N7 g (x:=(IE b (c.next+1) q (k:Int) base rq rc L (BC q r0 base (DI c.pos base c.win)) wq wc)) bn V qj o9 G) ?_;rintro _ _ ⟨_,⟨rfl,eq5,cq5,lq5,ei5,ci5,li5,ek5,ck5,lk5,gm,rfl⟩,rfl⟩;refine A4<|Zq<|CK (s1:=s2) (s2:=c.MR) Wo Wo ?_;refine CK (s1:=s1) (s2:=c.M) Wo Wo ?_;refine Zg<|A3 Y<|AJ<|AP V results14 Y (by
  refine ⟨rfl,({c with z:=z2,PL:=c.PL++[⟨bp,str (Cv q),(k:Int),(1+((BC q r0 base (DI c.pos base c.win)).1.rows.length:Int))⟩],esP:=ep2,ckP:=cp2,lmP:=lp2,su:=su2,next:=c.next+1,its:=c.its++[(IE b (c.next+1) q (k:Int) base rq rc L (BC q r0 base (DI c.pos base c.win)) wq wc)],esQ:=eq5,ckQ:=cq5,lmQ:=lq5,lv:= .pointer none,ML:=[],esI:=ei5,ckI:=ci5,lmI:=li5,esK:=ek5,ckK:=ck5,lmK:=lk5,SI:=c.SI++[(IE b (c.next+1) q (k:Int) base rq rc L (BC q r0 base (DI c.pos base c.win)) wq wc).ch],M:=s1++c.M,MR:=s2++c.MR}:CZ),b,rq,wq,rc,wc,s1,⟨⟨h.pos,h.win,h.wl,WS h.tookb (fun q G=>by simp [G]),pq,qG h.pk _ _ rfl,gm,fun y B=>?_⟩,fun y B=>?_⟩,⟨rfl,rfl,rfl,rfl,ek⟩,rfl,rfl,rfl,fun e he=>(by rcases BE.1 he with h9|h9;exact .inl h9;exact .inr (by rw [BT.1 h9])),?_⟩
  · rcases BE.1 B with B|B
    · exact h.tns y B
    · rw [BT.1 B];show _<_;exact (by simp only [IE];omega)
  · rcases BE.1 B with B|B
    · exact (h.all y B).mono (fun q G=>by simp [G]) (fun q G=>by simp [G])
    · rw [BT.1 B];exact TJ G ⟨by omega,by omega⟩ hb kv cO gy pz I (qa.mono fun q G=>by simp [G]) (qb.mono fun q G=>by simp [G])
  · simp only [ql];rfl)
set_option maxHeartbeats 1000000 in
theorem kK(h:c.ok)(G:BJ q)(hk:k<c.ns)(zi:k<=1000000)(base:Int)(hb:0<=base/\base<=10000)(hL:G8 ME (.slice pg L.length cg) L)(l8:L.length<=1000000)(X:∀x∈L,x.fits)(ic:EX q L=some r0)(qa:(c.pos -base).toNat<=c.win.length)(J:(BC q r0 base (DI c.pos base c.win)).2.2=true)(vo:c.next<1000000000)(hx:x∈c.its)(O:x.key=str (Cv q))(zm:x.base<base)(wz:(1+((BC q r0 base (DI c.pos base c.win)).1.rows.length:Int))<=c.z.fr)(Tp:TypeId)(zp:Nat×Nat):BZ prog 14 #[.pointer (some ⟨c.cp,0,none⟩),.agg #[I4 q.kd,I4 q.tb,I4 q.cl,I4 q.lo,I4 q.hi,I4 q.bq,I4 q.ot,I4 (k:Int),I4 base,.slice pg L.length cg]] [[(c.cp,.cells #[I4 c.pos,.slice c.wq c.win.length c.wc,.pointer (some ⟨c.z.r,0,none⟩),.pointer (some ⟨c.ip,0,none⟩),.map (some c.mi),.map (some c.mkb),I4 c.next] 120 (0,0))],c.sW,c.z.S,[(c.mb,.map c.esP c.ckP)],c.su,[(c.ip,.cells #[.map (some c.mq),c.lv] 186 (0,0))],[(c.mq,.map c.esQ c.ckQ)],c.ML,[(c.mi,.map c.esI c.ckI)],[(c.mkb,.map c.esK c.ckK)],c.SI,c.M,c.MR,ME,[(1,.cells (Lib.pow10Tab.map fun z=>Value.int .u64 z).toArray Tp zp)]] (fun w H'=>w= .bool true/\∃(d:CZ) (b:Nat) (rq wq:Option Addr) (rc wc:Nat) (s:List A9),d.ok/\c.like d/\d.next=c.next+1/\d.M=s++c.M/\d.its=(c.its.filter fun y=>y.key≠str (Cv q))++[(IE b (c.next+1) q x.tn base rq rc L (BC q r0 base (DI c.pos base c.win)) wq wc)]/\(∀e∈d.PL,e∈c.PL\/e.sz=(1+((BC q r0 base (DI c.pos base c.win)).1.rows.length:Int)))/\H'=[[(d.cp,.cells #[I4 d.pos,.slice d.wq d.win.length d.wc,.pointer (some ⟨d.z.r,0,none⟩),.pointer (some ⟨d.ip,0,none⟩),.map (some d.mi),.map (some d.mkb),I4 d.next] 120 (0,0))],d.sW,d.z.S,[(d.mb,.map d.esP d.ckP)],d.su,[(d.ip,.cells #[.map (some d.mq),d.lv] 186 (0,0))],[(d.mq,.map d.esQ d.ckQ)],d.ML,[(d.mi,.map d.esI d.ckI)],[(d.mkb,.map d.esK d.ckK)],d.SI,d.M,d.MR,ME,[(1,.cells (Lib.pow10Tab.map fun z=>Value.int .u64 z).toArray Tp zp)]]):=by
 have hg:=h.its.get hx;rw [O]at hg;have p8:(x.b,Obj.cells #[I4 x.q.kd,I4 x.q.tb,I4 x.q.cl,I4 x.q.lo,I4 x.q.hi,I4 x.q.bq,I4 x.q.ot,I4 x.tn,I4 x.base,.slice x.rq x.L.length x.rc,I4 x.id,.slice x.wq x.res.rows.length x.wc,I4 x.res.val,.bool x.res.fnd,I4 x.since] 126 (0,0))∈c.SI:=h.its.sub x hx
 have qj:=h.all x hx;have y5:=h.tns x hx
 obtain ⟨k2,ve⟩:∃k2:Nat,x.tn=(k2:Int):=⟨x.tn.toNat,by have:=qj.tn;omega⟩;obtain ⟨y,g,j5⟩:=Bk.1 ((h.pk x.key).2 (DO hx));obtain ⟨L1,L2,ek⟩:=Uz g;have I:=h.pool
 rw [ek]at I;rw [O]at j5;have zb:=h.pool.size g
 have pz:∀z∈(c.its.filter fun y=>y.key≠str (Cv q)),z.key≠str (Cv q):=fun z hz=>by simpa using(Ek.1 hz).2
 have j3:(c.its.filter fun y=>y.key≠str (Cv q)).length<500:=by
  have h1:=h.its.len;have h2:(c.its.filter fun y=>y.key≠str (Cv q)).length<c.its.length:=by
   rcases Dg (c.its.filter fun y=>y.key≠str (Cv q)).length c.its.length with h3|h3
   · exact h3
   · have h4:=SU.eq_of_length (Nat.le_antisymm (MD (fun y=>decide (y.key≠str (Cv q))) c.its) h3)
     exact absurd O (pz x (by rw [h4];exact hx))
  omega
 have vz:(BC q r0 base (DI c.pos base c.win)).1.rows.length<=1000000:=by
  obtain ⟨_,wo,x9⟩:=LV ic;have zl:=h.wl
  have zk:(DI c.pos base c.win).length<=64:=by unfold DI;rw [C2];omega
  have U:=OV _ 0 (r0,base) _ 1000000000000000000 200 (NS J) (fun y g=>by have:=PX h.tookb (r:=y) (ID g);omega) x9 AW wo;have zf:(BC q r0 base (DI c.pos base c.win)).1.rows.length<=_:=U.2
  omega
 refine Se func14 ntmps14 [0,1] ?_;intro u R;refine A0<|Ze (Bx #[I4 q.kd,I4 q.tb,I4 q.cl,I4 q.lo,I4 q.hi,I4 q.bq,I4 q.ot,I4 (k:Int),I4 base,.slice pg L.length cg])<|AD fun be=>A3 Y<|Zq<|A0<|Zm Y<|Zv (Be N6 Y Y)<|A4<|AX Y (fun o9=>by cases o9)<|fun o9=>AC<|Zx<|A0<|Zm Y<|Zo Wh (AA (cs:=#[I4 q.kd,I4 q.tb,I4 q.cl,I4 q.lo,I4 q.hi,I4 q.bq,I4 q.ot,I4 (k:Int),I4 base,.slice pg L.length cg]) SJ Gk Y Wn (by exact BM V)) ?_;refine Zc [_,_] Y call44 Y V (RJ h G (k:Int) base hb hL l8 X ic qa Tp zp) ?_;rintro _ _ ⟨_,⟨b,rq,rc,wq,wc,s1,s2,rfl,sM,sO,rfl⟩,rfl⟩;rw [J];refine Zm Y<|Zd Y V<|Zd Y V<|Zd Y V<|Za Y<|Za Y<|AG Y<|Zn [0,3,5,6,7] ?_;refine Zx<|Zq<|A0<|Zm Y<|Zv (Bo Y)<|A4<|AX Y (fun l9=>by cases l9)<|fun l9=>AC<|Zx<|A0<|Zm Y<|Zp Y V<|Zh 4 F0 V rfl O2 Y<|Zl Mz Y ?_;refine Zm Y<|Zo Wh (E9 (Dj GF (D:=fun _=>True)) N5 Ss h.its.im (fun _ _=>trivial) (trivial) (⟨by rw [hg];first|done|rfl,by rw [hg];first|done|rfl⟩) Y Y) ?_;refine Zm Y<|Zd Y V<|Zd Y V<|Za Y<|AG Y<|Zn [0,3,5,6,8,9] ?_;refine Zx<|Zq<|AQ<|Zq<|Az (n:=12) (0::1::3::7::15::31::63::3::131::511::1023::2047::[]) 0 A6 A6 V<|A2 0 V (AO Y)<|A2 1 V (AO Y)<|Bu (t:=36) Y (fun g1=>?_) (fun g1=>?_)
 ·
  rw [g1];refine AH 2 V (AO Y)<|AH 3 V (Aq Y V)<|AH 4 V (AB (off:=0) HO V rfl Gk Y)<|AH 5 V (AB (off:=8) Fk V rfl A5 Y)<|XE (D':=127) 6 Y V rfl V (FL Wo (p8)) (BO AE Y AN) ?_;refine AH 7 V (AB (off:=8) Fk V rfl A5 Y)<|DA 8 V Wh (BO AE Y AN) ?_;refine AH 9 V (H9 Y Y)<|A2 10 V (AV Y Y)<|A2 11 V (Aw Y)<|Ah<|Zx<|Au Y (fun h3=>by omega)<|fun h3=>A0<|Zm Y<|AG Y<|Zn [0,5,6,8,46] ?_;refine Zx<|AX Y (fun h4=>?_) (fun h4=>?_)
  ·
   refine Zg<|Zm Y<|Zm Y<|Zp Y V<|Zh 0 HO V rfl Gk Y<|Zh 7 Fk V rfl A5 Y<|CQ (Gs Wo (p8)) (BO AE Y AN) V rfl ?_;refine Zp Y V<|Zh 0 HO V rfl Gk Y<|Zh 7 Fk V rfl A5 Y<|Xe (Zs A5 Y Y V (hi:=by(simp;done))) ?_;refine Z0<|A8<|Zx<|Zq<|GM (s:=c.z.S) Wo (fun hd=>?_);rw [Bj.keys]at hd;refine Az (n:=21) (0::1::3::7::0::16::48::112::240::0::0::1024::3072::7168::15360::32767::65535::131071::131071::262143::1048575::[]) 49152 A6 A6 V<|A2 0 V (AO Y)<|A2 1 V (Aq Y V)<|A2 2 V (AB (off:=2) F0 V rfl sizeOf113 Y)<|B3 3 V Iv Y ?_;refine A2 4 V (AO Y)<|A2 5 V (Aq Y V)<|A2 6 V (AB (off:=0) HO V rfl Gk Y)<|A2 7 V (AB (off:=7) Fk V rfl A5 Y)<|B3 8 V AE Y ?_;refine A2 9 V (AO Y)<|A2 10 V (AO Y)<|A2 11 V (Aq Y V)<|A2 12 V (AB (off:=11) HO V rfl As Y)<|E6 13 V Wh (AA (cs:=#[_,_,_]) BW As Y Ax (by exact (by apply HC.1;rfl))) ?_;refine Yz 14 15360 32767 [13,8,3] [false,true,true] [(8,(_,_)),(3,(_,_))] V Y V rfl V rfl (Zu [_] Y call46 Y V (Tv wq (BC q r0 base (DI c.pos base c.win)).1.rows.length wc (I4 (BC q r0 base (DI c.pos base c.win)).1.val) (.bool (BC q r0 base (DI c.pos base c.win)).1.fnd) ⟨V,V⟩ ⟨V,V⟩ vz))<|CT<|B5<|Zz (l:=[15]) ?_;have Z:=wD I hd (k:=k2) A1 (sz:=(1+((BC q r0 base (DI c.pos base c.win)).1.rows.length:Int))) A1 A1
   rw [<-ve,j5]at Z;refine B1 [false,false] [] V rfl (Zw [_,_,_,_] Y call45 Y V (Z)) ?_ Bz Ai;rintro _ _ ⟨_,⟨rfl,z2,ep2,cp2,lp2,su2,bp,vw,gm,q9,rfl⟩,rfl⟩;refine B5<|A2 16 V (AO Y)<|A2 17 V (C8 Y V)<|A2 18 V (C8 Y V)<|A2 19 V (Aw Y)<|A2 20 V (Aw Y)<|Ah<|Zn [0,5,6,10,11] ?_;refine Zx<|Zq<|A0<|Zm Y<|Zv (Bo Y)<|A4<|AX Y (fun o8=>by cases o8)<|fun o8=>AC<|Zx<|Zq<|Zq<|BV<|Zg<|Zm Y<|Zm Y<|Ze (Aj (vs:=[_]) (cs:=[_]) Cd F1 HQ Y V rfl V rfl V)<|AD fun ga=>Ze (EZ (by_:=16) (news:=[_]) Cd (V:Tryz.prog.info? 9=some Tryz.t9) V rfl V rfl Y (GU 9) Y Wo Wh AN V Fl AW AW AW) ?_;rintro _ _ ⟨sq,qb,rfl⟩;obtain ⟨gq,cq,rfl⟩:=qb.form;rcases qb with⟨_,h0,_⟩|⟨gq2,capq,curq,zq,hvq,rfl,hleq,hcmq,hcsq,htkq,hfrq⟩
   · cases h0
   injection hvq with hv1 hv2 hv3
   subst hv1 hv3;have p9:curq[0]?=some (.string (str (Cv q))):=by
    have h:=congrArg (fun l=>l[0]?) htkq;simpa using h
   refine Zv (Aa Cd Y)<|Zm Y<|A4<|AQ<|Zb [90,0,5,6,88,89] ?_;refine BB (e0:=[(90,_)]) (fun m e H=>∃(i:Nat) (kv:Value) (l5:List A9) (d9:Array MapEntry) (bn:Nat) (qw:List (Int×Value)) (cu:Array MapEntry) (af:Nat) (ql:List (ByteArray×Value)) (cO:Array MapEntry) (ax:Nat) (qo:List (Int×Value)),m=1 -i/\(i<=1/\GQ (if i=0 then c.its else(c.its.filter fun y=>y.key≠str (Cv q))) c.next d9 bn qw kv l5 cu af ql cO ax qo c.SI)/\e=[(90,I4 (i:Int))]/\H=[[(c.ip,.cells #[.map (some c.mq),kv] 186 (0,0))],[(c.mq,.map d9 bn)],[(c.mi,.map cu af)],[(c.mkb,.map cO ax)]]) (by exact ⟨0,c.lv,c.ML,c.esQ,c.ckQ,c.lmQ,c.esI,c.ckI,c.lmI,c.esK,c.ckK,c.lmK,V,⟨by decide,h.its⟩,V,V⟩) Wp ?_;rintro _ _ _ ⟨i,kv,l5,d9,bn,qw,cu,af,ql,cO,ax,qo,rfl,⟨hi,B⟩,rfl,rfl⟩;refine Zq<|BV<|Zg<|Zv (Av Y Y)<|A4<|Zq<|Au Y (fun K=>?_) (fun K=>?_)
   ·
    obtain rfl:i=0:=by simp at K;omega
    rw [AM rfl]at B;refine AC<|Zx<|Zq<|AQ<|Zq<|BV<|Zg<|BX (BQ Cd F1 Y Y (by first|omega|decide|(simp;done)|(simp at K⊢;omega)))<|Zl HB Y (hv:=by exact p9) ?_;refine A3 Y<|Zg<|Zm Y<|Zm Y ?_;have pq:=Vs (cp:=c.cp) (r:=c.z.r) (ip:=c.ip) (mi:=c.mi) (mk:=c.mkb) (mq:=c.mq) (pos:=c.pos) (wv:= .slice c.wq c.win.length c.wc) B hx
    rw [O]at pq;refine Zc [_,_] Y call47 Y V (pq) ?_;rintro _ _ ⟨_,⟨rfl,sJ,r9,za,sj,qx,y9,sw,qz,yt,gB,rfl⟩,rfl⟩;refine Z0<|A8<|Zx<|BV<|Zg<|Ya (n:=1) Y Y<|Zm Y<|Z0<|Zn [90,0,5,6,88,89] ?_;refine Ab (e':=[(90,_)]) (by exact ⟨1,_,[],sJ,r9,za,sj,qx,y9,sw,qz,yt,rfl,⟨by decide,by rw [AK AW];exact gB⟩,rfl,rfl⟩)
   obtain rfl:i=1:=by simp at K;omega
   rw [AK AW]at B;refine Ay<|Zt<|Zt<|AR<|Zx<|A0<|Zm Y<|Zm Y<|Zm Y<|Zc [_,_,_] Y call48 Y V (N7 B (x:=(IE b (c.next+1) q x.tn base rq rc L (BC q r0 base (DI c.pos base c.win)) wq wc)) pz V vo j3 G) ?_;rintro _ _ ⟨_,⟨rfl,eq5,cq5,lq5,ei5,ci5,li5,ek5,ck5,lk5,gy,rfl⟩,rfl⟩;refine A4<|Zq<|CK (s1:=s2) (s2:=c.MR) Wo Wo ?_;refine CK (s1:=s1) (s2:=c.M) Wo Wo ?_;refine Zg<|A3 Y<|AJ<|AP V results14 Y (by
    refine ⟨rfl,({c with z:=z2,PL:=L1++L2++[⟨bp,str (Cv q),x.tn,(1+((BC q r0 base (DI c.pos base c.win)).1.rows.length:Int))⟩],esP:=ep2,ckP:=cp2,lmP:=lp2,su:=su2,next:=c.next+1,its:=(c.its.filter fun y=>y.key≠str (Cv q))++[(IE b (c.next+1) q x.tn base rq rc L (BC q r0 base (DI c.pos base c.win)) wq wc)],esQ:=eq5,ckQ:=cq5,lmQ:=lq5,lv:= .pointer none,ML:=[],esI:=ei5,ckI:=ci5,lmI:=li5,esK:=ek5,ckK:=ck5,lmK:=lk5,SI:=c.SI++[(IE b (c.next+1) q x.tn base rq rc L (BC q r0 base (DI c.pos base c.win)) wq wc).ch],M:=s1++c.M,MR:=s2++c.MR}:CZ),b,rq,wq,rc,wc,s1,⟨⟨h.pos,h.win,h.wl,WS h.tookb (fun q G=>by simp [G]),q9,qG (VP h.pk ek h.pool.keys j5) _ _ rfl,gy,fun y g=>?_⟩,fun y g=>?_⟩,⟨rfl,rfl,rfl,rfl,gm⟩,rfl,rfl,rfl,fun e he=>(by rcases BE.1 he with U|U;exact .inl (by rw [ek];rcases BE.1 U with U|U<;>simp [U]);exact .inr (by rw [BT.1 U])),?_⟩
    · rcases BE.1 g with g|g
      · exact h.tns y (Ek.1 g).1
      · rw [BT.1 g];show _<_;exact y5
    · rcases BE.1 g with g|g
      · exact (h.all y (Ek.1 g).1).mono (fun q G=>by simp [G]) (fun q G=>by simp [G])
      · rw [BT.1 g];exact TJ G qj.tn hb l8 X ic qa J (sM.mono fun q G=>by simp [G]) (sO.mono fun q G=>by simp [G])
    · simp only [vw];rfl)
  cases h4
 rw [g1];cases g1
variable{s:List A9}
theorem Pd{b:Nat}{o o':Obj}(h:(b,o)∈s):(b,o')∈IJ b o' s:=Bk.2 ⟨_,h,AM rfl⟩
theorem Ut(b:Nat)(o o':Obj)(s:List A9):IJ b o' (IJ b o s)=IJ b o' s:=by
 unfold IJ;rw [K0];refine Vc fun p _=>?_;show(if(if p.1=b then(b,o)else p).1=b then(b,o')else(if p.1=b then(b,o)else p))=if p.1=b then(b,o')else p
 by_cases h:p.1=b
 · simp only [AM h,Hb]
 · simp only [AK h]
def ItM.upd(x:ItM)(p:Int)(cs:List Chg)(wq:Option Addr)(wc:Nat):ItM:={x with res:=(Ba x.q x.res cs).1,wq:=wq,wc:=wc,since:=p}
structure ItM.live(MR:List A9)(x:ItM):Prop where
 q:BJ x.q
 rw:De MR (.slice x.wq x.res.rows.length x.wc) x.res.rows
 wn:x.res.rows.length<=10000000
 wv:-2000000000000000000<=x.res.val/\x.res.val<=2000000000000000000
theorem ItM.ok.live(h:c.okb)(I:x.ok c.M c.MR c.pos c.win):x.live c.MR:=by
 obtain ⟨r0,m,g⟩:=I.run;obtain ⟨_,B,G⟩:=LV m;have X:=h.wl
 have U:(DI c.pos x.base c.win).length<=64:=by unfold DI;rw [C2];omega
 have J:=OV _ 0 (r0,x.base) _ 1000000000000000000 200 g (fun y Z=>by have:=PX h (r:=y) (ID Z);omega) G AW B;have K:x.res.rows.length<=_:=J.2
 have O:_<=x.res.val/\x.res.val<=_:=J.1;exact ⟨I.q,I.rw,by omega,by omega,by omega⟩
variable{d:CZ}{qa:Option Addr}{cap:Nat}{cs:List Chg}{tl:List ByteArray}{tv:Value}{st:List A9}
set_option maxHeartbeats 1000000 in
theorem nS(h:d.okb)(hx:x∈d.its)(O:x.live d.MR)(p:Int)(hC:Cr ME (.slice qa cs.length cap) cs)(Z:cs.length<=1000)(U:(Ba x.q x.res cs).2.2=true)(hT:Row 9 tv (tl.map Value.string) st)(gy:tl.length<=1000000)(bt br bc:Nat):BZ prog 54 #[.string x.key,.pointer (some ⟨x.b,0,none⟩),I5 bt,I5 br,I5 bc] [[(bt,.cells #[tv] 45 (0,0))],[(br,.cells #[I4 p,.slice qa cs.length cap] 50 (0,0))],[(bc,.cells #[.pointer (some ⟨d.cp,0,none⟩)] 37 (0,0))],st,[(d.cp,.cells d.A33 120 (0,0))],d.sW,d.z.S,[(d.mb,.map d.esP d.ckP)],d.su,[(d.ip,.cells #[.map (some d.mq),d.lv] 186 (0,0))],[(d.mq,.map d.esQ d.ckQ)],d.ML,[(d.mi,.map d.esI d.ckI)],[(d.mkb,.map d.esK d.ckK)],d.SI,d.M,d.MR,ME] (fun v H'=>v=undef/\∃wq wc cO cu s,Row 9 cO ((tl++[x.key]).map Value.string) cu/\De s (.slice wq (Ba x.q x.res cs).1.rows.length wc) (Ba x.q x.res cs).1.rows/\(d.SI.map (·.1)).Nodup/\H'=[[(bt,.cells #[cO] 45 (0,0))],[(br,.cells #[I4 p,.slice qa cs.length cap] 50 (0,0))],[(bc,.cells #[.pointer (some ⟨d.cp,0,none⟩)] 37 (0,0))],cu,[(d.cp,.cells d.A33 120 (0,0))],d.sW,d.z.S,[(d.mb,.map d.esP d.ckP)],d.su,[(d.ip,.cells #[.map (some d.mq),d.lv] 186 (0,0))],[(d.mq,.map d.esQ d.ckQ)],d.ML,[(d.mi,.map d.esI d.ckI)],[(d.mkb,.map d.esK d.ckK)],IJ x.b (x.upd p cs wq wc).obj d.SI,d.M,s++d.MR,ME]):=by
 have gq:=mL;have B:(x.b,Obj.cells x.A32 126 (0,0))∈d.SI:=h.its.sub x hx
 obtain ⟨gt,ct,rfl⟩:=hT.form;refine Se func54 ntmps54 [0,1,2,3,4] ?_;intro u R;refine Zq<|GM (s:=d.SI) Wo (fun af=>?_);refine Zg<|Zl Kf Y ?_;refine Zm Y<|Ze (Aj (vs:=[_]) (cs:=[_]) Cd F1 HQ Y V rfl V rfl V)<|AD fun gb=>Ze (EZ (by_:=16) (news:=[_]) Cd (V:Tryz.prog.info? 9=some Tryz.t9) V rfl V rfl Y hT Y Wo Wh AN V Fl AW (by(simp only [B2];omega)) (by(simp only [B2];omega))) ?_;rintro _ _ ⟨ax,K,rfl⟩;obtain ⟨gm,ek,rfl⟩:=K.form;refine Xe (Zs HH Y Y V) ?_;refine A4<|Zq<|Az (n:=19) (0::1::3::7::15::0::32::96::224::0::1023::2047::4095::4095::4095::0::40959::114687::262143::[]) 99328 A6 A6 V<|A2 0 V (AO Y)<|A2 1 V (Aq Y V)<|A2 2 V (AB (off:=0) HO V rfl Gk Y)<|A2 3 V (Ap (off:=0) Fk V rfl CC Y)<|D8 (D':=31) 4 V rfl V (FL Wo (B)) (AA (cs:=#[_,_,_,_,_,_,_]) E4 CC Y Ax (by exact (by apply HC.1;rfl))) ?_;refine A2 5 V (AO Y)<|A2 6 V (Aq Y V)<|A2 7 V (AB (off:=11) HO V rfl As Y)<|D8 (D':=511) 8 V rfl V (FL Wo (B)) (AA (cs:=#[_,_,_]) BW As Y Ax (by exact (by apply HC.1;rfl))) ?_;refine E6 9 V Wh (AA (cs:=#[_,_]) HW F2 Y Ax (by exact BM V)) ?_;refine Zz (l:=[10,15])<|B1 [false,false,false] [] V rfl (Zw [_,_,_] Y call55 Y V (JJ x.q O.q p qa cap cs hC Z O.rw O.wn O.wv)) ?_ Bz ?_
 ·
  rintro _ _ ⟨_,⟨d9,s3,rfl,g,rfl⟩,rfl⟩;refine ⟨AZ,?_⟩;obtain ⟨G,m,rfl⟩:=g.form;rw [U];refine A2 11 V (AO Y)<|A2 12 V (C8 Y V)<|A2 13 V (C8 Y V)<|A2 14 V (C8 Y V)<|Zz (l:=[15])<|B1 [] [] V rfl (Al G3 #[_,_,_]) ?_ (fun _ _ h=>h.elim) Ai;rintro _ _ ⟨bn,rfl,rfl⟩;refine B5<|Yw 16 131071 V (Xw As #[.slice G (Ba x.q x.res cs).1.rows.length m,I4 (Ba x.q x.res cs).1.val,.bool (Ba x.q x.res cs).1.fnd])<|CT<|A2 17 V (Aw Y)<|A2 18 V (Aw Y)<|Ah<|Zn [0,1,3,4,7,9] ?_;refine Zx<|Zq<|A0<|Zm Y<|Zv (Bo Y)<|A4<|AX Y (fun I=>by cases I)<|fun I=>AC<|Zx ?_;have X:=MI g
  have J:(x.b,Obj.cells #[I4 x.q.kd,I4 x.q.tb,I4 x.q.cl,I4 x.q.lo,I4 x.q.hi,I4 x.q.bq,I4 x.q.ot,I4 x.tn,I4 x.base,.slice x.rq x.L.length x.rc,I4 x.id,.slice G (Ba x.q x.res cs).1.rows.length m,I4 (Ba x.q x.res cs).1.val,.bool (Ba x.q x.res cs).1.fnd,I4 x.since] 126 (0,0))∈IJ x.b (.cells #[I4 x.q.kd,I4 x.q.tb,I4 x.q.cl,I4 x.q.lo,I4 x.q.hi,I4 x.q.bq,I4 x.q.ot,I4 x.tn,I4 x.base,.slice x.rq x.L.length x.rc,I4 x.id,.slice G (Ba x.q x.res cs).1.rows.length m,I4 (Ba x.q x.res cs).1.val,.bool (Ba x.q x.res cs).1.fnd,I4 x.since] 126 (0,0)) d.SI:=Pd B;refine CK (s1:=s3) (s2:=d.MR) Wo Wo ?_;refine Az (n:=11) (0::0::0::0::8::5::37::101::255::511::1023::[]) 1152 A6 A6 V<|A2 0 V (AO Y)<|A2 1 V (AO Y)<|E6 2 V Wh (AA (cs:=#[_,_,_]) BW As Y Ax (by exact BM V)) ?_;refine A2 3 V (AB (off:=0) GS V rfl A5 Y)<|B3 4 V AE Y ?_;refine A2 5 rfl (Aq Y rfl)<|A2 6 rfl (AB (off:=11) HO rfl rfl As Y)<|Zz (l:=[7])<|B1 [true,false] [(4,(_,_))] rfl rfl (O7 As Y Y HJ Wo (B) (by exact congrArg (fun a=>IJ x.b (Obj.cells a 126 (0,0)) d.SI) (rfl:_=(#[I4 x.q.kd,I4 x.q.tb,I4 x.q.cl,I4 x.q.lo,I4 x.q.hi,I4 x.q.bq,I4 x.q.ot,I4 x.tn,I4 x.base,.slice x.rq x.L.length x.rc,I4 x.id,.slice G (Ba x.q x.res cs).1.rows.length m,I4 (Ba x.q x.res cs).1.val,.bool (Ba x.q x.res cs).1.fnd,I4 x.since]:Array Value))) E3 Ax (by exact BA _)) ?_ (fun _ _ h=>h.elim) Ai;rintro _ _ ⟨rfl,rfl⟩;refine B5<|A2 8 V (Aq Y V)<|A2 9 V (AB (off:=14) HO V rfl A5 Y)<|Zz (l:=[10])<|B1 [false] [] V rfl (Gj A5 Y Y V Wo (J) (by exact (Ut _ _ _ _).trans (congrArg (fun a=>IJ x.b (Obj.cells a 126 (0,0)) d.SI) (V:_=(#[I4 x.q.kd,I4 x.q.tb,I4 x.q.cl,I4 x.q.lo,I4 x.q.hi,I4 x.q.bq,I4 x.q.ot,I4 x.tn,I4 x.base,.slice x.rq x.L.length x.rc,I4 x.id,.slice G (Ba x.q x.res cs).1.rows.length m,I4 (Ba x.q x.res cs).1.val,.bool (Ba x.q x.res cs).1.fnd,I4 p]:Array Value)))) Ax (by exact BA _)) ?_ (fun _ _ h=>h.elim) Ai;rintro _ _ ⟨rfl,rfl⟩
  refine B5<|Ah<|Cz rfl results54 (by exact ⟨rfl,G,m,_,ax,s3,(by rw [Bm];exact K),DU g X,af,rfl⟩)
 refine B1 [true,true,true] [(9,(_,_)),(8,(_,_)),(4,(_,_))] V rfl (Al G3 #[_,_,_]) ?_ (fun _ _ h=>h.elim) Ai;rintro _ _ ⟨bn,rfl,rfl⟩;refine ⟨Zk (FE (by simp [*]) (FE (by simp [*]) (AZ))),?_⟩;refine Zz (l:=[10])<|B1 [false,false,false] [] V rfl (Zw [_,_,_] Y call55 Y V (JJ x.q O.q p qa cap cs hC Z O.rw O.wn O.wv)) ?_ Bz Ai;rintro _ _ ⟨_,⟨d9,s3,rfl,g,rfl⟩,rfl⟩;refine ⟨AZ,?_⟩;obtain ⟨G,m,rfl⟩:=g.form;rw [U];refine A2 11 V (AO Y)<|A2 12 V (C8 Y V)<|A2 13 V (C8 Y V)<|A2 14 V (C8 Y V)<|Zz (l:=[16])<|B1 [] [] V rfl (Xw As #[.slice G (Ba x.q x.res cs).1.rows.length m,I4 (Ba x.q x.res cs).1.val,.bool (Ba x.q x.res cs).1.fnd]) ?_ (fun _ _ h=>h.elim) Ai;rintro _ _ ⟨rfl,rfl⟩;refine B5<|A2 17 V (Aw Y)<|A2 18 V (Aw Y)<|Ah<|Zn [0,1,3,4,7,9] ?_;refine Zx<|Zq<|A0<|Zm Y<|Zv (Bo Y)<|A4<|AX Y (fun I=>by cases I)<|fun I=>AC<|Zx ?_;have X:=MI g
 have J:(x.b,Obj.cells #[I4 x.q.kd,I4 x.q.tb,I4 x.q.cl,I4 x.q.lo,I4 x.q.hi,I4 x.q.bq,I4 x.q.ot,I4 x.tn,I4 x.base,.slice x.rq x.L.length x.rc,I4 x.id,.slice G (Ba x.q x.res cs).1.rows.length m,I4 (Ba x.q x.res cs).1.val,.bool (Ba x.q x.res cs).1.fnd,I4 x.since] 126 (0,0))∈IJ x.b (.cells #[I4 x.q.kd,I4 x.q.tb,I4 x.q.cl,I4 x.q.lo,I4 x.q.hi,I4 x.q.bq,I4 x.q.ot,I4 x.tn,I4 x.base,.slice x.rq x.L.length x.rc,I4 x.id,.slice G (Ba x.q x.res cs).1.rows.length m,I4 (Ba x.q x.res cs).1.val,.bool (Ba x.q x.res cs).1.fnd,I4 x.since] 126 (0,0)) d.SI:=Pd B;refine CK (s1:=s3) (s2:=d.MR) Wo Wo ?_;refine Az (n:=11) (0::0::0::0::8::5::37::101::255::511::1023::[]) 1152 A6 A6 V<|A2 0 V (AO Y)<|A2 1 V (AO Y)<|E6 2 V Wh (AA (cs:=#[_,_,_]) BW As Y Ax (by exact BM V)) ?_;refine A2 3 V (AB (off:=0) GS V rfl A5 Y)<|B3 4 V AE Y ?_;refine A2 5 rfl (Aq Y rfl)<|A2 6 rfl (AB (off:=11) HO rfl rfl As Y)<|Zz (l:=[7])<|B1 [true,false] [(4,(_,_))] rfl rfl (O7 As Y Y HJ Wo (B) (by exact congrArg (fun a=>IJ x.b (Obj.cells a 126 (0,0)) d.SI) (rfl:_=(#[I4 x.q.kd,I4 x.q.tb,I4 x.q.cl,I4 x.q.lo,I4 x.q.hi,I4 x.q.bq,I4 x.q.ot,I4 x.tn,I4 x.base,.slice x.rq x.L.length x.rc,I4 x.id,.slice G (Ba x.q x.res cs).1.rows.length m,I4 (Ba x.q x.res cs).1.val,.bool (Ba x.q x.res cs).1.fnd,I4 x.since]:Array Value))) E3 Ax (by exact BA _)) ?_ (fun _ _ h=>h.elim) Ai;rintro _ _ ⟨rfl,rfl⟩;refine B5<|A2 8 V (Aq Y V)<|A2 9 V (AB (off:=14) HO V rfl A5 Y)<|Zz (l:=[10])<|B1 [false] [] V rfl (Gj A5 Y Y V Wo (J) (by exact (Ut _ _ _ _).trans (congrArg (fun a=>IJ x.b (Obj.cells a 126 (0,0)) d.SI) (V:_=(#[I4 x.q.kd,I4 x.q.tb,I4 x.q.cl,I4 x.q.lo,I4 x.q.hi,I4 x.q.bq,I4 x.q.ot,I4 x.tn,I4 x.base,.slice x.rq x.L.length x.rc,I4 x.id,.slice G (Ba x.q x.res cs).1.rows.length m,I4 (Ba x.q x.res cs).1.val,.bool (Ba x.q x.res cs).1.fnd,I4 p]:Array Value)))) Ax (by exact BA _)) ?_ (fun _ _ h=>h.elim) Ai;rintro _ _ ⟨rfl,rfl⟩
 refine B5<|Ah<|Cz rfl results54 (by exact ⟨rfl,G,m,_,ax,s3,(by rw [Bm];exact K),DU g X,af,rfl⟩)
set_option maxHeartbeats 1000000 in
theorem nT(h:d.okb)(hx:x∈d.its)(G:x.live d.MR)(p:Int)(hC:Cr ME (.slice qa cs.length cap) cs)(cu:cs.length<=1000)(I:(Ba x.q x.res cs).2.2=false)(hT:Row 9 tv (tl.map Value.string) st)(gy:tl.length<=1000000)(bt br bc:Nat):BZ prog 54 #[.string x.key,.pointer (some ⟨x.b,0,none⟩),I5 bt,I5 br,I5 bc] [[(bt,.cells #[tv] 45 (0,0))],[(br,.cells #[I4 p,.slice qa cs.length cap] 50 (0,0))],[(bc,.cells #[.pointer (some ⟨d.cp,0,none⟩)] 37 (0,0))],st,[(d.cp,.cells d.A33 120 (0,0))],d.sW,d.z.S,[(d.mb,.map d.esP d.ckP)],d.su,[(d.ip,.cells #[.map (some d.mq),d.lv] 186 (0,0))],[(d.mq,.map d.esQ d.ckQ)],d.ML,[(d.mi,.map d.esI d.ckI)],[(d.mkb,.map d.esK d.ckK)],d.SI,d.M,d.MR,ME] (fun v H'=>v=undef/\∃(d2:CZ) (tv':Value) (st':List A9),d2.okb/\d.like d2/\d2.next=d.next/\(d2.M=d.M/\d2.MR=d.MR)/\d2.SI=d.SI/\d2.its=(d.its.filter fun y=>y.key≠x.key)/\(∀e∈d2.PL,e∈d.PL)/\Row 9 tv' ((tl++[x.key]).map Value.string) st'/\H'=[[(bt,.cells #[tv'] 45 (0,0))],[(br,.cells #[I4 p,.slice qa cs.length cap] 50 (0,0))],[(bc,.cells #[.pointer (some ⟨d.cp,0,none⟩)] 37 (0,0))],st',[(d2.cp,.cells d2.A33 120 (0,0))],d2.sW,d2.z.S,[(d2.mb,.map d2.esP d2.ckP)],d2.su,[(d2.ip,.cells #[.map (some d2.mq),d2.lv] 186 (0,0))],[(d2.mq,.map d2.esQ d2.ckQ)],d2.ML,[(d2.mi,.map d2.esI d2.ckI)],[(d2.mkb,.map d2.esK d2.ckK)],d2.SI,d2.M,d2.MR,ME]):=by
 have gq:=mL;have ax:(x.b,Obj.cells x.A32 126 (0,0))∈d.SI:=h.its.sub x hx
 obtain ⟨gt,ct,rfl⟩:=hT.form;refine Se func54 ntmps54 [0,1,2,3,4] ?_;intro u R;refine A0<|Zl Kf Y ?_;refine Zm Y<|Ze (Aj (vs:=[_]) (cs:=[_]) Cd F1 HQ Y V rfl V rfl V)<|AD fun gb=>Ze (EZ (by_:=16) (news:=[_]) Cd (V:Tryz.prog.info? 9=some Tryz.t9) V rfl V rfl Y hT Y Wo Wh AN V Fl AW (by(simp only [B2];omega)) (by(simp only [B2];omega))) ?_;rintro _ _ ⟨cO,B,rfl⟩;obtain ⟨gm,ek,rfl⟩:=B.form;refine Xe (Zs HH Y Y V) ?_;refine A4<|Zq<|Az (n:=19) (0::1::3::7::15::0::32::96::224::0::1023::2047::4095::4095::4095::0::40959::114687::262143::[]) 99328 A6 A6 V<|A2 0 V (AO Y)<|A2 1 V (Aq Y V)<|A2 2 V (AB (off:=0) HO V rfl Gk Y)<|A2 3 V (Ap (off:=0) Fk V rfl CC Y)<|D8 (D':=31) 4 V rfl V (FL Wo (ax)) (AA (cs:=#[_,_,_,_,_,_,_]) E4 CC Y Ax (by exact (by apply HC.1;rfl))) ?_;refine A2 5 V (AO Y)<|A2 6 V (Aq Y V)<|A2 7 V (AB (off:=11) HO V rfl As Y)<|D8 (D':=511) 8 V rfl V (FL Wo (ax)) (AA (cs:=#[_,_,_]) BW As Y Ax (by exact (by apply HC.1;rfl))) ?_;refine E6 9 V Wh (AA (cs:=#[_,_]) HW F2 Y Ax (by exact BM V)) ?_;refine Zz (l:=[10,15])<|B1 [false,false,false] [] V rfl (Zw [_,_,_] Y call55 Y V (JJ x.q G.q p qa cap cs hC cu G.rw G.wn G.wv)) ?_ Bz ?_
 ·
  rintro _ _ ⟨_,⟨d9,s3,rfl,g,rfl⟩,rfl⟩;refine ⟨AZ,?_⟩;obtain ⟨w3,c3,rfl⟩:=g.form;rw [I];refine A2 11 V (AO Y)<|A2 12 V (C8 Y V)<|A2 13 V (C8 Y V)<|A2 14 V (C8 Y V)<|Zz (l:=[15])<|B1 [] [] V rfl (Al G3 #[_,_,_]) ?_ (fun _ _ h=>h.elim) Ai;rintro _ _ ⟨bn,rfl,rfl⟩;refine B5<|Yw 16 131071 V (Xw As #[.slice w3 (Ba x.q x.res cs).1.rows.length c3,I4 (Ba x.q x.res cs).1.val,.bool (Ba x.q x.res cs).1.fnd])<|CT<|A2 17 V (Aw Y)<|A2 18 V (Aw Y)<|Ah<|Zn [0,1,3,4,7,9] ?_;refine Zx<|Zq<|A0<|Zm Y<|Zv (Bo Y)<|A4<|AX Y (fun m=>?_) (fun m=>?_)
  ·
   refine A0<|Zl J0 Y ?_;refine Zm Y<|Zc [_,_] Y call26 Y V (XY h hx) ?_;rintro _ _ ⟨_,⟨rfl,d2,J,K,O,U,X,_,Z,af,rfl⟩,rfl⟩;refine A4<|AJ<|Zt<|Cz rfl results54 (by exact ⟨rfl,d2,_,cO,J,K,O,U,X,Z,af,(by rw [Bm];exact B),rfl⟩)
  cases m
 refine B1 [true,true,true] [(9,(_,_)),(8,(_,_)),(4,(_,_))] V rfl (Al G3 #[_,_,_]) ?_ (fun _ _ h=>h.elim) Ai;rintro _ _ ⟨bn,rfl,rfl⟩;refine ⟨Zk (FE (by simp [*]) (FE (by simp [*]) (AZ))),?_⟩;refine Zz (l:=[10])<|B1 [false,false,false] [] V rfl (Zw [_,_,_] Y call55 Y V (JJ x.q G.q p qa cap cs hC cu G.rw G.wn G.wv)) ?_ Bz Ai;rintro _ _ ⟨_,⟨d9,s3,rfl,g,rfl⟩,rfl⟩;refine ⟨AZ,?_⟩;obtain ⟨w3,c3,rfl⟩:=g.form;rw [I];refine A2 11 V (AO Y)<|A2 12 V (C8 Y V)<|A2 13 V (C8 Y V)<|A2 14 V (C8 Y V)<|Zz (l:=[16])<|B1 [] [] V rfl (Xw As #[.slice w3 (Ba x.q x.res cs).1.rows.length c3,I4 (Ba x.q x.res cs).1.val,.bool (Ba x.q x.res cs).1.fnd]) ?_ (fun _ _ h=>h.elim) Ai;rintro _ _ ⟨rfl,rfl⟩;refine B5<|A2 17 V (Aw Y)<|A2 18 V (Aw Y)<|Ah<|Zn [0,1,3,4,7,9] ?_;refine Zx<|Zq<|A0<|Zm Y<|Zv (Bo Y)<|A4<|AX Y (fun m=>?_) (fun m=>?_)
 ·
  refine A0<|Zl J0 Y ?_;refine Zm Y<|Zc [_,_] Y call26 Y V (XY h hx) ?_;rintro _ _ ⟨_,⟨rfl,d2,J,K,O,U,X,_,Z,af,rfl⟩,rfl⟩;refine A4<|AJ<|Zt<|Cz rfl results54 (by exact ⟨rfl,d2,_,cO,J,K,O,U,X,Z,af,(by rw [Bm];exact B),rfl⟩)
 cases m
theorem aU{P:Program}{f:FuncId}{args:Array Value}{A B g:List A9}{Q:Value->List A9->Prop}(G:s.Perm (A++(B++g)))(h:BZ P f args [A,B] (fun r H'=>∃m,Q r m/\H'=[A,B,m])):BZ P f args [s] (fun r H'=>∃m,Q r m/\H'=[s,m]):=fun u R w J=>by
 have I:Sat u ([A,B]++([g]++R)) w:=J.perm (by
  simp only [PJ,Ks,C5];have:=G.append_right R.flatten
  simpa only [CN]using this)
 refine (h u ([g]++R) w I).mono ?_;rintro e K (⟨v,H',rfl,⟨m,hq,rfl⟩,hsat⟩|⟨_,_,_,h,_⟩)
 · refine .inl ⟨v,_,rfl,⟨m,hq,rfl⟩,hsat.perm ?_⟩
   simp only [PJ,Ks,C5];have e1:(A++(B++(m++(g++R.flatten)))).Perm ((A++(B++g))++(m++R.flatten)):=by
    simp only [CN];refine RK A (RK B ?_);rw [<-CN,<-CN];exact LR.append_right _
   exact e1.trans (G.symm.append_right _)
 · exact h.elim
theorem yX{a b:A9}(O:(s.map (·.1)).Nodup)(J:a∈s)(K:b∈s)(m:a.1≠b.1):∃g,s.Perm ([a]++([b]++g)):=by
 obtain ⟨X,Y,rfl⟩:=aq J;have B:b∈X++Y:=by
  rcases BE.1 K with h|h
  · exact DP _ h
  · rcases D2.1 h with h|h
    · exact absurd (by rw [h]) m
    · exact Fm _ h
 obtain ⟨G,I,h2⟩:=aq B;refine ⟨G++I,RW.trans (List.Perm.cons a ?_)⟩;rw [h2];exact RW
noncomputable def J5(c:CZ)(k:ByteArray):Bool:=@decide (∃x∈c.its,x.key=k/\x.base<c.pos -64) (Classical.propDecidable _)
def ze(c:CZ)(pre:List ByteArray)(s:List A9):Prop:=∃d:CZ,d.okb/\d.cp=c.cp/\d.mi=c.mi/\d.pos=c.pos/\(∀y,y∈d.its↔y∈c.its/\y.key∉pre)/\(d.cp,Obj.cells d.A33 120 (0,0))∈s/\(d.mi,Obj.map d.esI d.ckI)∈s/\∀q∈d.SI,q∈s
def bB(c:CZ)(p:List ByteArray):Prop:=∃zs:List ByteArray,zs.Perm (c.its.map ItM.key)/\∃post,zs.filter (J5 c)=p++post
def WI(c:CZ)(ys:List ByteArray):Prop:=∃zs:List ByteArray,zs.Perm (c.its.map ItM.key)/\ys=zs.filter (J5 c)
theorem Ph(G:(c.its.map ItM.key).Nodup)(g:x∈c.its):J5 c x.key=true↔x.base<c.pos -64:=by
 unfold J5;rw [@decide_eq_true_eq _ (Classical.propDecidable _)];constructor
 · rintro ⟨y,I,B,m⟩
   rwa [FV G I g B]at m
 · intro h;exact ⟨x,g,rfl,h⟩
theorem M0{α:Type}{l:List α}{f:α->Bool}{i:Nat}{x:α}(h:l[i]?=some x):(l.take (i+1)).filter f=(l.take i).filter f++(if f x=true then [x]else [])/\∃g,l.filter f=(l.take i).filter f++(if f x=true then [x]else [])++g:=by
 have e:(l.take (i+1)).filter f=(l.take i).filter f++(if f x=true then [x]else []):=by
  rw [Bn h,Hh];congr 1;by_cases m:f x=true
  · rw [AM m,List.filter_cons_of_pos m];rfl
  · rw [AK m,j0 m];rfl
 refine ⟨e,(l.drop (i+1)).filter f,?_⟩;rw [<-e,<-Hh,I3]
theorem bT{l:List ByteArray}(g:l.Nodup){i:Nat}{x:ByteArray}(h:l[i]?=some x)(f:ByteArray->Bool):x∉(l.take i).filter f:=fun I=>by
 have m:=(Ek.1 I).1;have h2:l=l.take i++x::l.drop (i+1):=by
  obtain ⟨B,G⟩:=B9.1 h;rw [<-G,<-RE B,I3]
 rw [h2,Ge]at g;exact g.2.2 x m x (Dd ..) V
theorem uI(h:c.okb)(I:(s.map (·.1)).Nodup)(g:(c.cp,Obj.cells c.A33 120 (0,0))∈s)(h2:(c.mi,Obj.map c.esI c.ckI)∈s):BZ prog 19 #[.pointer (some ⟨c.cp,0,none⟩)] [s] (fun r H'=>∃m,(∃zs:List ByteArray,zs.Perm (c.its.map ItM.key)/\(zs.Pairwise fun x y=>x.data.toList<=y.data.toList)/\Row 9 r (zs.map Value.string) m)/\H'=[s,m]):=by
 have G:c.cp≠c.mi:=fun O=>by
  have B:=FV I g h2 O;injection B with _ B
  cases B
 obtain ⟨J,U⟩:=yX I g h2 G;refine aU U ((Nv h).mono ?_);rintro r H' ⟨zs,m,g,h2,K,rfl⟩;exact ⟨m,⟨zs,g,h2,K⟩,V⟩
theorem bZ(c:CZ):BZ prog 57 #[.pointer (some ⟨c.cp,0,none⟩)] [] (fun r H'=>∃g,r= .func (.func 115) #[] #[I5 g]/\H'=[[(g,.cells #[.pointer (some ⟨c.cp,0,none⟩)] 37 (0,0))]]):=by
 refine Se func57 ntmps57 [0] ?_;intro u R;refine A0<|Ze (Bx #[_])<|AD fun g=>A3 Y<|A0<|Zv (Bg (vs:=[]) (us:=[_]) Y Y)<|A3 Y<|AJ<|AP V results57 Y (by exact ⟨g,V,V⟩)
set_option maxHeartbeats 1000000 in
theorem cB(h:c.okb)(bc:Nat):KP prog 115 #[I5 bc] [[(bc,.cells #[.pointer (some ⟨c.cp,0,none⟩)] 37 (0,0))]] (ze c) (fun x:ByteArray=>#[.string x]) (bB c) (WI c):=by
 intro l J hA hy s K;obtain ⟨d0,af,O,p8,p9,bn,gq,gB,pg⟩:=hA _ _ K;have U:(d0.its.map ItM.key).Perm (c.its.map ItM.key):=(OR af.its.keys h.its.keys).2 fun a=>by
  simp only [Bk,bn,RT,not_false_eq_true,dp]
 have pq:=h.its.len;have cu:=h.its.keys
 refine Se func115 ntmps115 [0,1] ?_;intro u R;refine Zq<|GM (s:=s) Wo (fun l8=>?_);rw [<-O];refine Zg<|Zl J0 Y ?_;refine Zc [_] Y call19 Y V (uI af l8 gq gB) ?_;rintro _ _ ⟨_,⟨sk,⟨zs,g,qa,Z⟩,rfl⟩,rfl⟩;replace g:=g.trans U;have o8:=g.length_eq
 rw [B2]at o8;have o9:zs.Nodup:=g.nodup_iff.2 cu
 obtain ⟨pk,ck,rfl⟩:=Z.form;simp only [B2];rw [B2]at Z;refine Zv (Aa Cd Y)<|Zm Y<|A4<|AQ<|Zb [8,0,1,6,7] ?_;refine BB (e0:=[(8,_)]) (fun m e H=>∃(i:Nat) (s:List A9),m=zs.length -i/\(i<=zs.length/\J ((zs.take i).filter (J5 c)) s)/\e=[(8,I4 (i:Int))]/\H=[s]) (by exact ⟨0,s,V,⟨C0 _,K⟩,V,V⟩) Wp ?_;rintro _ _ _ ⟨i,s,rfl,⟨hi,K⟩,rfl,rfl⟩;refine A0<|Zv (Av Y Y)<|A4<|Zq<|Au Y (fun X=>?_) (fun X=>?_)
 ·
  obtain ⟨k,hk⟩:∃k,zs[i]?=some k:=⟨_,B4 A1⟩;obtain ⟨x,hx,rfl⟩:=Bk.1 (g.mem_iff.1 (DE hk));obtain ⟨ax,gm,G⟩:=M0 (f:=J5 c) hk;have l5:=bT o9 hk (J5 c)
  obtain ⟨d,hd,j5,pz,cO,kv,hC,hM,hS⟩:=hA _ _ K;have ek:x∈d.its:=(kv x).2 ⟨hx,l5⟩
  have hg:=hd.its.get ek;have ic:(x.b,Obj.cells x.A32 126 (0,0))∈s:=hS _ (hd.its.sub x ek)
  have d9:=Ph cu hx;rw [show d.cp=d0.cp from j5.trans O.symm]at hC;have q9:zs[i]?=some x.key:=hk
  rcases Z with⟨_,h0,_⟩|⟨gk,capk,curk,zk,hvk,rfl,hlek,hcmk,hcsk,htkk,hfrk⟩
  · simp at h0;subst h0;simp at X
  injection hvk with hv1 hv2 hv3
  subst hv1 hv3;have j3:curk[i]?=some (.string x.key):=by
   have h:=congrArg (fun l=>l[i]?) htkk;simp only [HA,B2,AM X,DM,hk]at h;simpa using h
  refine AC<|Zx<|Zq<|AQ<|A0<|BX (BQ Cd F1 Y Y (by first|omega|(simp;omega)))<|Zl HB Y (hv:=by exact j3) ?_;refine A3 Y<|Zq<|Az (n:=22) (0::1::3::7::0::31::63::127::255::511::0::1024::3072::7168::15360::32767::65535::131071::131071::524287::1048575::2097151::[]) 524288 A6 A6 V<|B3 0 V J0 Y ?_;refine A2 1 V (Aq Y V)<|A2 2 V (AB (off:=4) F0 V rfl O2 Y)<|D8 (D':=15) 3 V rfl V (FL Wo (hC)) (BO Mz Y AN) ?_;refine A2 4 rfl (AO Y)<|D8 (D':=63) 5 rfl rfl rfl (FL Wo (hM)) (Db (Dj GF (D:=fun _=>True)) N5 Ss hd.its.im (fun _ _=>trivial) (trivial) (by rw [hg];first|done|rfl) Y Y) ?_;refine A2 6 V (Aq Y V)<|A2 7 V (AB (off:=0) HO V rfl Gk Y)<|A2 8 V (Ap (off:=8) Fk V rfl A5 Y)<|D8 (D':=1023) 9 V rfl V (FL Wo (ic)) (BO AE Y AN) ?_;refine B3 10 V J0 Y ?_;refine A2 11 V (Aq Y V)<|A2 12 V (AB (off:=0) F0 V rfl A5 Y)<|D8 (D':=16383) 13 V rfl V (FL Wo (hC)) (BO AE Y AN) ?_
  (refine Dp (D':=32767) 14 (GG Y Y (IntWalk.i64_in _ ?_)) ?_;(focus (have:=hd.pos;omega)))
  refine A2 15 V (Dt Y Y)<|A2 16 V (AO Y)<|CW (t:=28) Y (fun B=>?_) (fun B=>?_)
  ·
   rw [CM B];have I:J5 c x.key=true:=d9.2 (by rw [<-cO];exact B)
   rw [AM I]at G;have l9:=hy _ x.key s ⟨zs,g,gm,G⟩ K
   refine AH 17 V (AO Y)<|AH 18 V (AO Y)<|Yw 19 1048575 V (GR (vs:=[_]) Y Y (l9) Wp) ?_;rintro _ _ ⟨_,⟨s',rfl,rfl,gy⟩,rfl⟩;refine AH 20 V (Bo Y)<|A2 21 V (AV Y Y)<|Ah<|Zn [0,1,6,7,8,33] ?_;refine Zx<|AX Y (fun hb=>by cases hb)<|fun hb=>AC<|A8<|Zx<|Zg<|Ya (n:=1) Y Y<|Zm Y<|Z0<|Zn [8,0,1,6,7] ?_;refine Ab (e':=[(8,_)]) (by exact ⟨i+1,s',rfl,⟨by omega,by rw [ax,AM I];exact gy⟩,rfl,rfl⟩)
  rw [C4 B];have I:¬J5 c x.key=true:=fun h9=>B (by rw [cO];exact d9.1 h9)
  refine AF 17 V<|AF 18 V<|AF 19 V<|AF 20 V<|A2 21 V (AL Y Y)<|Ah<|Zn [0,1,6,7,8,33] ?_;refine Zx<|Ch Y<|AC<|A8<|Zx<|Zg<|Ya (n:=1) Y Y<|Zm Y<|Z0<|Zn [8,0,1,6,7] ?_;refine Ab (e':=[(8,_)]) (by exact ⟨i+1,s,rfl,⟨by omega,by rw [ax,AK I,DB];exact K⟩,rfl,rfl⟩)
 obtain rfl:i=zs.length:=by omega
 rw [G0]at K;refine Ay<|Zt<|Zt<|AR<|Cz V results115 (by exact ⟨_,s,⟨zs,g,V⟩,V,K⟩)
def ItM.core(x:ItM):ItM:={x with res:=CE.none,wq:=none,wc:=0,since:=0}
variable{y:ItM}
theorem Gx(h:y.core=x.core):y.b=x.b/\y.id=x.id/\y.q=x.q/\y.tn=x.tn/\y.base=x.base/\y.rq=x.rq/\y.rc=x.rc/\y.L=x.L:=by
 obtain ⟨b,id,q,tn,base,rq,rc,L,res,wq,wc,since⟩:=x;obtain ⟨Z,G,q',K,m,J,I,X,B,U,O,g⟩:=y;unfold ItM.core at h;simp only [ItM.mk.injEq]at h;exact ⟨h.1,h.2.1,h.2.2.1,h.2.2.2.1,h.2.2.2.2.1,h.2.2.2.2.2.1,h.2.2.2.2.2.2.1,h.2.2.2.2.2.2.2.1⟩
theorem JH(h:y.core=x.core):y.key=x.key:=by unfold ItM.key;rw [(Gx h).2.2.1]
theorem Vz{α:Type}(W:List α)(r:α){n:Nat}(h:n<=W.length):(W++[r]).drop n=W.drop n++[r]:=fg h
def Jk(W W':List BU)(r:BU):Prop:=(W'=W++[r]/\W.length<64)\/(W'=(W++[r]).drop 1/\W.length=64)
variable{W' W:List BU}{r:BU}
theorem ja{pos:Int}(g:Jk W W' r)(B:(pos -base).toNat<=W.length)(G:base<=pos)(I:pos+1 -64<=base):DI (pos+1) base W'=DI pos base W++[r]/\(pos+1 -base).toNat<=W'.length:=by
 have e:(pos+1 -base).toNat=(pos -base).toNat+1:=by omega
 unfold DI;rcases g with⟨rfl,m⟩|⟨rfl,m⟩
 · rw [B7,E7,e,show W.length+1 -((pos -base).toNat+1)=W.length -(pos -base).toNat by omega,Vz _ _ A1]
   exact ⟨V,by omega⟩
 · rw [C2,B7,E7,e,Ys,show 1+(W.length+1 -1 -((pos -base).toNat+1))=W.length -(pos -base).toNat by omega,Vz _ _ A1]
   exact ⟨V,by omega⟩
theorem LH{pos:Int}(h:pos<=base):DI pos base W=[]:=by
 unfold DI;rw [show(pos -base).toNat=0 by omega,Sh,gS]
def UH(cs:List Chg)(x:ItM):Prop:=∃ch∈cs,Co x.q ch=true
theorem Rf(g:∀c∈cs,c.ok):cs.any (Di q)=true↔∃ch∈cs,Co q ch=true:=by
 rw [kO];constructor
 · rintro ⟨c,hc,h⟩
   unfold Di at h;rw [Fi]at h;exact ⟨c,hc,h.2⟩
 · rintro ⟨c,hc,h⟩
   refine ⟨c,hc,?_⟩;unfold Di;rw [CM (g c hc),h];rfl
theorem az:∀{cs:List Chg} {r:CE},¬cs.any (Di q)=true->Ba q r cs=(r,false,true):=fun{cs r} h=>by
 have g:∀{cs:List Chg},(∀c∈cs,Di q c=false)->Hm q r cs=some r:=fun{cs}=>by
  induction cs with
  |nil=>intro _;rfl
  |cons c cs ih=>
   intro h;have h2:D9 q c r=(r,true):=by unfold D9;rw [h c (Dd ..)];rfl
   unfold Hm;rw [h2];exact ih fun d B=>h d (EV _ B)
 have m:∀c∈cs,Di q c=false:=fun c hc=>by
  cases h4:Di q c with
  |false=>rfl
  |true=>exact absurd (kO.2 ⟨c,hc,h4⟩) h
 unfold Ba;rw [g m];show(r,cs.any (Di q),true)=_
 rw [nh]at h;rw [h]
structure sE(cs:List Chg)(p:Int)(ids:List Int)(MR:List A9)(x y:ItM):Prop where
 core:y.core=x.core
 how:(y=x/\¬(x.id∈ids/\x.base<p))\/((x.id∈ids/\x.base<p)/\(Ba x.q x.res cs).2.2=true/\y.res=(Ba x.q x.res cs).1/\y.since=p/\De MR (.slice y.wq y.res.rows.length y.wc) y.res.rows)
structure H6(c d:CZ)(cs:List Chg)(p:Int)(W':List BU)(M1:List A9)(ids:List Int)(tl:List ByteArray):Prop where
 okb:d.okb
 cp:d.cp=c.cp
 pos:d.pos=p
 win:d.win=W'
 M:d.M=M1
 ns:d.ns=c.ns
 cap:d.z.cap=c.z.cap
 next:d.next=c.next
 PL:∀e∈d.PL,e∈c.PL
 MR:∀q∈c.MR,q∈d.MR
 i1:∀y∈d.its,∃x∈c.its,sE cs p ids d.MR x y
 i2:∀x∈c.its,(x.id∈ids->x.base<p->(Ba x.q x.res cs).2.2=true)->∃y∈d.its,y.core=x.core
 t1:∀k,k∈tl↔∃x∈c.its,x.key=k/\x.id∈ids/\x.base<p
 t2:tl.Nodup
theorem Jf(h:c.okb)(g:x∈c.its)(m:y∈c.its)(e:x.id=y.id):x=y:=by
 have hi:=h.its.idx.ids;rw [K0]at hi;exact FV hi g m e
variable{p:Int}{M1:List A9}{ids:List Int}
theorem H6.next_it(h:H6 c d cs p W' M1 ids tl)(hc:c.okb)(J:x∈c.its)(G:x.id∉ids):x∈d.its:=by
 obtain ⟨y,K,B⟩:=h.i2 x J fun g=>absurd g G;obtain ⟨U,m,I⟩:=h.i1 y K;have O:=Jf hc m J (by rw [<-(Gx I.core).2.1,(Gx B).2.1])
 subst O;rcases I.how with⟨rfl,_⟩|⟨⟨g,_⟩,_⟩
 · exact K
 · exact absurd g G
theorem uf(h:H6 c d cs p W' M1 ids tl)(hc:c.okb)(O:x∈c.its)(J:¬x.base<p):H6 c d cs p W' M1 (ids++[x.id]) tl:=by
 have g:∀z∈c.its,z.base<p->(z.id∈ids++[x.id]↔z.id∈ids):=fun z hz B=>by
  rw [BE,BT];refine ⟨fun m=>m.elim id fun h2=>?_,.inl⟩;rw [Jf hc hz O h2]at B;exact absurd B J
 refine ⟨h.okb,h.cp,h.pos,h.win,h.M,h.ns,h.cap,h.next,h.PL,h.MR,fun y U=>?_,fun z hz K=>h.i2 z hz fun m h2=>K ((g z hz h2).2 m) h2,fun k=>?_,h.t2⟩
 · obtain ⟨z,hz,I⟩:=h.i1 y U
   refine ⟨z,hz,I.core,?_⟩;rcases I.how with⟨e,m⟩|⟨m,h2⟩
   · exact .inl ⟨e,fun G=>m ⟨(g z hz G.2).1 G.1,G.2⟩⟩
   · exact .inr ⟨⟨(g z hz m.2).2 m.1,m.2⟩,h2⟩
 · rw [h.t1]
   constructor
   · rintro ⟨z,hz,a,b,e⟩;exact ⟨z,hz,a,(g z hz e).2 b,e⟩
   · rintro ⟨z,hz,a,b,e⟩;exact ⟨z,hz,a,(g z hz e).1 b,e⟩
theorem uZ(hc:c.okb)(t1:∀k,k∈tl↔∃x∈c.its,x.key=k/\x.id∈ids/\x.base<p)(t2:tl.Nodup)(B:x∈c.its)(J:x.base<p)(O:x.id∉ids):(∀k,k∈tl++[x.key]↔∃y∈c.its,y.key=k/\y.id∈ids++[x.id]/\y.base<p)/\(tl++[x.key]).Nodup:=by
 constructor
 · intro k
   rw [BE,BT,t1];constructor
   · rintro (⟨y,g,a,b,e⟩|rfl)
     · exact ⟨y,g,a,DP _ b,e⟩
     · exact ⟨x,B,rfl,by simp,J⟩
   · rintro ⟨y,g,rfl,b,e⟩
     rcases BE.1 b with b|b
     · exact .inl ⟨y,g,rfl,b,e⟩
     · rw [Jf hc g B (BT.1 b)];exact .inr rfl
 · rw [Ge]
   refine ⟨t2,by simp,fun a I b m=>?_⟩;obtain rfl:=BT.1 m;intro K;obtain ⟨y,g,G,h2,_⟩:=(t1 a).1 I;rw [FV hc.its.keys g B (G.trans K)]at h2;exact O h2
theorem xD{next:Int}{esQ:Array MapEntry}{ckQ:Nat}{lmQ:List (Int×Value)}{lv:Value}{ML:List A9}{esI:Array MapEntry}{ckI:Nat}{lmI:List (ByteArray×Value)}{esK:Array MapEntry}{ckK:Nat}{lmK:List (Int×Value)}{SI:List A9}(h:GQ its next esQ ckQ lmQ lv ML esI ckI lmI esK ckK lmK SI)(J:(SI.map (·.1)).Nodup)(G:x∈its)(p:Int)(cs:List Chg)(wq:Option Addr)(wc:Nat):
 GQ (its.map fun y=>if y.id=x.id then x.upd p cs wq wc else y) next esQ ckQ lmQ lv ML esI ckI lmI esK ckK lmK (IJ x.b (x.upd p cs wq wc).obj SI):=by
 have B:∀y∈its,y.id=x.id->y=x:=fun y g e=>by
  have hi:=h.idx.ids;rw [K0]at hi;exact FV hi g G e
 have m:∀y∈its,(if y.id=x.id then x.upd p cs wq wc else y).key=y.key/\(if y.id=x.id then x.upd p cs wq wc else y).iq=y.iq/\(if y.id=x.id then x.upd p cs wq wc else y).b=y.b/\(if y.id=x.id then x.upd p cs wq wc else y).id=y.id/\(if y.id=x.id then x.upd p cs wq wc else y).q=y.q:=fun y g=>by
  by_cases e:y.id=x.id
  · rw [B y g e,AM rfl];exact ⟨rfl,rfl,rfl,rfl,rfl⟩
  · rw [AK e];exact ⟨rfl,rfl,rfl,rfl,rfl⟩
 have e1:((its.map fun y=>if y.id=x.id then x.upd p cs wq wc else y).map ItM.iq)=its.map ItM.iq:=by
  rw [K0];exact Vc fun y g=>(m y g).2.1
 have e2:((its.map fun y=>if y.id=x.id then x.upd p cs wq wc else y).map ItM.key)=its.map ItM.key:=by
  rw [K0];exact Vc fun y g=>(m y g).1
 refine ⟨by rw [e1];exact h.idx,by rw [e1];exact h.ist,h.im,fun q=>?_,h.km,fun q=>?_,by rw [e2];exact h.keys,fun y g=>?_,h.nx,by rw [B2];exact h.len,fun y g=>?_,fun y g=>?_⟩
 · rw [h.imem]
   constructor
   · rintro ⟨y,g,rfl⟩;exact ⟨_,DO g,by rw [(m y g).1,(m y g).2.2.1]⟩
   · rintro ⟨z,hz,rfl⟩
     obtain ⟨y,g,rfl⟩:=Bk.1 hz;exact ⟨y,g,by rw [(m y g).1,(m y g).2.2.1]⟩
 · rw [h.kmem]
   constructor
   · rintro ⟨y,g,rfl⟩;exact ⟨_,DO g,by rw [(m y g).1,(m y g).2.2.2.1]⟩
   · rintro ⟨z,hz,rfl⟩
     obtain ⟨y,g,rfl⟩:=Bk.1 hz;exact ⟨y,g,by rw [(m y g).1,(m y g).2.2.2.1]⟩
 · obtain ⟨z,hz,rfl⟩:=Bk.1 g
   rw [(m z hz).2.2.2.1];exact h.ids z hz
 · obtain ⟨z,hz,rfl⟩:=Bk.1 g
   rw [(m z hz).2.2.2.2];exact h.q z hz
 · obtain ⟨z,hz,rfl⟩:=Bk.1 g
   by_cases e:z.id=x.id
   · simp only [AM e]
     exact Pd (h.sub x G)
   · simp only [AK e]
     refine Bk.2 ⟨z.ch,h.sub z hz,AK fun e2=>?_⟩;have I:=FV J (h.sub z hz) (h.sub x G) e2
     unfold ItM.ch ItM.obj at I;simp only [gx,Obj.cells.injEq,nv,ke,Value.int.injEq,V2,dp]at I;exact e (by simp_all)
theorem xm(h:H6 c d cs p W' M1 ids tl)(hc:c.okb)(hn:(d.SI.map (·.1)).Nodup)(O:x∈c.its)(hb:x.base<p)(I:x.id∉ids)(X:(Ba x.q x.res cs).2.2=true)(hr:De s (.slice wq (Ba x.q x.res cs).1.rows.length wc) (Ba x.q x.res cs).1.rows):
 H6 c {d with SI:=IJ x.b (x.upd p cs wq wc).obj d.SI,MR:=s++d.MR,its:=d.its.map fun y=>if y.id=x.id then x.upd p cs wq wc else y} cs p W' M1 (ids++[x.id]) (tl++[x.key]):=by
 have g:=h.next_it hc O I;have G:=xD h.okb.its hn g p cs wq wc
 have U:(x.upd p cs wq wc).core=x.core:=rfl;obtain ⟨af,ax⟩:=uZ hc h.t1 h.t2 O hb I;have e2:((d.its.map fun y=>if y.id=x.id then x.upd p cs wq wc else y).map ItM.key)=d.its.map ItM.key:=by
  rw [K0];refine Vc fun y m=>?_;show(if y.id=x.id then x.upd p cs wq wc else y).key=y.key
  split
  · rename_i e;rw [Jf h.okb m g e];rfl
  · rfl
 refine ⟨⟨h.okb.pos,h.okb.win,h.okb.wl,h.okb.wp,h.okb.pool,fun k=>by rw [e2];exact h.okb.pk k,G,fun y m=>?_⟩,h.cp,h.pos,h.win,h.M,h.ns,h.cap,h.next,h.PL,fun q J=>Fm _ (h.MR q J),fun y m=>?_,fun z hz hk=>?_,af,ax⟩
 · obtain ⟨z,hz,rfl⟩:=Bk.1 m
   split
   · rename_i e;rw [<-Jf h.okb hz g e];exact h.okb.tns z hz
   · exact h.okb.tns z hz
 · obtain ⟨z,hz,rfl⟩:=Bk.1 m
   by_cases e:z.id=x.id
   · rw [AM e]
     exact ⟨x,O,U,.inr ⟨⟨by simp,hb⟩,X,V,V,hr.mono fun q J=>DP _ J⟩⟩
   · rw [AK e]
     obtain ⟨w,hw,Z⟩:=h.i1 z hz;have bn:w.id≠x.id:=fun B=>e (by rw [(Gx Z.core).2.1,B])
     refine ⟨w,hw,Z.core,?_⟩;have hm:w.id∈ids++[x.id]↔w.id∈ids:=by rw [BE,BT];exact ⟨fun B=>B.elim id fun h2=>absurd h2 bn,.inl⟩
     rcases Z.how with⟨a,b⟩|⟨a,b,e1,e3,e4⟩
     · exact .inl ⟨a,fun h3=>b ⟨hm.1 h3.1,h3.2⟩⟩
     · exact .inr ⟨⟨hm.2 a.1,a.2⟩,b,e1,e3,e4.mono fun q J=>Fm _ J⟩
 · by_cases e:z.id=x.id
   · obtain rfl:=Jf hc hz O e
     exact ⟨_,Bk.2 ⟨z,g,AM V⟩,V⟩
   · obtain ⟨y,m,K⟩:=h.i2 z hz fun B h2=>hk (DP _ B) h2
     exact ⟨y,Bk.2 ⟨y,m,AK (by rw [(Gx K).2.1];exact e)⟩,K⟩
variable{d2:CZ}
theorem xn(h:H6 c d cs p W' M1 ids tl)(hc:c.okb)(J:x∈c.its)(hb:x.base<p)(O:x.id∉ids)(B:(Ba x.q x.res cs).2.2=false)
 (g:d2.okb)(h2:d.like d2)(I:d2.next=d.next)(K:d2.M=d.M/\d2.MR=d.MR)(h6:d2.its=d.its.filter fun y=>y.key≠x.key)(h7:∀e∈d2.PL,e∈d.PL):H6 c d2 cs p W' M1 (ids++[x.id]) (tl++[x.key]):=by
 obtain ⟨X,Z⟩:=uZ hc h.t1 h.t2 J hb O;have m:∀y,y∈d2.its↔y∈d.its/\y.key≠x.key:=fun y=>by rw [h6,Ek];simp
 refine ⟨g,h2.cp.trans h.cp,h2.pos.trans h.pos,h2.win.trans h.win,K.1.trans h.M,h2.ns.trans h.ns,h2.cap.trans h.cap,I.trans h.next,fun e he=>h.PL e (h7 e he),fun q hq=>by rw [K.2];exact h.MR q hq,fun y hy=>?_,fun z hz hk=>?_,X,Z⟩
 · obtain ⟨ax,bn⟩:=(m y).1 hy
   obtain ⟨w,hw,U⟩:=h.i1 y ax;have af:w.id≠x.id:=fun e=>bn (by rw [JH U.core,Jf hc hw J e])
   refine ⟨w,hw,U.core,?_⟩;have m:w.id∈ids++[x.id]↔w.id∈ids:=by rw [BE,BT];exact ⟨fun g=>g.elim id fun h2=>absurd h2 af,.inl⟩
   rcases U.how with⟨a,b⟩|⟨a,b,e1,e3,e4⟩
   · exact .inl ⟨a,fun I=>b ⟨m.1 I.1,I.2⟩⟩
   · exact .inr ⟨⟨m.2 a.1,a.2⟩,b,e1,e3,by rw [K.2];exact e4⟩
 · by_cases e:z.id=x.id
   · obtain rfl:=Jf hc hz J e
     rw [hk B0 hb]at B;cases B
   · obtain ⟨y,hy,G⟩:=h.i2 z hz fun g h2=>hk (DP _ g) h2
     refine ⟨y,(m y).2 ⟨hy,fun h9=>e ?_⟩,G⟩;rw [JH G]at h9;rw [FV hc.its.keys hz J h9]
theorem xq(h:H6 c d r.cs r.p W' M1 ids tl)(hc:c.ok)(hr:EH r.p r.cs)(hp:r.p=c.pos+1){r':BU}(X:r'.pc=r.pc)(hW:Jk c.win W' r')(hM:∀q∈c.M,q∈d.M)(G:∀x∈c.its,x.id∈ids↔UH r.cs x)(hy:y∈d.its)(d9:r.p -64<=y.base):y.ok d.M d.MR r.p W':=by
 obtain ⟨x,hx,hs⟩:=h.i1 y hy;have g:=hc.all x hx
 obtain ⟨c1,c2,c3,c4,c5,c6,c7,c8⟩:=Gx hs.core;have B:∀ch∈r.cs,ch.ok:=fun ch af=>by
  obtain ⟨i,hi⟩:=GW af;exact hr.all i ch hi
 have J:r'.p=r.p:=congrArg Prod.fst X;have K:r'.cs=r.cs:=congrArg Prod.snd X
 have I:De d.MR (.slice y.wq y.res.rows.length y.wc) y.res.rows:=by
  rcases hs.how with⟨rfl,_⟩|⟨_,_,_,_,h5⟩
  · exact g.rw.mono h.MR
  · exact h5
 obtain ⟨r0,O,m⟩:=g.run;by_cases hb:x.base<r.p
 · obtain ⟨Z,U⟩:=ja hW g.reach A1 A1
   rw [<-hp]at Z U;refine ⟨by rw [c3];exact g.q,by rw [c5];exact g.base,by rw [c4];exact g.tn,by rw [c6,c7,c8];exact g.rp.mono hM,by rw [c8];exact g.rl,by rw [c8];exact g.fit,I,by rw [c5];exact U,r0,by rw [c3,c8];exact O,?_⟩;rw [c3,c5,Z,OW,m,IF];have hl:=O6 g.reach
   have cO:=hc.pos;have cu:=g.base
   unfold GD GD;rw [J,K];rcases hs.how with⟨rfl,ax⟩|⟨⟨hin,_⟩,hok,e1,e2,_⟩
   · have hq:¬r.cs.any (Di y.q)=true:=fun h9=>ax ⟨(G y hx).2 ((Rf B).1 h9),hb⟩
     rw [az hq,AM ⟨rfl,by rw [hl];omega,by rw [hl];omega⟩];rfl
   · have hq:r.cs.any (Di x.q)=true:=(Rf B).2 ((G x hx).1 hin)
     rw [AM ⟨hok,by rw [hl];omega,by rw [hl];omega⟩,(M7 hok).2,AM hq,e1,e2]
 · have bn:y=x:=by
    rcases hs.how with⟨e,_⟩|⟨⟨_,h9⟩,_⟩
    · exact e
    · exact absurd h9 hb
   subst bn;rw [LH A1]at m;exact ⟨g.q,g.base,g.tn,g.rp.mono hM,g.rl,g.fit,I,by omega,r0,O,by rw [LH A1];exact m⟩
theorem TH{α:Type} [DecidableEq α]:∀{a b:List α},a.Nodup->(∀x∈a,x∈b)->a.length<=b.length
 |[],_,_,_=>C0 _
 |x::a,b,g,hs=>by
  obtain ⟨G,g⟩:=Hi.1 g;have h2:=TH (a:=a) (b:=b.erase x) g fun y B=>by
   have m:y≠x:=fun e=>G (e▸B);exact (List.mem_erase_of_ne m).2 (hs y (EV _ B))
  have I:=mS (hs x (Dd ..));have J:=List.length_pos_of_mem (hs x (Dd ..))
  rw [DH];omega
theorem o5(h:c.okb)(U:Jk c.win W r)(Z:r.p=c.pos+1)(O:EH r.p r.cs)(K:∀q∈c.M,q∈M1)(J:Cr M1 (.slice r.q r.cs.length r.cap) r.cs):W.length<=64/\∀(i:Nat) (g:BU),W[i]?=some g->g.p=r.p -(W.length:Int)+1+(i:Int)/\Cr M1 (.slice g.q g.cs.length g.cap) g.cs/\EH g.p g.cs:=by
 have B:∀(i:Nat) (g:BU),(c.win++[r])[i]?=some g->g.p=c.pos -(c.win.length:Int)+1+(i:Int)/\Cr M1 (.slice g.q g.cs.length g.cap) g.cs/\EH g.p g.cs:=fun i g m=>by
  rcases Dg i c.win.length with h1|h1
  · rw [Wr h1]at m
    exact WS h K i g m
  · rw [OS h1]at m
    have h2:i -c.win.length=0:=by
     have:=(B9.1 m).1;simp at this;omega
    rw [h2]at m;have I:r=g:=by simpa using m
    subst I;exact ⟨by omega,J,O⟩
 have G:(c.win++[r]).length=c.win.length+1:=by rw [B7];rfl
 rcases U with⟨rfl,X⟩|⟨rfl,X⟩
 · refine ⟨by omega,fun i g m=>?_⟩
   obtain ⟨a,b,e⟩:=B i g m;exact ⟨by rw [G];omega,b,e⟩
 · refine ⟨by rw [C2];omega,fun i g m=>?_⟩
   rw [PA]at m;obtain ⟨a,b,e⟩:=B (1+i) g m;exact ⟨by rw [C2,G];omega,b,e⟩
theorem uh(h:c.okb){sW:List A9}(J:Jk c.win W r)(g:Bb 2 50 (.slice wq W.length wc) W.length (Dr W) sW)(O:r.p=c.pos+1)(m:EH r.p r.cs)(I:∀q∈c.M,q∈M1)(G:Cr M1 (.slice r.q r.cs.length r.cap) r.cs){lv2:Value}{ML2:List A9}(hst:WN (c.its.map ItM.iq) lv2 ML2):
 H6 c {c with pos:=r.p,wq:=wq,wc:=wc,win:=W,sW:=sW,lv:=lv2,ML:=ML2,M:=M1} r.cs r.p W M1 [] []:=by
 have B:=o5 h J O m I G;have U:=m.pos
 exact ⟨⟨⟨by show 0<=r.p;omega,by show r.p<=10000;omega⟩,g,B.1,B.2,h.pool,h.pk,{h.its with ist:=hst},h.tns⟩,V,V,V,V,V,V,V,fun e K=>K,fun q X=>X,fun y hy=>⟨y,hy,V,.inl ⟨V,fun h=>absurd h.1 B0⟩⟩,fun x Z _=>⟨x,Z,V⟩,fun k=>by simp,ki⟩
structure GX(c d:CZ)(p:Int)(cs:List Chg)(q2:Option Addr)(cap2:Nat)(zs:List ByteArray):Prop where
 ok:d.ok
 cp:d.cp=c.cp
 pos:d.pos=p
 win:Jk c.win d.win ⟨p,q2,cap2,cs⟩
 ns:d.ns=c.ns
 cap:d.z.cap=c.z.cap
 next:d.next=c.next
 PL:∀e∈d.PL,e∈c.PL
 i1:∀y∈d.its,p -64<=y.base/\∃x∈c.its,y.core=x.core/\((¬(UH cs x/\x.base<p)/\y.res=x.res/\y.since=x.since)\/((UH cs x/\x.base<p)/\(Ba x.q x.res cs).2.2=true/\y.since=p))
 i2:∀x∈c.its,p -64<=x.base->(UH cs x->x.base<p->(Ba x.q x.res cs).2.2=true)->∃y∈d.its,y.core=x.core
 z1:∀k,k∈zs↔∃x∈c.its,x.key=k/\UH cs x/\x.base<p
 z2:zs.Nodup
 z3:zs.Pairwise fun x y=>x.data.toList<=y.data.toList
theorem xK(g:((its.map ItM.iq).map (·.1)).Nodup){B:List Int}(h:∀i,i∈B↔JN (its.map ItM.iq) cs i)(m:x∈its):x.id∈B↔UH cs x:=by
 rw [h];constructor
 · rintro ⟨y,J,G,hc⟩
   obtain ⟨w,I,rfl⟩:=Bk.1 J;rw [K0]at g;have:=FV g I m G
   subst this;exact hc
 · intro hc
   exact ⟨x.iq,DO m,V,hc⟩
structure JK(d d2:CZ)(pre:List ByteArray):Prop where
 okb:d2.okb
 like:d.like d2
 next:d2.next=d.next
 M:d2.M=d.M/\d2.MR=d.MR
 mi:d2.mi=d.mi
 PL:∀e∈d2.PL,e∈d.PL
 its:∀y,y∈d2.its↔y∈d.its/\y.key∉pre
theorem Ro(h:d.okb):JK d d []:=⟨h,⟨rfl,rfl,rfl,rfl,rfl⟩,rfl,⟨rfl,rfl⟩,rfl,fun e g=>g,fun y=>by simp⟩
theorem bg{pre:List ByteArray}{k:ByteArray}(h:JK d d2 pre)(K:d.okb)(J:bB d (pre++[k])):∃x∈d2.its,x.key=k:=by
 obtain ⟨zs,B,G,g⟩:=J;have m:(zs.filter (J5 d)).Nodup:=(B.nodup_iff.2 K.its.keys).sublist SU
 have O:k∈zs:=(Ek.1 (by rw [g];simp:k∈zs.filter (J5 d))).1;obtain ⟨x,U,rfl⟩:=Bk.1 (B.mem_iff.1 O);refine ⟨x,(h.its x).2 ⟨U,fun I=>?_⟩,V⟩;rw [g,CN,Ge]at m;exact m.2.2 _ I _ B0 V
theorem Rn{g:CZ}{pre:List ByteArray}(h:JK d d2 pre)(B:g.okb)(h2:d2.like g)(G:g.next=d2.next)(m:g.M=d2.M/\g.MR=d2.MR)(I:g.mi=d2.mi)(J:g.its=d2.its.filter fun y=>y.key≠x.key)(K:∀e∈g.PL,e∈d2.PL):JK d g (pre++[x.key]):=by
 refine ⟨B,h.like.trans h2,G.trans h.next,⟨m.1.trans h.M.1,m.2.trans h.M.2⟩,I.trans h.mi,fun e O=>h.PL e (K e O),fun y=>?_⟩;rw [J,Ek,h.its,BE,BT];simp only [G1,ne_eq,not_or];exact ⟨fun⟨⟨a,b⟩,e⟩=>⟨a,b,e⟩,fun⟨a,b,e⟩=>⟨⟨a,b⟩,e⟩⟩
theorem ug{q2:Option Addr}{cap2:Nat}{zi:List Int}{zs ys:List ByteArray}(hc:c.ok)(hR:EH p cs)(hp:p=c.pos+1)(hW:Jk c.win W ⟨p,q2,cap2,cs⟩)(h:H6 c d cs p W M1 zi tl)(hM:∀q∈c.M,q∈M1)(cu:∀i,i∈zi↔JN (c.its.map ItM.iq) cs i)(I:JK d d2 ys)(Z:WI d ys)(hz:zs.Perm tl)(cO:zs.Pairwise fun x y=>x.data.toList<=y.data.toList):GX c d2 p cs q2 cap2 zs:=by
 have g:∀x∈c.its,x.id∈zi↔UH cs x:=fun x B=>xK hc.its.idx.ids cu B;have m:∀y,y∈d2.its↔y∈d.its/\p -64<=y.base:=fun y=>by
  rw [I.its];constructor
  · rintro ⟨G,hn⟩
    refine ⟨G,aE fun X=>hn ?_⟩;obtain ⟨ks,af,rfl⟩:=Z;refine Ek.2 ⟨af.mem_iff.2 (DO G),(Ph h.okb.its.keys G).2 ?_⟩;rw [h.pos];omega
  · rintro ⟨G,hb⟩
    refine ⟨G,fun X=>?_⟩;obtain ⟨ks,af,rfl⟩:=Z;have:=(Ph h.okb.its.keys G).1 (Ek.1 X).2
    rw [h.pos]at this;omega
 have J:d2.pos=p:=I.like.pos.trans h.pos;have K:d2.win=W:=I.like.win.trans h.win
 refine ⟨⟨I.okb,fun y G=>?_⟩,I.like.cp.trans h.cp,J,by rw [K];exact hW,I.like.ns.trans h.ns,I.like.cap.trans h.cap,I.next.trans h.next,fun e he=>h.PL e (I.PL e he),fun y G=>?_,fun x B hb hk=>?_,fun k=>?_,hz.nodup_iff.2 h.t2,cO⟩
 · obtain ⟨O,U⟩:=(m y).1 G
   rw [J,K,I.M.1,I.M.2];exact xq (r:=⟨p,q2,cap2,cs⟩) h hc hR hp rfl hW (fun q hq=>by rw [h.M];exact hM q hq) g O U
 · obtain ⟨O,U⟩:=(m y).1 G
   obtain ⟨x,B,hs⟩:=h.i1 y O;refine ⟨U,x,B,hs.core,?_⟩;rcases hs.how with⟨rfl,bn⟩|⟨⟨hin,hb⟩,hok,_,hsi,_⟩
   · exact .inl ⟨fun X=>bn ⟨(g y B).2 X.1,X.2⟩,rfl,rfl⟩
   · exact .inr ⟨⟨(g x B).1 hin,hb⟩,hok,hsi⟩
 · obtain ⟨y,G,ax⟩:=h.i2 x B fun h1 h2=>hk ((g x B).1 h1) h2
   exact ⟨y,(m y).2 ⟨G,by rw [(Gx ax).2.2.2.2.1];exact hb⟩,ax⟩
 · rw [hz.mem_iff,h.t1]
   constructor
   · rintro ⟨x,B,a,b,e⟩;exact ⟨x,B,a,(g x B).1 b,e⟩
   · rintro ⟨x,B,a,b,e⟩;exact ⟨x,B,a,(g x B).2 b,e⟩
theorem gX(h:H6 c d cs p W' M1 ids tl)(hc:c.ok)(hC:Cr ME (.slice qa cs.length cap) cs)(O:cs.length<=1000)(hx:x∈c.its)(hb:x.base<p)(G:x.id∉ids)(hT:Row 9 tv (tl.map Value.string) st)(U:tl.length<=1000000)(K J I:Nat):
 BZ prog 54 #[.string x.key,.pointer (some ⟨x.b,0,none⟩),I5 K,I5 J,I5 I] [[(K,.cells #[tv] 45 (0,0))],[(J,.cells #[I4 p,.slice qa cs.length cap] 50 (0,0))],[(I,.cells #[.pointer (some ⟨c.cp,0,none⟩)] 37 (0,0))],st,[(c.cp,.cells d.A33 120 (0,0))],d.sW,d.z.S,[(d.mb,.map d.esP d.ckP)],d.su,[(d.ip,.cells #[.map (some d.mq),d.lv] 186 (0,0))],[(d.mq,.map d.esQ d.ckQ)],d.ML,[(d.mi,.map d.esI d.ckI)],[(d.mkb,.map d.esK d.ckK)],d.SI,d.M,d.MR,ME] (fun v H'=>v=undef/\∃(d2:CZ) (m:Value) (g:List A9),H6 c d2 cs p W' M1 (ids++[x.id]) (tl++[x.key])/\Row 9 m ((tl++[x.key]).map Value.string) g/\H'=[[(K,.cells #[m] 45 (0,0))],[(J,.cells #[I4 p,.slice qa cs.length cap] 50 (0,0))],[(I,.cells #[.pointer (some ⟨c.cp,0,none⟩)] 37 (0,0))],g,[(c.cp,.cells d2.A33 120 (0,0))],d2.sW,d2.z.S,[(d2.mb,.map d2.esP d2.ckP)],d2.su,[(d2.ip,.cells #[.map (some d2.mq),d2.lv] 186 (0,0))],[(d2.mq,.map d2.esQ d2.ckQ)],d2.ML,[(d2.mi,.map d2.esI d2.ckI)],[(d2.mkb,.map d2.esK d2.ckK)],d2.SI,d2.M,d2.MR,ME]):=by
 rw [<-h.cp];have X:=h.next_it hc.tookb hx G
 have hl:x.live d.MR:=by
  have B:=(hc.all x hx).live hc.tookb;exact ⟨B.q,B.rw.mono h.MR,B.wn,B.wv⟩
 cases hok:(Ba x.q x.res cs).2.2 with
 |true=>
  refine (nS h.okb X hl p hC O hok hT U K J I).mono ?_;rintro v H' ⟨B,wq,wc,m,g,s,h2,Z,h4,rfl⟩;exact ⟨B,_,m,g,xm h hc.tookb h4 hx hb G hok Z,h2,V⟩
 |false=>
  refine (nT h.okb X hl p hC O hok hT U K J I).mono ?_;rintro v H' ⟨B,d2,m,g,h2,Z,h4,h5,_,h6,h7,h8,rfl⟩;exact ⟨B,d2,m,g,xn h hc.tookb hx hb G hok h2 Z h4 h5 h6 h7,h8,by rw [Z.cp]⟩
end Go.Proofs.YteaiajghbkenoaaGreatDoor
