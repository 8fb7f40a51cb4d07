/- Put. -/
/- What Apply does to an entry. -/
/- Stale entries. -/
/- What Apply does, in plain words. -/
/- Apply, in plain words. -/
/- Apply. -/
/- New, Reset, Window, Touch; no cache. -/
import Derived.Test.YteaiajghbkenoaaGreatDoorEz
import Derived.Test.YteaiajghbkenoaaGreatDoorCa6
set_option linter.unusedVariables false
set_option linter.unusedSimpArgs false
namespace Go.Proofs.YteaiajghbkenoaaGreatDoor
open Go.Proofs.Tryz
open Go Go.RowKit Gw
set_option maxRecDepth 100000
attribute [local irreducible] Gw.At Gw.Nx Gw.Ops
variable{q:QM}{base:Int}
theorem N9{r:Bw}{l:List BN}(h:(Av q r base l).2.2=true):FX q base 0 (r,base) l=some ((Av q r base l).1,(Av q r base l).2.1):=LF h
variable{c:CZ}
theorem VH(h:c.okb){M':List A8}(hm:∀q∈c.M,q∈M'):∀(i:Nat) (r:BN),c.win[i]?=some r->r.p=c.pos -(c.win.length:Int)+1+(i:Int)/\Ct M' (.slice r.q r.cs.length r.cap) r.cs/\Eo r.p r.cs:=fun i r hr=>by
 obtain ⟨h1,⟨p,cap,e,hl,hg⟩,h3⟩:=h.wp i r hr;refine ⟨h1,⟨p,cap,e,hl,fun j x hx=>?_⟩,h3⟩;obtain ⟨g,off,cur,T,zz,a1,a2,a3⟩:=hg j x hx;exact ⟨g,off,cur,T,zz,a1,hm _ a2,a3⟩
variable{its:List ItM}
theorem YR{K:ByteArray}(h:∀y∈its,y.key≠K):(its.filter fun y=>y.key≠K)=its:=AN8.2 fun y hy=>by simpa using h y hy
theorem mZ{PL:List Bn}(hk:∀k,k∈PL.map (·.key)↔k∈its.map ItM.key)(e:Bn)(x:ItM)(he:e.key=x.key):∀k,k∈(PL++[e]).map (·.key)↔k∈(its++[x]).map ItM.key:=by
 intro k;rw [zK,zK,zJ,zJ,hk k,AC6,AC6,he]
def Hl(b:Nat)(id:Int)(q:QM)(tn base:Int)(rq:Option Addr)(rc:Nat)(L:List RP)(R:Bw×Int×Bool)(wq:Option Addr)(wc:Nat):ItM:=⟨b,id,q,tn,base,rq,rc,L,R.1,wq,wc,R.2.1⟩
variable{wq:Option Addr}{wc:Nat}{L:List RP}{r0:Bw}
theorem SF{b:Nat}{id:Int}(hq:BH q){tn:Int}(ht:0<=tn/\tn<=1000000)(hb:0<=base/\base<=10000){rq:Option Addr}{rc:Nat}(hLl:L.length<=1000000)(hfit:∀x∈L,x.fits)(hr0:ED q L=some r0)(hre:(c.pos -base).toNat<=c.win.length)(hrun:(Av q r0 base (Cv c.pos base c.win)).2.2=true){M' MR':List A8}
 (h1:Fg M' (.slice rq L.length rc) L)(h2:Dh MR' (.slice wq (Av q r0 base (Cv c.pos base c.win)).1.rows.length wc) (Av q r0 base (Cv c.pos base c.win)).1.rows):(Hl b id q tn base rq rc L (Av q r0 base (Cv c.pos base c.win)) wq wc).ok M' MR' c.pos c.win:=
 ⟨hq,hb,ht,h1,hLl,hfit,h2,hre,r0,hr0,N9 hrun⟩
theorem Sw(p:Option Addr)(n c:Nat)(v f:Value)(hv:v.oneCell'=true/\v.cells=#[v])(hf:f.oneCell'=true/\f.cells=#[f])(hn:n<=1000000):BJ Tryz.prog 46 #[.agg #[.slice p n c,v,f]] [] (I4 (1+(n:Int))):=by
 refine Se func46 ntmps46 [0] ?_;intro u R;refine Zq<|Zg<|Ze (Bx #[_,_,_]) ?_;rintro _ _ ⟨b1,rfl,rfl⟩;refine Za Y<|Z0<|Zx<|Zq<|Zg<|Zh 0 AU6 V rfl AW8 Y<|Zl Ab2 Y ?_;refine Zv (Aa AU4 Y)<|Ya (m:=1) Y Y<|Za Y<|Z0<|Zx<|AC<|AL V results46 Y (by exact ⟨V,V⟩)
variable{k cg:Nat}{pg:Option Addr}{ME:List A8}
theorem sQ(h:c.ok)(hq:BH q)(hk:k<c.ns)(hk6:k<=1000000)(base:Int)(hb:0<=base/\base<=10000)(hL:Fg ME (.slice pg L.length cg) L)(hLl:L.length<=1000000)(hfit:∀x∈L,x.fits)(hr0:ED q L=some r0)(hre:¬(c.pos -base).toNat<=c.win.length)(Tp:TypeId)(zp:Nat×Nat):BR Tryz.prog 14 #[.pointer (some ⟨c.cp,0,none⟩),.agg #[I4 q.kd,I4 q.tb,I4 q.cl,I4 q.lo,I4 q.hi,I4 q.bq,I4 q.ot,I4 (k:Int),I4 base,.slice pg L.length cg]] [[(c.cp,.cells #[I4 c.pos,.slice c.wq c.win.length c.wc,.pointer (some ⟨c.z.r,0,none⟩),.pointer (some ⟨c.ip,0,none⟩),.map (some c.mi),.map (some c.mkb),I4 c.next] 120 (0,0))],c.sW,c.M,ME,[(1,.cells (Lib.pow10Tab.map fun z=>Value.int .u64 z).toArray Tp zp)]] (fun w H'=>w= .bool false/\H'=[[(c.cp,.cells #[I4 c.pos,.slice c.wq c.win.length c.wc,.pointer (some ⟨c.z.r,0,none⟩),.pointer (some ⟨c.ip,0,none⟩),.map (some c.mi),.map (some c.mkb),I4 c.next] 120 (0,0))],c.sW,c.M,ME,[(1,.cells (Lib.pow10Tab.map fun z=>Value.int .u64 z).toArray Tp zp)]]):=by
 refine Se func14 ntmps14 [0,1] ?_;intro u R;refine Zq<|Zg<|Ze (Bx #[I4 q.kd,I4 q.tb,I4 q.cl,I4 q.lo,I4 q.hi,I4 q.bq,I4 q.ot,I4 (k:Int),I4 base,.slice pg L.length cg]) ?_;rintro _ _ ⟨be,rfl,rfl⟩;refine Za Y<|Z0<|Zx<|Zq<|Zq<|Zg<|Zm Y<|Zv (BU AZ4 Y Y)<|Z0<|Zx<|AR Y (fun hb9=>?_) (fun hb9=>?_)
 ·
  cases hb9
 refine AJ<|Zx<|Zq<|Zg<|Zm Y<|Zo Wh (AA (cs:=#[I4 q.kd,I4 q.tb,I4 q.cl,I4 q.lo,I4 q.hi,I4 q.bq,I4 q.ot,I4 (k:Int),I4 base,.slice pg L.length cg]) Ah5 AY9 Y Wn (by exact BD V)) ?_;refine Zc [_,_] Y call44 Y V (sU h hq (k:Int) base hb hL hLl hfit hr0 hre Tp zp) ?_;rintro _ _ ⟨_,⟨rfl,rfl⟩,rfl⟩;refine Zm Y<|Zd Y V<|Zd Y V<|Zd Y V<|Za Y<|Za Y<|Za Y<|Z0<|Zn [0,3,5,6,7] ?_;refine Zx<|Zq<|Zq<|Zg<|Zm Y<|Zv (Br Y)<|Z0<|Zx<|AR Y (fun hb2=>?_) (fun hb2=>?_)
 ·
  refine Zq<|Zg<|Za Y<|Z0<|Zx<|AC<|Zt<|AL V results14 Y (by exact ⟨V,V⟩)
 cases hb2
theorem mR(h:c.ok)(hq:BH q)(hk:k<c.ns)(hk6:k<=1000000)(base:Int)(hb:0<=base/\base<=10000)(hL:Fg ME (.slice pg L.length cg) L)(hLl:L.length<=1000000)(hfit:∀x∈L,x.fits)(hr0:ED q L=some r0)(hre:(c.pos -base).toNat<=c.win.length)(hrun:(Av q r0 base (Cv c.pos base c.win)).2.2=false)(Tp:TypeId)(zp:Nat×Nat):BR Tryz.prog 14 #[.pointer (some ⟨c.cp,0,none⟩),.agg #[I4 q.kd,I4 q.tb,I4 q.cl,I4 q.lo,I4 q.hi,I4 q.bq,I4 q.ot,I4 (k:Int),I4 base,.slice pg L.length cg]] [[(c.cp,.cells #[I4 c.pos,.slice c.wq c.win.length c.wc,.pointer (some ⟨c.z.r,0,none⟩),.pointer (some ⟨c.ip,0,none⟩),.map (some c.mi),.map (some c.mkb),I4 c.next] 120 (0,0))],c.sW,c.M,ME,[(1,.cells (Lib.pow10Tab.map fun z=>Value.int .u64 z).toArray Tp zp)]] (fun w H'=>w= .bool false/\H'=[[(c.cp,.cells #[I4 c.pos,.slice c.wq c.win.length c.wc,.pointer (some ⟨c.z.r,0,none⟩),.pointer (some ⟨c.ip,0,none⟩),.map (some c.mi),.map (some c.mkb),I4 c.next] 120 (0,0))],c.sW,c.M,ME,[(1,.cells (Lib.pow10Tab.map fun z=>Value.int .u64 z).toArray Tp zp)]]):=by
 refine Se func14 ntmps14 [0,1] ?_;intro u R;refine Zq<|Zg<|Ze (Bx #[I4 q.kd,I4 q.tb,I4 q.cl,I4 q.lo,I4 q.hi,I4 q.bq,I4 q.ot,I4 (k:Int),I4 base,.slice pg L.length cg]) ?_;rintro _ _ ⟨be,rfl,rfl⟩;refine Za Y<|Z0<|Zx<|Zq<|Zq<|Zg<|Zm Y<|Zv (BU AZ4 Y Y)<|Z0<|Zx<|AR Y (fun hb9=>?_) (fun hb9=>?_)
 ·
  cases hb9
 refine AJ<|Zx<|Zq<|Zg<|Zm Y<|Zo Wh (AA (cs:=#[I4 q.kd,I4 q.tb,I4 q.cl,I4 q.lo,I4 q.hi,I4 q.bq,I4 q.ot,I4 (k:Int),I4 base,.slice pg L.length cg]) Ah5 AY9 Y Wn (by exact BD V)) ?_;refine Zc [_,_] Y call44 Y V (Qh h hq (k:Int) base hb hL hLl hfit hr0 hre Tp zp) ?_;rintro _ _ ⟨_,⟨b,rq,rc,wq,wc,s1,s2,rfl,hRP,hRW,rfl⟩,rfl⟩;rw [hrun];refine Zm Y<|Zd Y V<|Zd Y V<|Zd Y V<|Za Y<|Za Y<|Za Y<|Z0<|Zn [0,3,5,6,7] ?_;refine Zx<|Zq<|Zq<|Zg<|Zm Y<|Zv (Br Y)<|Z0<|Zx<|AR Y (fun hb2=>?_) (fun hb2=>?_)
 ·
  refine Zq<|Zg<|Za Y<|Z0<|Zx<|AC<|Zt<|AL V results14 Y (by exact ⟨V,V⟩)
 cases hb2
variable{x:ItM}
theorem mP(h:c.ok)(hq:BH q)(hk:k<c.ns)(hk6:k<=1000000)(base:Int)(hb:0<=base/\base<=10000)(hL:Fg ME (.slice pg L.length cg) L)(hLl:L.length<=1000000)(hfit:∀x∈L,x.fits)(hr0:ED q L=some r0)(hre:(c.pos -base).toNat<=c.win.length)(hrun:(Av q r0 base (Cv c.pos base c.win)).2.2=true)(hx:x∈c.its)(hxk:x.key=str (CV q))(hxb:base<=x.base)(Tp:TypeId)(zp:Nat×Nat):BR Tryz.prog 14 #[.pointer (some ⟨c.cp,0,none⟩),.agg #[I4 q.kd,I4 q.tb,I4 q.cl,I4 q.lo,I4 q.hi,I4 q.bq,I4 q.ot,I4 (k:Int),I4 base,.slice pg L.length cg]] [[(c.cp,.cells #[I4 c.pos,.slice c.wq c.win.length c.wc,.pointer (some ⟨c.z.r,0,none⟩),.pointer (some ⟨c.ip,0,none⟩),.map (some c.mi),.map (some c.mkb),I4 c.next] 120 (0,0))],c.sW,c.M,[(c.mi,.map c.esI c.ckI)],c.SI,ME,[(1,.cells (Lib.pow10Tab.map fun z=>Value.int .u64 z).toArray Tp zp)]] (fun w H'=>w= .bool true/\H'=[[(c.cp,.cells #[I4 c.pos,.slice c.wq c.win.length c.wc,.pointer (some ⟨c.z.r,0,none⟩),.pointer (some ⟨c.ip,0,none⟩),.map (some c.mi),.map (some c.mkb),I4 c.next] 120 (0,0))],c.sW,c.M,[(c.mi,.map c.esI c.ckI)],c.SI,ME,[(1,.cells (Lib.pow10Tab.map fun z=>Value.int .u64 z).toArray Tp zp)]]):=by
 have hg:=h.its.get hx;rw [hxk]at hg;have hch:(x.b,Obj.cells #[I4 x.q.kd,I4 x.q.tb,I4 x.q.cl,I4 x.q.lo,I4 x.q.hi,I4 x.q.bq,I4 x.q.ot,I4 x.tn,I4 x.base,.slice x.rq x.L.length x.rc,I4 x.id,.slice x.wq x.res.rows.length x.wc,I4 x.res.val,.bool x.res.fnd,I4 x.since] 126 (0,0))∈c.SI:=h.its.sub x hx
 refine Se func14 ntmps14 [0,1] ?_;intro u R;refine Zq<|Zg<|Ze (Bx #[I4 q.kd,I4 q.tb,I4 q.cl,I4 q.lo,I4 q.hi,I4 q.bq,I4 q.ot,I4 (k:Int),I4 base,.slice pg L.length cg]) ?_;rintro _ _ ⟨be,rfl,rfl⟩;refine Za Y<|Z0<|Zx<|Zq<|Zq<|Zg<|Zm Y<|Zv (BU AZ4 Y Y)<|Z0<|Zx<|AR Y (fun hb9=>?_) (fun hb9=>?_)
 ·
  cases hb9
 refine AJ<|Zx<|Zq<|Zg<|Zm Y<|Zo Wh (AA (cs:=#[I4 q.kd,I4 q.tb,I4 q.cl,I4 q.lo,I4 q.hi,I4 q.bq,I4 q.ot,I4 (k:Int),I4 base,.slice pg L.length cg]) Ah5 AY9 Y Wn (by exact BD V)) ?_;refine Zc [_,_] Y call44 Y V (Qh h hq (k:Int) base hb hL hLl hfit hr0 hre Tp zp) ?_;rintro _ _ ⟨_,⟨b,rq,rc,wq,wc,s1,s2,rfl,hRP,hRW,rfl⟩,rfl⟩;rw [hrun];refine Zm Y<|Zd Y V<|Zd Y V<|Zd Y V<|Za Y<|Za Y<|Za Y<|Z0<|Zn [0,3,5,6,7] ?_;refine Zx<|Zq<|Zq<|Zg<|Zm Y<|Zv (Br Y)<|Z0<|Zx<|AR Y (fun hb2=>?_) (fun hb2=>?_)
 ·
  cases hb2
 refine AJ<|Zx<|Zq<|Zg<|Zm Y<|Zp Y V<|Zh 4 AV2 V rfl Ad4 Y<|Zl Ae7 Y ?_;refine Zm Y<|Zo Wh (De (DT AW6 (D:=fun _=>True)) AZ2 Ab7 h.its.im (fun _ _=>trivial) (trivial) (⟨by rw [hg];first|done|rfl,by rw [hg];first|done|rfl⟩) Y Y) ?_;refine Zm Y<|Zd Y V<|Zd Y V<|Za Y<|Za Y<|Z0<|Zn [0,3,5,6,8,9] ?_;refine Zx<|Zq<|AO<|Zq<|Az (n:=12) (0::1::3::7::15::31::63::3::131::511::1023::2047::[]) 0 Ao8 Ao8 V<|An9 0 V (AP Y)<|An9 1 V (AP Y)<|Cf (t:=36) Y (fun g1=>?_) (fun g1=>?_)
 ·
  rw [g1];refine Ao2 2 V (AP Y)<|Ao2 3 V (Am Y V)<|Ao2 4 V (AB (off:=0) AX1 V rfl AY9 Y)<|Ao2 5 V (AB (off:=8) AV7 V rfl AU1 Y)<|Vo (D':=127) 6 Y V rfl V (F6 Wo (hch)) (BX AU2 Y Ap1) ?_;refine Ao2 7 V (AB (off:=8) AV7 V rfl AU1 Y)<|Ao3 8 V Wh (BX AU2 Y Ap1) ?_;refine Ao2 9 V (Iq Y Y)<|An9 10 V (AZ Y Y)<|An9 11 V (Aq Y)<|Ag<|Zx<|Aw Y (fun h3=>?_) (fun h3=>?_)
  ·
   refine Zq<|Zg<|Za Y<|Z0<|Zn [4] ?_;refine Zx<|AC<|Ab<|Zt<|AL V results14 Y (by exact ⟨V,V⟩)
  exfalso;omega
 rw [g1];cases g1
set_option maxHeartbeats 1000000 in
theorem mO(h:c.ok)(hq:BH q)(hk:k<c.ns)(hk6:k<=1000000)(base:Int)(hb:0<=base/\base<=10000)(hL:Fg ME (.slice pg L.length cg) L)(hLl:L.length<=1000000)(hfit:∀x∈L,x.fits)(hr0:ED q L=some r0)(hre:(c.pos -base).toNat<=c.win.length)(hrun:(Av q r0 base (Cv c.pos base c.win)).2.2=true)(hnx:c.next<1000000000)(hno:∀y∈c.its,y.key≠str (CV q))(hlen:c.its.length<500)(hroom:(1+((Av q r0 base (Cv c.pos base c.win)).1.rows.length:Int))<=c.z.fr)(Tp:TypeId)(zp:Nat×Nat):BR Tryz.prog 14 #[.pointer (some ⟨c.cp,0,none⟩),.agg #[I4 q.kd,I4 q.tb,I4 q.cl,I4 q.lo,I4 q.hi,I4 q.bq,I4 q.ot,I4 (k:Int),I4 base,.slice pg L.length cg]] [[(c.cp,.cells #[I4 c.pos,.slice c.wq c.win.length c.wc,.pointer (some ⟨c.z.r,0,none⟩),.pointer (some ⟨c.ip,0,none⟩),.map (some c.mi),.map (some c.mkb),I4 c.next] 120 (0,0))],c.sW,c.z.S,[(c.mb,.map c.esP c.ckP)],c.su,[(c.ip,.cells #[.map (some c.mq),c.lv] 186 (0,0))],[(c.mq,.map c.esQ c.ckQ)],c.ML,[(c.mi,.map c.esI c.ckI)],[(c.mkb,.map c.esK c.ckK)],c.SI,c.M,c.MR,ME,[(1,.cells (Lib.pow10Tab.map fun z=>Value.int .u64 z).toArray Tp zp)]] (fun w H'=>w= .bool true/\∃(d:CZ) (b:Nat) (rq wq:Option Addr) (rc wc:Nat) (s:List A8),d.ok/\c.like d/\d.next=c.next+1/\d.M=s++c.M/\d.its=c.its++[(Hl b (c.next+1) q (k:Int) base rq rc L (Av q r0 base (Cv c.pos base c.win)) wq wc)]/\(∀e∈d.PL,e∈c.PL\/e.sz=(1+((Av q r0 base (Cv c.pos base c.win)).1.rows.length:Int)))/\H'=[[(d.cp,.cells #[I4 d.pos,.slice d.wq d.win.length d.wc,.pointer (some ⟨d.z.r,0,none⟩),.pointer (some ⟨d.ip,0,none⟩),.map (some d.mi),.map (some d.mkb),I4 d.next] 120 (0,0))],d.sW,d.z.S,[(d.mb,.map d.esP d.ckP)],d.su,[(d.ip,.cells #[.map (some d.mq),d.lv] 186 (0,0))],[(d.mq,.map d.esQ d.ckQ)],d.ML,[(d.mi,.map d.esI d.ckI)],[(d.mkb,.map d.esK d.ckK)],d.SI,d.M,d.MR,ME,[(1,.cells (Lib.pow10Tab.map fun z=>Value.int .u64 z).toArray Tp zp)]]):=by
 have hg:=h.its.none hno;have hlmi:=h.its.len_eq.length_eq
 rw [zH,zH]at hlmi;have hrl:(Av q r0 base (Cv c.pos base c.win)).1.rows.length<=1000000:=by
  obtain ⟨_,hrn,hrv⟩:=Ky hr0;have hwl:=h.wl
  have hl9:(Cv c.pos base c.win).length<=64:=by unfold Cv;rw [zO];omega
  have h9:=O3 _ 0 (r0,base) _ 1000000000000000000 200 (N9 hrun) (fun y hy=>by have:=Mr h.tookb (r:=y) (AF2 hy);omega) hrv Ao9 hrn;have h10:(Av q r0 base (Cv c.pos base c.win)).1.rows.length<=_:=h9.2
  omega
 refine Se func14 ntmps14 [0,1] ?_;intro u R;refine Zq<|Zg<|Ze (Bx #[I4 q.kd,I4 q.tb,I4 q.cl,I4 q.lo,I4 q.hi,I4 q.bq,I4 q.ot,I4 (k:Int),I4 base,.slice pg L.length cg]) ?_;rintro _ _ ⟨be,rfl,rfl⟩;refine Za Y<|Z0<|Zx<|Zq<|Zq<|Zg<|Zm Y<|Zv (BU AZ4 Y Y)<|Z0<|Zx<|AR Y (fun hb9=>?_) (fun hb9=>?_)
 ·
  cases hb9
 refine AJ<|Zx<|Zq<|Zg<|Zm Y<|Zo Wh (AA (cs:=#[I4 q.kd,I4 q.tb,I4 q.cl,I4 q.lo,I4 q.hi,I4 q.bq,I4 q.ot,I4 (k:Int),I4 base,.slice pg L.length cg]) Ah5 AY9 Y Wn (by exact BD V)) ?_;refine Zc [_,_] Y call44 Y V (Qh h hq (k:Int) base hb hL hLl hfit hr0 hre Tp zp) ?_;rintro _ _ ⟨_,⟨b,rq,rc,wq,wc,s1,s2,rfl,hRP,hRW,rfl⟩,rfl⟩;rw [hrun];refine Zm Y<|Zd Y V<|Zd Y V<|Zd Y V<|Za Y<|Za Y<|Za Y<|Z0<|Zn [0,3,5,6,7] ?_;refine Zx<|Zq<|Zq<|Zg<|Zm Y<|Zv (Br Y)<|Z0<|Zx<|AR Y (fun hb2=>?_) (fun hb2=>?_)
 ·
  cases hb2
 refine AJ<|Zx<|Zq<|Zg<|Zm Y<|Zp Y V<|Zh 4 AV2 V rfl Ad4 Y<|Zl Ae7 Y ?_;refine Zm Y<|Zo Wh (De (DT AW6 (D:=fun _=>True)) AZ2 Ab7 h.its.im (fun _ _=>trivial) (trivial) (⟨by rw [hg];first|done|rfl,by rw [hg];first|done|rfl⟩) Y Y) ?_;refine Zm Y<|Zd Y V<|Zd Y V<|Za Y<|Za Y<|Z0<|Zn [0,3,5,6,8,9] ?_;refine Zx<|Zq<|AO<|Zq<|Az (n:=12) (0::1::3::7::15::31::63::3::131::511::1023::2047::[]) 0 Ao8 Ao8 V<|An9 0 V (AP Y)<|An9 1 V (AP Y)<|Cf (t:=36) Y (fun g1=>?_) (fun g1=>?_)
 ·
  rw [g1];cases g1
 rw [g1];refine Ao1 2 V<|Ao1 3 V<|Ao1 4 V<|Ao1 5 V<|Ao1 6 V<|Ao1 7 V<|Ao1 8 V<|Ao1 9 V<|An9 10 V (AU Y Y)<|An9 11 V (Aq Y)<|Ag<|Zx<|Dv Y<|Zq<|Zg<|Zm Y<|Za Y<|Z0<|Zn [0,5,6,8,46] ?_;refine Zx<|AR Y (fun h4=>?_) (fun h4=>?_)
 ·
  cases h4
 refine Zq<|Zg<|Zm Y<|Zp Y V<|Zh 4 AV2 V rfl Ad4 Y<|Zl Ae7 Y ?_;refine Zo Wh (PX AZ2 h.its.im Y) ?_;refine Zv (GK (n:=500) Y Y)<|Za Y<|Z0<|Zx<|Aw Y (fun h5=>?_) (fun h5=>?_)
 ·
  exfalso;omega
 refine AJ<|A9<|Zx<|Zq<|Fv (s:=c.z.S) Wo (fun hd=>?_);rw [Bd.keys]at hd;refine Az (n:=21) (0::1::3::7::0::16::48::112::240::0::0::1024::3072::7168::15360::32767::65535::131071::131071::262143::1048575::[]) 49152 Ao8 Ao8 V<|An9 0 V (AP Y)<|An9 1 V (Am Y V)<|An9 2 V (AB (off:=2) AV2 V rfl sizeOf113 Y)<|Ao0 3 V Ab9 Y ?_;refine An9 4 V (AP Y)<|An9 5 V (Am Y V)<|An9 6 V (AB (off:=0) AX1 V rfl AY9 Y)<|An9 7 V (AB (off:=7) AV7 V rfl AU1 Y)<|Ao0 8 V AU2 Y ?_;refine An9 9 V (AP Y)<|An9 10 V (AP Y)<|An9 11 V (Am Y V)<|An9 12 V (AB (off:=11) AX1 V rfl AU3 Y)<|Ao4 13 V Wh (AA (cs:=#[_,_,_]) AV6 AU3 Y (by(simp;done)) (by exact (by apply AB8.1;rfl))) ?_;refine Yz 14 15360 32767 [13,8,3] [false,true,true] [(8,(_,_)),(3,(_,_))] V Y V rfl V rfl (Zu [_] Y call46 Y V (Sw wq (Av q r0 base (Cv c.pos base c.win)).1.rows.length wc (I4 (Av q r0 base (Cv c.pos base c.win)).1.val) (.bool (Av q r0 base (Cv c.pos base c.win)).1.fnd) ⟨V,V⟩ ⟨V,V⟩ hrl)) ?_;rintro _ _ ⟨rfl,rfl⟩;refine ⟨Zk (Zk (AV)),?_⟩;refine Zz (l:=[15]) ?_;have hnoP:∀e∈c.PL,e.key≠str (CV q):=fun e he hk=>by
  obtain ⟨y,hy,hyk⟩:=zQ.1 ((h.pk e.key).1 (zS he));exact hno y hy (hyk.trans hk)
 refine Ao5 [false,false] [] V rfl (Zw [_,_,_,_] Y call45 Y V (sO h.pool hd hk Ao7 hroom (K:=str (CV q)) hnoP)) ?hk_2 Bp ?hl_2
 case hk_2=>
  rintro _ _ ⟨_,⟨rfl,z2,ep2,cp2,lp2,su2,bp,hr2,hcap2,hokp,rfl⟩,rfl⟩;refine ⟨AV,?_⟩;refine An9 16 V (AP Y)<|An9 17 V (Bt Y V)<|An9 18 V (Bt Y V)<|An9 19 V (Aq Y)<|An9 20 V (Aq Y)<|Ag<|Zn [0,5,6,10,11] ?_;refine Zx<|Zq<|Zq<|Zg<|Zm Y<|Zv (Br Y)<|Z0<|Zx<|AR Y (fun hb4=>?_) (fun hb4=>?_)
  ·
   cases hb4
  refine AJ<|Zx<|Zq<|Zq<|BV<|Zg<|Zm Y<|Zm Y<|Ze (Af (vs:=[_]) (cs:=[_]) AV1 AY6 AY5 Y V rfl V rfl V) ?_;rintro _ _ ⟨ga,rfl,rfl⟩;refine Ze (EF (by_:=16) (news:=[_]) AV1 (V:Tryz.prog.info? 9=some Tryz.t9) V rfl V rfl Y (G5 9) Y Wo Wh Ap1 V Ap5 Ao9 Ao9 Ao9) ?_;rintro _ _ ⟨sq,hrq,rfl⟩;obtain ⟨gq,cq,rfl⟩:=hrq.form;rcases hrq with⟨_,h0,_⟩|⟨gq2,capq,curq,zq,hvq,rfl,hleq,hcmq,hcsq,htkq,hfrq⟩
  · cases h0
  injection hvq with hv1 hv2 hv3
  subst hv1 hv3;have hcq0:curq[0]?=some (.string (str (CV q))):=by
   have h:=congrArg (fun l=>l[0]?) htkq;simpa using h
  refine Zv (Aa AV1 Y)<|Zm Y<|Z0<|Zx<|AO<|Zb [90,0,5,6,88,89] ?_;refine BI (e0:=[(90,_)]) (fun m e H=>∃(i:Nat) (lv9:Value) (ML9:List A8) (eq4:Array MapEntry) (cq4:Nat) (lq4:List (Int×Value)) (ei4:Array MapEntry) (ci4:Nat) (li4:List (ByteArray×Value)) (ek4:Array MapEntry) (ck4:Nat) (lk4:List (Int×Value)),m=1 -i/\(i<=1/\Fy (if i=0 then c.its else c.its) c.next eq4 cq4 lq4 lv9 ML9 ei4 ci4 li4 ek4 ck4 lk4 c.SI)/\e=[(90,I4 (i:Int))]/\H=[[(c.ip,.cells #[.map (some c.mq),lv9] 186 (0,0))],[(c.mq,.map eq4 cq4)],[(c.mi,.map ei4 ci4)],[(c.mkb,.map ek4 ck4)]]) (by exact ⟨0,c.lv,c.ML,c.esQ,c.ckQ,c.lmQ,c.esI,c.ckI,c.lmI,c.esK,c.ckK,c.lmK,V,⟨by decide,h.its⟩,V,V⟩) Wp ?_;rintro _ _ _ ⟨i,lv9,ML9,eq4,cq4,lq4,ei4,ci4,li4,ek4,ck4,lk4,rfl,⟨hi,hits⟩,rfl,rfl⟩;refine Zq<|BV<|Zg<|Zv (Au Y Y)<|Z0<|Zx<|Zq<|Aw Y (fun hlt=>?_) (fun hlt=>?_)
  ·
   obtain rfl:i=0:=by simp at hlt;omega
   rw [Am7 rfl]at hits;refine AJ<|Zx<|Zq<|AO<|Zq<|BV<|Zg<|Bq (Ba AV1 AY6 Y Y (by first|omega|decide|(simp;done)|(simp at hlt⊢;omega)))<|Zl Af1 Y (hv:=by exact hcq0) ?_;refine Za Y<|Z0<|Zx<|Zg<|Zm Y<|Zm Y<|Xr [_,_] Y call47 Y V (je hits hno) ?_;refine Z0<|A9<|Zx<|BV<|Zg<|Ya (n:=1) Y Y<|Zm Y<|Z0<|Zn [90,0,5,6,88,89] ?_;refine Ad (e':=[(90,_)]) (by exact ⟨1,lv9,ML9,eq4,cq4,lq4,ei4,ci4,li4,ek4,ck4,lk4,rfl,⟨by decide,by rw [Am6 Ao9];exact hits⟩,rfl,rfl⟩)
  obtain rfl:i=1:=by simp at hlt;omega
  rw [Am6 Ao9]at hits;refine BG<|Zt<|Zt<|AX<|Zx<|Zq<|Zg<|Zm Y<|Zm Y<|Zm Y<|Zc [_,_,_] Y call48 Y V (Md hits (x:=(Hl b (c.next+1) q (k:Int) base rq rc L (Av q r0 base (Cv c.pos base c.win)) wq wc)) hno V hnx hlen hq) ?_;rintro _ _ ⟨_,⟨rfl,eq5,cq5,lq5,ei5,ci5,li5,ek5,ck5,lk5,hits5,rfl⟩,rfl⟩;refine Z0<|Zx<|Zq<|C8 (s1:=s2) (s2:=c.MR) Wo Wo ?_;refine C8 (s1:=s1) (s2:=c.M) Wo Wo ?_;refine Zg<|Za Y<|Z0<|Zx<|AC<|AL V results14 Y (by
   refine ⟨rfl,({c with z:=z2,PL:=c.PL++[⟨bp,str (CV q),(k:Int),(1+((Av q r0 base (Cv c.pos base c.win)).1.rows.length:Int))⟩],esP:=ep2,ckP:=cp2,lmP:=lp2,su:=su2,next:=c.next+1,its:=c.its++[(Hl b (c.next+1) q (k:Int) base rq rc L (Av q r0 base (Cv c.pos base c.win)) wq wc)],esQ:=eq5,ckQ:=cq5,lmQ:=lq5,lv:= .pointer none,ML:=[],esI:=ei5,ckI:=ci5,lmI:=li5,esK:=ek5,ckK:=ck5,lmK:=lk5,SI:=c.SI++[(Hl b (c.next+1) q (k:Int) base rq rc L (Av q r0 base (Cv c.pos base c.win)) wq wc).ch],M:=s1++c.M,MR:=s2++c.MR}:CZ),b,rq,wq,rc,wc,s1,⟨⟨h.pos,h.win,h.wl,VH h.tookb (fun q hq=>by simp [hq]),hokp,mZ h.pk _ _ rfl,hits5,fun y hy=>?_⟩,fun y hy=>?_⟩,⟨rfl,rfl,rfl,rfl,hcap2⟩,rfl,rfl,rfl,fun e he=>(by rcases zJ.1 he with h9|h9;exact .inl h9;exact .inr (by rw [zI.1 h9])),?_⟩
   · rcases zJ.1 hy with hy|hy
     · exact h.tns y hy
     · rw [zI.1 hy];show _<_;exact (by simp only [Hl];omega)
   · rcases zJ.1 hy with hy|hy
     · exact (h.all y hy).mono (fun q hq=>by simp [hq]) (fun q hq=>by simp [hq])
     · rw [zI.1 hy];exact SF hq ⟨by omega,by omega⟩ hb hLl hfit hr0 hre hrun (hRP.mono fun q hq=>by simp [hq]) (hRW.mono fun q hq=>by simp [hq])
   · simp only [hr2];rfl)
 exact Ae
set_option maxHeartbeats 1000000 in
theorem iE(h:c.ok)(hq:BH q)(hk:k<c.ns)(hk6:k<=1000000)(base:Int)(hb:0<=base/\base<=10000)(hL:Fg ME (.slice pg L.length cg) L)(hLl:L.length<=1000000)(hfit:∀x∈L,x.fits)(hr0:ED q L=some r0)(hre:(c.pos -base).toNat<=c.win.length)(hrun:(Av q r0 base (Cv c.pos base c.win)).2.2=true)(hnx:c.next<1000000000)(hx:x∈c.its)(hxk:x.key=str (CV q))(hxb:x.base<base)(hroom:(1+((Av q r0 base (Cv c.pos base c.win)).1.rows.length:Int))<=c.z.fr)(Tp:TypeId)(zp:Nat×Nat):BR Tryz.prog 14 #[.pointer (some ⟨c.cp,0,none⟩),.agg #[I4 q.kd,I4 q.tb,I4 q.cl,I4 q.lo,I4 q.hi,I4 q.bq,I4 q.ot,I4 (k:Int),I4 base,.slice pg L.length cg]] [[(c.cp,.cells #[I4 c.pos,.slice c.wq c.win.length c.wc,.pointer (some ⟨c.z.r,0,none⟩),.pointer (some ⟨c.ip,0,none⟩),.map (some c.mi),.map (some c.mkb),I4 c.next] 120 (0,0))],c.sW,c.z.S,[(c.mb,.map c.esP c.ckP)],c.su,[(c.ip,.cells #[.map (some c.mq),c.lv] 186 (0,0))],[(c.mq,.map c.esQ c.ckQ)],c.ML,[(c.mi,.map c.esI c.ckI)],[(c.mkb,.map c.esK c.ckK)],c.SI,c.M,c.MR,ME,[(1,.cells (Lib.pow10Tab.map fun z=>Value.int .u64 z).toArray Tp zp)]] (fun w H'=>w= .bool true/\∃(d:CZ) (b:Nat) (rq wq:Option Addr) (rc wc:Nat) (s:List A8),d.ok/\c.like d/\d.next=c.next+1/\d.M=s++c.M/\d.its=(c.its.filter fun y=>y.key≠str (CV q))++[(Hl b (c.next+1) q x.tn base rq rc L (Av q r0 base (Cv c.pos base c.win)) wq wc)]/\(∀e∈d.PL,e∈c.PL\/e.sz=(1+((Av q r0 base (Cv c.pos base c.win)).1.rows.length:Int)))/\H'=[[(d.cp,.cells #[I4 d.pos,.slice d.wq d.win.length d.wc,.pointer (some ⟨d.z.r,0,none⟩),.pointer (some ⟨d.ip,0,none⟩),.map (some d.mi),.map (some d.mkb),I4 d.next] 120 (0,0))],d.sW,d.z.S,[(d.mb,.map d.esP d.ckP)],d.su,[(d.ip,.cells #[.map (some d.mq),d.lv] 186 (0,0))],[(d.mq,.map d.esQ d.ckQ)],d.ML,[(d.mi,.map d.esI d.ckI)],[(d.mkb,.map d.esK d.ckK)],d.SI,d.M,d.MR,ME,[(1,.cells (Lib.pow10Tab.map fun z=>Value.int .u64 z).toArray Tp zp)]]):=by
 have hg:=h.its.get hx;rw [hxk]at hg;have hch:(x.b,Obj.cells #[I4 x.q.kd,I4 x.q.tb,I4 x.q.cl,I4 x.q.lo,I4 x.q.hi,I4 x.q.bq,I4 x.q.ot,I4 x.tn,I4 x.base,.slice x.rq x.L.length x.rc,I4 x.id,.slice x.wq x.res.rows.length x.wc,I4 x.res.val,.bool x.res.fnd,I4 x.since] 126 (0,0))∈c.SI:=h.its.sub x hx
 have hxo:=h.all x hx;have hxt:=h.tns x hx
 obtain ⟨k2,hk2⟩:∃k2:Nat,x.tn=(k2:Int):=⟨x.tn.toNat,by have:=hxo.tn;omega⟩;obtain ⟨y,hy,hyk⟩:=zQ.1 ((h.pk x.key).2 (zS hx));obtain ⟨L1,L2,hPL⟩:=UA hy;have hpool:=h.pool
 rw [hPL]at hpool;rw [hxk]at hyk;have hysz:=h.pool.size hy
 have hfn:∀z∈(c.its.filter fun y=>y.key≠str (CV q)),z.key≠str (CV q):=fun z hz=>by simpa using(AA2.1 hz).2
 have hxlen:(c.its.filter fun y=>y.key≠str (CV q)).length<500:=by
  have h1:=h.its.len;have h2:(c.its.filter fun y=>y.key≠str (CV q)).length<c.its.length:=by
   rcases AB1 (c.its.filter fun y=>y.key≠str (CV q)).length c.its.length with h3|h3
   · exact h3
   · have h4:=AF5.eq_of_length (Nat.le_antisymm (AD3 (fun y=>decide (y.key≠str (CV q))) c.its) h3)
     exact absurd hxk (hfn x (by rw [h4];exact hx))
  omega
 have hrl:(Av q r0 base (Cv c.pos base c.win)).1.rows.length<=1000000:=by
  obtain ⟨_,hrn,hrv⟩:=Ky hr0;have hwl:=h.wl
  have hl9:(Cv c.pos base c.win).length<=64:=by unfold Cv;rw [zO];omega
  have h9:=O3 _ 0 (r0,base) _ 1000000000000000000 200 (N9 hrun) (fun y hy=>by have:=Mr h.tookb (r:=y) (AF2 hy);omega) hrv Ao9 hrn;have h10:(Av q r0 base (Cv c.pos base c.win)).1.rows.length<=_:=h9.2
  omega
 refine Se func14 ntmps14 [0,1] ?_;intro u R;refine Zq<|Zg<|Ze (Bx #[I4 q.kd,I4 q.tb,I4 q.cl,I4 q.lo,I4 q.hi,I4 q.bq,I4 q.ot,I4 (k:Int),I4 base,.slice pg L.length cg]) ?_;rintro _ _ ⟨be,rfl,rfl⟩;refine Za Y<|Z0<|Zx<|Zq<|Zq<|Zg<|Zm Y<|Zv (BU AZ4 Y Y)<|Z0<|Zx<|AR Y (fun hb9=>?_) (fun hb9=>?_)
 ·
  cases hb9
 refine AJ<|Zx<|Zq<|Zg<|Zm Y<|Zo Wh (AA (cs:=#[I4 q.kd,I4 q.tb,I4 q.cl,I4 q.lo,I4 q.hi,I4 q.bq,I4 q.ot,I4 (k:Int),I4 base,.slice pg L.length cg]) Ah5 AY9 Y Wn (by exact BD V)) ?_;refine Zc [_,_] Y call44 Y V (Qh h hq (k:Int) base hb hL hLl hfit hr0 hre Tp zp) ?_;rintro _ _ ⟨_,⟨b,rq,rc,wq,wc,s1,s2,rfl,hRP,hRW,rfl⟩,rfl⟩;rw [hrun];refine Zm Y<|Zd Y V<|Zd Y V<|Zd Y V<|Za Y<|Za Y<|Za Y<|Z0<|Zn [0,3,5,6,7] ?_;refine Zx<|Zq<|Zq<|Zg<|Zm Y<|Zv (Br Y)<|Z0<|Zx<|AR Y (fun hb2=>?_) (fun hb2=>?_)
 ·
  cases hb2
 refine AJ<|Zx<|Zq<|Zg<|Zm Y<|Zp Y V<|Zh 4 AV2 V rfl Ad4 Y<|Zl Ae7 Y ?_;refine Zm Y<|Zo Wh (De (DT AW6 (D:=fun _=>True)) AZ2 Ab7 h.its.im (fun _ _=>trivial) (trivial) (⟨by rw [hg];first|done|rfl,by rw [hg];first|done|rfl⟩) Y Y) ?_;refine Zm Y<|Zd Y V<|Zd Y V<|Za Y<|Za Y<|Z0<|Zn [0,3,5,6,8,9] ?_;refine Zx<|Zq<|AO<|Zq<|Az (n:=12) (0::1::3::7::15::31::63::3::131::511::1023::2047::[]) 0 Ao8 Ao8 V<|An9 0 V (AP Y)<|An9 1 V (AP Y)<|Cf (t:=36) Y (fun g1=>?_) (fun g1=>?_)
 ·
  rw [g1];refine Ao2 2 V (AP Y)<|Ao2 3 V (Am Y V)<|Ao2 4 V (AB (off:=0) AX1 V rfl AY9 Y)<|Ao2 5 V (AB (off:=8) AV7 V rfl AU1 Y)<|Vo (D':=127) 6 Y V rfl V (F6 Wo (hch)) (BX AU2 Y Ap1) ?_;refine Ao2 7 V (AB (off:=8) AV7 V rfl AU1 Y)<|Ao3 8 V Wh (BX AU2 Y Ap1) ?_;refine Ao2 9 V (Iq Y Y)<|An9 10 V (AZ Y Y)<|An9 11 V (Aq Y)<|Ag<|Zx<|Aw Y (fun h3=>?_) (fun h3=>?_)
  ·
   exfalso;omega
  refine Zq<|Zg<|Zm Y<|Za Y<|Z0<|Zn [0,5,6,8,46] ?_;refine Zx<|AR Y (fun h4=>?_) (fun h4=>?_)
  ·
   refine Zg<|Zm Y<|Zm Y<|Zp Y V<|Zh 0 AX1 V rfl AY9 Y<|Zh 7 AV7 V rfl AU1 Y<|CW (Gc Wo (hch)) (BX AU2 Y Ap1) V rfl ?_;refine Zp Y V<|Zh 0 AX1 V rfl AY9 Y<|Zh 7 AV7 V rfl AU1 Y<|Xe (Zs AU1 Y Y V (hi:=by(simp;done))) ?_;refine Z0<|A9<|Zx<|Zq<|Fv (s:=c.z.S) Wo (fun hd=>?_);rw [Bd.keys]at hd;refine Az (n:=21) (0::1::3::7::0::16::48::112::240::0::0::1024::3072::7168::15360::32767::65535::131071::131071::262143::1048575::[]) 49152 Ao8 Ao8 V<|An9 0 V (AP Y)<|An9 1 V (Am Y V)<|An9 2 V (AB (off:=2) AV2 V rfl sizeOf113 Y)<|Ao0 3 V Ab9 Y ?_;refine An9 4 V (AP Y)<|An9 5 V (Am Y V)<|An9 6 V (AB (off:=0) AX1 V rfl AY9 Y)<|An9 7 V (AB (off:=7) AV7 V rfl AU1 Y)<|Ao0 8 V AU2 Y ?_;refine An9 9 V (AP Y)<|An9 10 V (AP Y)<|An9 11 V (Am Y V)<|An9 12 V (AB (off:=11) AX1 V rfl AU3 Y)<|Ao4 13 V Wh (AA (cs:=#[_,_,_]) AV6 AU3 Y (by(simp;done)) (by exact (by apply AB8.1;rfl))) ?_;refine Yz 14 15360 32767 [13,8,3] [false,true,true] [(8,(_,_)),(3,(_,_))] V Y V rfl V rfl (Zu [_] Y call46 Y V (Sw wq (Av q r0 base (Cv c.pos base c.win)).1.rows.length wc (I4 (Av q r0 base (Cv c.pos base c.win)).1.val) (.bool (Av q r0 base (Cv c.pos base c.win)).1.fnd) ⟨V,V⟩ ⟨V,V⟩ hrl)) ?_;rintro _ _ ⟨rfl,rfl⟩;refine ⟨Zk (Zk (AV)),?_⟩;refine Zz (l:=[15]) ?_;have hput:=sN hpool hd (k:=k2) Ao7 (sz:=(1+((Av q r0 base (Cv c.pos base c.win)).1.rows.length:Int))) Ao7 Ao7
   rw [<-hk2,hyk]at hput;refine Ao5 [false,false] [] V rfl (Zw [_,_,_,_] Y call45 Y V (hput)) ?hk_2 Bp ?hl_2
   case hk_2=>
    rintro _ _ ⟨_,⟨rfl,z2,ep2,cp2,lp2,su2,bp,hr2,hcap2,hokp,rfl⟩,rfl⟩;refine ⟨AV,?_⟩;refine An9 16 V (AP Y)<|An9 17 V (Bt Y V)<|An9 18 V (Bt Y V)<|An9 19 V (Aq Y)<|An9 20 V (Aq Y)<|Ag<|Zn [0,5,6,10,11] ?_;refine Zx<|Zq<|Zq<|Zg<|Zm Y<|Zv (Br Y)<|Z0<|Zx<|AR Y (fun hb4=>?_) (fun hb4=>?_)
    ·
     cases hb4
    refine AJ<|Zx<|Zq<|Zq<|BV<|Zg<|Zm Y<|Zm Y<|Ze (Af (vs:=[_]) (cs:=[_]) AV1 AY6 AY5 Y V rfl V rfl V) ?_;rintro _ _ ⟨ga,rfl,rfl⟩;refine Ze (EF (by_:=16) (news:=[_]) AV1 (V:Tryz.prog.info? 9=some Tryz.t9) V rfl V rfl Y (G5 9) Y Wo Wh Ap1 V Ap5 Ao9 Ao9 Ao9) ?_;rintro _ _ ⟨sq,hrq,rfl⟩;obtain ⟨gq,cq,rfl⟩:=hrq.form;rcases hrq with⟨_,h0,_⟩|⟨gq2,capq,curq,zq,hvq,rfl,hleq,hcmq,hcsq,htkq,hfrq⟩
    · cases h0
    injection hvq with hv1 hv2 hv3
    subst hv1 hv3;have hcq0:curq[0]?=some (.string (str (CV q))):=by
     have h:=congrArg (fun l=>l[0]?) htkq;simpa using h
    refine Zv (Aa AV1 Y)<|Zm Y<|Z0<|Zx<|AO<|Zb [90,0,5,6,88,89] ?_;refine BI (e0:=[(90,_)]) (fun m e H=>∃(i:Nat) (lv9:Value) (ML9:List A8) (eq4:Array MapEntry) (cq4:Nat) (lq4:List (Int×Value)) (ei4:Array MapEntry) (ci4:Nat) (li4:List (ByteArray×Value)) (ek4:Array MapEntry) (ck4:Nat) (lk4:List (Int×Value)),m=1 -i/\(i<=1/\Fy (if i=0 then c.its else(c.its.filter fun y=>y.key≠str (CV q))) c.next eq4 cq4 lq4 lv9 ML9 ei4 ci4 li4 ek4 ck4 lk4 c.SI)/\e=[(90,I4 (i:Int))]/\H=[[(c.ip,.cells #[.map (some c.mq),lv9] 186 (0,0))],[(c.mq,.map eq4 cq4)],[(c.mi,.map ei4 ci4)],[(c.mkb,.map ek4 ck4)]]) (by exact ⟨0,c.lv,c.ML,c.esQ,c.ckQ,c.lmQ,c.esI,c.ckI,c.lmI,c.esK,c.ckK,c.lmK,V,⟨by decide,h.its⟩,V,V⟩) Wp ?_;rintro _ _ _ ⟨i,lv9,ML9,eq4,cq4,lq4,ei4,ci4,li4,ek4,ck4,lk4,rfl,⟨hi,hits⟩,rfl,rfl⟩;refine Zq<|BV<|Zg<|Zv (Au Y Y)<|Z0<|Zx<|Zq<|Aw Y (fun hlt=>?_) (fun hlt=>?_)
    ·
     obtain rfl:i=0:=by simp at hlt;omega
     rw [Am7 rfl]at hits;refine AJ<|Zx<|Zq<|AO<|Zq<|BV<|Zg<|Bq (Ba AV1 AY6 Y Y (by first|omega|decide|(simp;done)|(simp at hlt⊢;omega)))<|Zl Af1 Y (hv:=by exact hcq0) ?_;refine Za Y<|Z0<|Zx<|Zg<|Zm Y<|Zm Y ?_;have hfg:=Ut (cp:=c.cp) (r:=c.z.r) (ip:=c.ip) (mi:=c.mi) (mk:=c.mkb) (mq:=c.mq) (pos:=c.pos) (wv:= .slice c.wq c.win.length c.wc) hits hx
     rw [hxk]at hfg;refine Zc [_,_] Y call47 Y V (hfg) ?_;rintro _ _ ⟨_,⟨rfl,eq6,cq6,lq6,ei6,ci6,li6,ek6,ck6,lk6,hits6,rfl⟩,rfl⟩;refine Z0<|A9<|Zx<|BV<|Zg<|Ya (n:=1) Y Y<|Zm Y<|Z0<|Zn [90,0,5,6,88,89] ?_;refine Ad (e':=[(90,_)]) (by exact ⟨1,_,[],eq6,cq6,lq6,ei6,ci6,li6,ek6,ck6,lk6,rfl,⟨by decide,by rw [Am6 Ao9];exact hits6⟩,rfl,rfl⟩)
    obtain rfl:i=1:=by simp at hlt;omega
    rw [Am6 Ao9]at hits;refine BG<|Zt<|Zt<|AX<|Zx<|Zq<|Zg<|Zm Y<|Zm Y<|Zm Y<|Zc [_,_,_] Y call48 Y V (Md hits (x:=(Hl b (c.next+1) q x.tn base rq rc L (Av q r0 base (Cv c.pos base c.win)) wq wc)) hfn V hnx hxlen hq) ?_;rintro _ _ ⟨_,⟨rfl,eq5,cq5,lq5,ei5,ci5,li5,ek5,ck5,lk5,hits5,rfl⟩,rfl⟩;refine Z0<|Zx<|Zq<|C8 (s1:=s2) (s2:=c.MR) Wo Wo ?_;refine C8 (s1:=s1) (s2:=c.M) Wo Wo ?_;refine Zg<|Za Y<|Z0<|Zx<|AC<|AL V results14 Y (by
     refine ⟨rfl,({c with z:=z2,PL:=L1++L2++[⟨bp,str (CV q),x.tn,(1+((Av q r0 base (Cv c.pos base c.win)).1.rows.length:Int))⟩],esP:=ep2,ckP:=cp2,lmP:=lp2,su:=su2,next:=c.next+1,its:=(c.its.filter fun y=>y.key≠str (CV q))++[(Hl b (c.next+1) q x.tn base rq rc L (Av q r0 base (Cv c.pos base c.win)) wq wc)],esQ:=eq5,ckQ:=cq5,lmQ:=lq5,lv:= .pointer none,ML:=[],esI:=ei5,ckI:=ci5,lmI:=li5,esK:=ek5,ckK:=ck5,lmK:=lk5,SI:=c.SI++[(Hl b (c.next+1) q x.tn base rq rc L (Av q r0 base (Cv c.pos base c.win)) wq wc).ch],M:=s1++c.M,MR:=s2++c.MR}:CZ),b,rq,wq,rc,wc,s1,⟨⟨h.pos,h.win,h.wl,VH h.tookb (fun q hq=>by simp [hq]),hokp,mZ (UV h.pk hPL h.pool.keys hyk) _ _ rfl,hits5,fun y hy=>?_⟩,fun y hy=>?_⟩,⟨rfl,rfl,rfl,rfl,hcap2⟩,rfl,rfl,rfl,fun e he=>(by rcases zJ.1 he with h9|h9;exact .inl (by rw [hPL];rcases zJ.1 h9 with h9|h9<;>simp [h9]);exact .inr (by rw [zI.1 h9])),?_⟩
     · rcases zJ.1 hy with hy|hy
       · exact h.tns y (AA2.1 hy).1
       · rw [zI.1 hy];show _<_;exact hxt
     · rcases zJ.1 hy with hy|hy
       · exact (h.all y (AA2.1 hy).1).mono (fun q hq=>by simp [hq]) (fun q hq=>by simp [hq])
       · rw [zI.1 hy];exact SF hq hxo.tn hb hLl hfit hr0 hre hrun (hRP.mono fun q hq=>by simp [hq]) (hRW.mono fun q hq=>by simp [hq])
     · simp only [hr2];rfl)
   exact Ae
  cases h4
 rw [g1];cases g1
variable{s:List A8}
theorem Ou{b:Nat}{o o':Obj}(h:(b,o)∈s):(b,o')∈Hr b o' s:=zQ.2 ⟨_,h,Am7 rfl⟩
theorem U6(b:Nat)(o o':Obj)(s:List A8):Hr b o' (Hr b o s)=Hr b o' s:=by
 unfold Hr;rw [AF0];refine AG4 fun p _=>?_;show(if(if p.1=b then(b,o)else p).1=b then(b,o')else(if p.1=b then(b,o)else p))=if p.1=b then(b,o')else p
 by_cases h:p.1=b
 · simp only [Am7 h,An4]
 · simp only [Am6 h]
def ItM.upd(x:ItM)(p:Int)(cs:List Chg)(wq:Option Addr)(wc:Nat):ItM:={x with res:=(BQ x.q x.res cs).1,wq:=wq,wc:=wc,since:=p}
structure ItM.live(MR:List A8)(x:ItM):Prop where
 q:BH x.q
 rw:Dh MR (.slice x.wq x.res.rows.length x.wc) x.res.rows
 wn:x.res.rows.length<=10000000
 wv:-2000000000000000000<=x.res.val/\x.res.val<=2000000000000000000
theorem ItM.ok.live(h:c.okb)(hx:x.ok c.M c.MR c.pos c.win):x.live c.MR:=by
 obtain ⟨r0,hr0,hrun⟩:=hx.run;obtain ⟨_,hrn,hrv⟩:=Ky hr0;have hwl:=h.wl
 have hl9:(Cv c.pos x.base c.win).length<=64:=by unfold Cv;rw [zO];omega
 have h9:=O3 _ 0 (r0,x.base) _ 1000000000000000000 200 hrun (fun y hy=>by have:=Mr h (r:=y) (AF2 hy);omega) hrv Ao9 hrn;have h10:x.res.rows.length<=_:=h9.2
 have h11:_<=x.res.val/\x.res.val<=_:=h9.1;exact ⟨hx.q,hx.rw,by omega,by omega,by omega⟩
variable{d:CZ}{qa:Option Addr}{cap:Nat}{cs:List Chg}{tl:List ByteArray}{tv:Value}{st:List A8}
set_option maxHeartbeats 1000000 in
theorem kR(h:d.okb)(hx:x∈d.its)(hl:x.live d.MR)(p:Int)(hC:Ct ME (.slice qa cs.length cap) cs)(hcl:cs.length<=1000)(hok9:(BQ x.q x.res cs).2.2=true)(hT:Row 9 tv (tl.map Value.string) st)(htl:tl.length<=1000000)(bt br bc:Nat):BR Tryz.prog 54 #[.string x.key,.pointer (some ⟨x.b,0,none⟩),I5 bt,I5 br,I5 bc] [[(bt,.cells #[tv] 45 (0,0))],[(br,.cells #[I4 p,.slice qa cs.length cap] 50 (0,0))],[(bc,.cells #[.pointer (some ⟨d.cp,0,none⟩)] 37 (0,0))],st,[(d.cp,.cells #[I4 d.pos,.slice d.wq d.win.length d.wc,.pointer (some ⟨d.z.r,0,none⟩),.pointer (some ⟨d.ip,0,none⟩),.map (some d.mi),.map (some d.mkb),I4 d.next] 120 (0,0))],d.sW,d.z.S,[(d.mb,.map d.esP d.ckP)],d.su,[(d.ip,.cells #[.map (some d.mq),d.lv] 186 (0,0))],[(d.mq,.map d.esQ d.ckQ)],d.ML,[(d.mi,.map d.esI d.ckI)],[(d.mkb,.map d.esK d.ckK)],d.SI,d.M,d.MR,ME] (fun v H'=>v=undef/\∃wq wc tv' st' s,Row 9 tv' ((tl++[x.key]).map Value.string) st'/\Dh s (.slice wq (BQ x.q x.res cs).1.rows.length wc) (BQ x.q x.res cs).1.rows/\(d.SI.map (·.1)).Nodup/\H'=[[(bt,.cells #[tv'] 45 (0,0))],[(br,.cells #[I4 p,.slice qa cs.length cap] 50 (0,0))],[(bc,.cells #[.pointer (some ⟨d.cp,0,none⟩)] 37 (0,0))],st',[(d.cp,.cells #[I4 d.pos,.slice d.wq d.win.length d.wc,.pointer (some ⟨d.z.r,0,none⟩),.pointer (some ⟨d.ip,0,none⟩),.map (some d.mi),.map (some d.mkb),I4 d.next] 120 (0,0))],d.sW,d.z.S,[(d.mb,.map d.esP d.ckP)],d.su,[(d.ip,.cells #[.map (some d.mq),d.lv] 186 (0,0))],[(d.mq,.map d.esQ d.ckQ)],d.ML,[(d.mi,.map d.esI d.ckI)],[(d.mkb,.map d.esK d.ckK)],Hr x.b (x.upd p cs wq wc).obj d.SI,d.M,s++d.MR,ME]):=by
 have hml:=mL;have hch:(x.b,Obj.cells #[I4 x.q.kd,I4 x.q.tb,I4 x.q.cl,I4 x.q.lo,I4 x.q.hi,I4 x.q.bq,I4 x.q.ot,I4 x.tn,I4 x.base,.slice x.rq x.L.length x.rc,I4 x.id,.slice x.wq x.res.rows.length x.wc,I4 x.res.val,.bool x.res.fnd,I4 x.since] 126 (0,0))∈d.SI:=h.its.sub x hx
 obtain ⟨gt,ct,rfl⟩:=hT.form;refine Se func54 ntmps54 [0,1,2,3,4] ?_;intro u R;refine Zq<|Fv (s:=d.SI) Wo (fun hnd=>?_);refine Zg<|Zl Ae3 Y ?_;refine Zm Y<|Ze (Af (vs:=[_]) (cs:=[_]) AV1 AY6 AY5 Y V rfl V rfl V) ?_;rintro _ _ ⟨gb,rfl,rfl⟩;refine Ze (EF (by_:=16) (news:=[_]) AV1 (V:Tryz.prog.info? 9=some Tryz.t9) V rfl V rfl Y hT Y Wo Wh Ap1 V Ap5 Ao9 (by(simp only [zH];omega)) (by(simp only [zH];omega))) ?_;rintro _ _ ⟨sa9,hra9,rfl⟩;obtain ⟨ga9,ca9,rfl⟩:=hra9.form;refine Xe (Zs Aa1 Y Y V) ?_;refine Z0<|Zx<|Zq<|Az (n:=19) (0::1::3::7::15::0::32::96::224::0::1023::2047::4095::4095::4095::0::40959::114687::262143::[]) 99328 Ao8 Ao8 V<|An9 0 V (AP Y)<|An9 1 V (Am Y V)<|An9 2 V (AB (off:=0) AX1 V rfl AY9 Y)<|An9 3 V (Ar (off:=0) AV7 V rfl AV8 Y)<|Cw (D':=31) 4 V rfl V (F6 Wo (hch)) (AA (cs:=#[_,_,_,_,_,_,_]) AX9 AV8 Y (by(simp;done)) (by exact (by apply AB8.1;rfl))) ?_;refine An9 5 V (AP Y)<|An9 6 V (Am Y V)<|An9 7 V (AB (off:=11) AX1 V rfl AU3 Y)<|Cw (D':=511) 8 V rfl V (F6 Wo (hch)) (AA (cs:=#[_,_,_]) AV6 AU3 Y (by(simp;done)) (by exact (by apply AB8.1;rfl))) ?_;refine Ao4 9 V Wh (AA (cs:=#[_,_]) Ad7 AX5 Y (by(simp;done)) (by exact BD V)) ?_;refine Zz (l:=[10,15])<|Ao5 [false,false,false] [] V rfl (Zw [_,_,_] Y call55 Y V (J5 x.q hl.q p qa cap cs hC hcl hl.rw hl.wn hl.wv)) ?hk_1 Bp ?hl_1
 case hk_1=>
  rintro _ _ ⟨_,⟨rv3,s3,rfl,hrow3,rfl⟩,rfl⟩;refine ⟨AV,?_⟩;obtain ⟨w3,c3,rfl⟩:=hrow3.form;rw [hok9];refine An9 11 V (AP Y)<|An9 12 V (Bt Y V)<|An9 13 V (Bt Y V)<|An9 14 V (Bt Y V)<|Zz (l:=[15])<|Ao5 [] [] V rfl (Al AW5 #[_,_,_]) ?hk_2 (fun _ _ h=>h.elim) ?hl_2
  case hk_2=>
   rintro _ _ ⟨bn,rfl,rfl⟩;refine ⟨AV,?_⟩;refine Yw 16 131071 V (Xw AU3 #[.slice w3 (BQ x.q x.res cs).1.rows.length c3,I4 (BQ x.q x.res cs).1.val,.bool (BQ x.q x.res cs).1.fnd]) ?_;rintro _ _ ⟨rfl,rfl⟩;refine An9 17 V (Aq Y)<|An9 18 V (Aq Y)<|Ag<|Zn [0,1,3,4,7,9] ?_;refine Zx<|Zq<|Zq<|Zg<|Zm Y<|Zv (Br Y)<|Z0<|Zx<|AR Y (fun hb2=>?_) (fun hb2=>?_)
   ·
    cases hb2
   refine AJ<|Zx ?_;have h3m:=Lp hrow3
   have hch1:(x.b,Obj.cells #[I4 x.q.kd,I4 x.q.tb,I4 x.q.cl,I4 x.q.lo,I4 x.q.hi,I4 x.q.bq,I4 x.q.ot,I4 x.tn,I4 x.base,.slice x.rq x.L.length x.rc,I4 x.id,.slice w3 (BQ x.q x.res cs).1.rows.length c3,I4 (BQ x.q x.res cs).1.val,.bool (BQ x.q x.res cs).1.fnd,I4 x.since] 126 (0,0))∈Hr x.b (.cells #[I4 x.q.kd,I4 x.q.tb,I4 x.q.cl,I4 x.q.lo,I4 x.q.hi,I4 x.q.bq,I4 x.q.ot,I4 x.tn,I4 x.base,.slice x.rq x.L.length x.rc,I4 x.id,.slice w3 (BQ x.q x.res cs).1.rows.length c3,I4 (BQ x.q x.res cs).1.val,.bool (BQ x.q x.res cs).1.fnd,I4 x.since] 126 (0,0)) d.SI:=Ou hch;refine C8 (s1:=s3) (s2:=d.MR) Wo Wo ?_;refine Az (n:=11) (0::0::0::0::8::5::37::101::255::511::1023::[]) 1152 Ao8 Ao8 V<|An9 0 V (AP Y)<|An9 1 V (AP Y)<|Ao4 2 V Wh (AA (cs:=#[_,_,_]) AV6 AU3 Y (by(simp;done)) (by exact BD V)) ?_;refine An9 3 V (AB (off:=0) AY1 V rfl AU1 Y)<|Ao0 4 V AU2 Y ?_;refine An9 5 rfl (Am Y rfl)<|An9 6 rfl (AB (off:=11) AX1 rfl rfl AU3 Y)<|Zz (l:=[7])<|Ao5 [true,false] [(4,(_,_))] rfl rfl (Nh AU3 Y Y Ap9 Wo (hch) (by exact congrArg (fun a=>Hr x.b (Obj.cells a 126 (0,0)) d.SI) (rfl:_=(#[I4 x.q.kd,I4 x.q.tb,I4 x.q.cl,I4 x.q.lo,I4 x.q.hi,I4 x.q.bq,I4 x.q.ot,I4 x.tn,I4 x.base,.slice x.rq x.L.length x.rc,I4 x.id,.slice w3 (BQ x.q x.res cs).1.rows.length c3,I4 (BQ x.q x.res cs).1.val,.bool (BQ x.q x.res cs).1.fnd,I4 x.since]:Array Value))) Ap3 (by(simp;done)) (by exact BF _)) ?hk_4 (fun _ _ h=>h.elim) ?hl_4
   case hk_4=>
    rintro _ _ ⟨rfl,rfl⟩;refine ⟨Zk (AV),?_⟩;refine An9 8 V (Am Y V)<|An9 9 V (AB (off:=14) AX1 V rfl AU1 Y)<|Zz (l:=[10])<|Ao5 [false] [] V rfl (GM AU1 Y Y V Wo (hch1) (by exact (U6 _ _ _ _).trans (congrArg (fun a=>Hr x.b (Obj.cells a 126 (0,0)) d.SI) (V:_=(#[I4 x.q.kd,I4 x.q.tb,I4 x.q.cl,I4 x.q.lo,I4 x.q.hi,I4 x.q.bq,I4 x.q.ot,I4 x.tn,I4 x.base,.slice x.rq x.L.length x.rc,I4 x.id,.slice w3 (BQ x.q x.res cs).1.rows.length c3,I4 (BQ x.q x.res cs).1.val,.bool (BQ x.q x.res cs).1.fnd,I4 p]:Array Value)))) (by(simp;done)) (by exact BF _)) ?hk_5 (fun _ _ h=>h.elim) ?hl_5
    case hk_5=>
     rintro _ _ ⟨rfl,rfl⟩;refine ⟨AV,?_⟩;refine Ag<|Cj rfl results54 (by exact ⟨rfl,w3,c3,_,sa9,s3,(by rw [zK];exact hra9),D7 hrow3 h3m,hnd,rfl⟩)
    exact Ae
   exact Ae
  exact Ae
 refine Ao5 [true,true,true] [(9,(_,_)),(8,(_,_)),(4,(_,_))] V rfl (Al AW5 #[_,_,_]) ?hk_7 (fun _ _ h=>h.elim) ?hl_7
 case hk_7=>
  rintro _ _ ⟨bn,rfl,rfl⟩;refine ⟨Zk (Ez (by simp [*]) (Ez (by simp [*]) (AV))),?_⟩;refine Zz (l:=[10])<|Ao5 [false,false,false] [] V rfl (Zw [_,_,_] Y call55 Y V (J5 x.q hl.q p qa cap cs hC hcl hl.rw hl.wn hl.wv)) ?hk_8 Bp ?hl_8
  case hk_8=>
   rintro _ _ ⟨_,⟨rv3,s3,rfl,hrow3,rfl⟩,rfl⟩;refine ⟨AV,?_⟩;obtain ⟨w3,c3,rfl⟩:=hrow3.form;rw [hok9];refine An9 11 V (AP Y)<|An9 12 V (Bt Y V)<|An9 13 V (Bt Y V)<|An9 14 V (Bt Y V)<|Zz (l:=[16])<|Ao5 [] [] V rfl (Xw AU3 #[.slice w3 (BQ x.q x.res cs).1.rows.length c3,I4 (BQ x.q x.res cs).1.val,.bool (BQ x.q x.res cs).1.fnd]) ?hk_9 (fun _ _ h=>h.elim) ?hl_9
   case hk_9=>
    rintro _ _ ⟨rfl,rfl⟩;refine ⟨AV,?_⟩;refine An9 17 V (Aq Y)<|An9 18 V (Aq Y)<|Ag<|Zn [0,1,3,4,7,9] ?_;refine Zx<|Zq<|Zq<|Zg<|Zm Y<|Zv (Br Y)<|Z0<|Zx<|AR Y (fun hb2=>?_) (fun hb2=>?_)
    ·
     cases hb2
    refine AJ<|Zx ?_;have h3m:=Lp hrow3
    have hch1:(x.b,Obj.cells #[I4 x.q.kd,I4 x.q.tb,I4 x.q.cl,I4 x.q.lo,I4 x.q.hi,I4 x.q.bq,I4 x.q.ot,I4 x.tn,I4 x.base,.slice x.rq x.L.length x.rc,I4 x.id,.slice w3 (BQ x.q x.res cs).1.rows.length c3,I4 (BQ x.q x.res cs).1.val,.bool (BQ x.q x.res cs).1.fnd,I4 x.since] 126 (0,0))∈Hr x.b (.cells #[I4 x.q.kd,I4 x.q.tb,I4 x.q.cl,I4 x.q.lo,I4 x.q.hi,I4 x.q.bq,I4 x.q.ot,I4 x.tn,I4 x.base,.slice x.rq x.L.length x.rc,I4 x.id,.slice w3 (BQ x.q x.res cs).1.rows.length c3,I4 (BQ x.q x.res cs).1.val,.bool (BQ x.q x.res cs).1.fnd,I4 x.since] 126 (0,0)) d.SI:=Ou hch;refine C8 (s1:=s3) (s2:=d.MR) Wo Wo ?_;refine Az (n:=11) (0::0::0::0::8::5::37::101::255::511::1023::[]) 1152 Ao8 Ao8 V<|An9 0 V (AP Y)<|An9 1 V (AP Y)<|Ao4 2 V Wh (AA (cs:=#[_,_,_]) AV6 AU3 Y (by(simp;done)) (by exact BD V)) ?_;refine An9 3 V (AB (off:=0) AY1 V rfl AU1 Y)<|Ao0 4 V AU2 Y ?_;refine An9 5 rfl (Am Y rfl)<|An9 6 rfl (AB (off:=11) AX1 rfl rfl AU3 Y)<|Zz (l:=[7])<|Ao5 [true,false] [(4,(_,_))] rfl rfl (Nh AU3 Y Y Ap9 Wo (hch) (by exact congrArg (fun a=>Hr x.b (Obj.cells a 126 (0,0)) d.SI) (rfl:_=(#[I4 x.q.kd,I4 x.q.tb,I4 x.q.cl,I4 x.q.lo,I4 x.q.hi,I4 x.q.bq,I4 x.q.ot,I4 x.tn,I4 x.base,.slice x.rq x.L.length x.rc,I4 x.id,.slice w3 (BQ x.q x.res cs).1.rows.length c3,I4 (BQ x.q x.res cs).1.val,.bool (BQ x.q x.res cs).1.fnd,I4 x.since]:Array Value))) Ap3 (by(simp;done)) (by exact BF _)) ?hk_10 (fun _ _ h=>h.elim) ?hl_10
    case hk_10=>
     rintro _ _ ⟨rfl,rfl⟩;refine ⟨Zk (AV),?_⟩;refine An9 8 V (Am Y V)<|An9 9 V (AB (off:=14) AX1 V rfl AU1 Y)<|Zz (l:=[10])<|Ao5 [false] [] V rfl (GM AU1 Y Y V Wo (hch1) (by exact (U6 _ _ _ _).trans (congrArg (fun a=>Hr x.b (Obj.cells a 126 (0,0)) d.SI) (V:_=(#[I4 x.q.kd,I4 x.q.tb,I4 x.q.cl,I4 x.q.lo,I4 x.q.hi,I4 x.q.bq,I4 x.q.ot,I4 x.tn,I4 x.base,.slice x.rq x.L.length x.rc,I4 x.id,.slice w3 (BQ x.q x.res cs).1.rows.length c3,I4 (BQ x.q x.res cs).1.val,.bool (BQ x.q x.res cs).1.fnd,I4 p]:Array Value)))) (by(simp;done)) (by exact BF _)) ?hk_11 (fun _ _ h=>h.elim) ?hl_11
     case hk_11=>
      rintro _ _ ⟨rfl,rfl⟩;refine ⟨AV,?_⟩;refine Ag<|Cj rfl results54 (by exact ⟨rfl,w3,c3,_,sa9,s3,(by rw [zK];exact hra9),D7 hrow3 h3m,hnd,rfl⟩)
     exact Ae
    exact Ae
   exact Ae
  exact Ae
 exact Ae
set_option maxHeartbeats 1000000 in
theorem kS(h:d.okb)(hx:x∈d.its)(hl:x.live d.MR)(p:Int)(hC:Ct ME (.slice qa cs.length cap) cs)(hcl:cs.length<=1000)(hok9:(BQ x.q x.res cs).2.2=false)(hT:Row 9 tv (tl.map Value.string) st)(htl:tl.length<=1000000)(bt br bc:Nat):BR Tryz.prog 54 #[.string x.key,.pointer (some ⟨x.b,0,none⟩),I5 bt,I5 br,I5 bc] [[(bt,.cells #[tv] 45 (0,0))],[(br,.cells #[I4 p,.slice qa cs.length cap] 50 (0,0))],[(bc,.cells #[.pointer (some ⟨d.cp,0,none⟩)] 37 (0,0))],st,[(d.cp,.cells #[I4 d.pos,.slice d.wq d.win.length d.wc,.pointer (some ⟨d.z.r,0,none⟩),.pointer (some ⟨d.ip,0,none⟩),.map (some d.mi),.map (some d.mkb),I4 d.next] 120 (0,0))],d.sW,d.z.S,[(d.mb,.map d.esP d.ckP)],d.su,[(d.ip,.cells #[.map (some d.mq),d.lv] 186 (0,0))],[(d.mq,.map d.esQ d.ckQ)],d.ML,[(d.mi,.map d.esI d.ckI)],[(d.mkb,.map d.esK d.ckK)],d.SI,d.M,d.MR,ME] (fun v H'=>v=undef/\∃(d2:CZ) (tv':Value) (st':List A8),d2.okb/\d.like d2/\d2.next=d.next/\(d2.M=d.M/\d2.MR=d.MR)/\d2.SI=d.SI/\d2.its=(d.its.filter fun y=>y.key≠x.key)/\(∀e∈d2.PL,e∈d.PL)/\Row 9 tv' ((tl++[x.key]).map Value.string) st'/\H'=[[(bt,.cells #[tv'] 45 (0,0))],[(br,.cells #[I4 p,.slice qa cs.length cap] 50 (0,0))],[(bc,.cells #[.pointer (some ⟨d.cp,0,none⟩)] 37 (0,0))],st',[(d2.cp,.cells #[I4 d2.pos,.slice d2.wq d2.win.length d2.wc,.pointer (some ⟨d2.z.r,0,none⟩),.pointer (some ⟨d2.ip,0,none⟩),.map (some d2.mi),.map (some d2.mkb),I4 d2.next] 120 (0,0))],d2.sW,d2.z.S,[(d2.mb,.map d2.esP d2.ckP)],d2.su,[(d2.ip,.cells #[.map (some d2.mq),d2.lv] 186 (0,0))],[(d2.mq,.map d2.esQ d2.ckQ)],d2.ML,[(d2.mi,.map d2.esI d2.ckI)],[(d2.mkb,.map d2.esK d2.ckK)],d2.SI,d2.M,d2.MR,ME]):=by
 have hml:=mL;have hch:(x.b,Obj.cells #[I4 x.q.kd,I4 x.q.tb,I4 x.q.cl,I4 x.q.lo,I4 x.q.hi,I4 x.q.bq,I4 x.q.ot,I4 x.tn,I4 x.base,.slice x.rq x.L.length x.rc,I4 x.id,.slice x.wq x.res.rows.length x.wc,I4 x.res.val,.bool x.res.fnd,I4 x.since] 126 (0,0))∈d.SI:=h.its.sub x hx
 obtain ⟨gt,ct,rfl⟩:=hT.form;refine Se func54 ntmps54 [0,1,2,3,4] ?_;intro u R;refine Zq<|Zg<|Zl Ae3 Y ?_;refine Zm Y<|Ze (Af (vs:=[_]) (cs:=[_]) AV1 AY6 AY5 Y V rfl V rfl V) ?_;rintro _ _ ⟨gb,rfl,rfl⟩;refine Ze (EF (by_:=16) (news:=[_]) AV1 (V:Tryz.prog.info? 9=some Tryz.t9) V rfl V rfl Y hT Y Wo Wh Ap1 V Ap5 Ao9 (by(simp only [zH];omega)) (by(simp only [zH];omega))) ?_;rintro _ _ ⟨sa9,hra9,rfl⟩;obtain ⟨ga9,ca9,rfl⟩:=hra9.form;refine Xe (Zs Aa1 Y Y V) ?_;refine Z0<|Zx<|Zq<|Az (n:=19) (0::1::3::7::15::0::32::96::224::0::1023::2047::4095::4095::4095::0::40959::114687::262143::[]) 99328 Ao8 Ao8 V<|An9 0 V (AP Y)<|An9 1 V (Am Y V)<|An9 2 V (AB (off:=0) AX1 V rfl AY9 Y)<|An9 3 V (Ar (off:=0) AV7 V rfl AV8 Y)<|Cw (D':=31) 4 V rfl V (F6 Wo (hch)) (AA (cs:=#[_,_,_,_,_,_,_]) AX9 AV8 Y (by(simp;done)) (by exact (by apply AB8.1;rfl))) ?_;refine An9 5 V (AP Y)<|An9 6 V (Am Y V)<|An9 7 V (AB (off:=11) AX1 V rfl AU3 Y)<|Cw (D':=511) 8 V rfl V (F6 Wo (hch)) (AA (cs:=#[_,_,_]) AV6 AU3 Y (by(simp;done)) (by exact (by apply AB8.1;rfl))) ?_;refine Ao4 9 V Wh (AA (cs:=#[_,_]) Ad7 AX5 Y (by(simp;done)) (by exact BD V)) ?_;refine Zz (l:=[10,15])<|Ao5 [false,false,false] [] V rfl (Zw [_,_,_] Y call55 Y V (J5 x.q hl.q p qa cap cs hC hcl hl.rw hl.wn hl.wv)) ?hk_1 Bp ?hl_1
 case hk_1=>
  rintro _ _ ⟨_,⟨rv3,s3,rfl,hrow3,rfl⟩,rfl⟩;refine ⟨AV,?_⟩;obtain ⟨w3,c3,rfl⟩:=hrow3.form;rw [hok9];refine An9 11 V (AP Y)<|An9 12 V (Bt Y V)<|An9 13 V (Bt Y V)<|An9 14 V (Bt Y V)<|Zz (l:=[15])<|Ao5 [] [] V rfl (Al AW5 #[_,_,_]) ?hk_2 (fun _ _ h=>h.elim) ?hl_2
  case hk_2=>
   rintro _ _ ⟨bn,rfl,rfl⟩;refine ⟨AV,?_⟩;refine Yw 16 131071 V (Xw AU3 #[.slice w3 (BQ x.q x.res cs).1.rows.length c3,I4 (BQ x.q x.res cs).1.val,.bool (BQ x.q x.res cs).1.fnd]) ?_;rintro _ _ ⟨rfl,rfl⟩;refine An9 17 V (Aq Y)<|An9 18 V (Aq Y)<|Ag<|Zn [0,1,3,4,7,9] ?_;refine Zx<|Zq<|Zq<|Zg<|Zm Y<|Zv (Br Y)<|Z0<|Zx<|AR Y (fun hb2=>?_) (fun hb2=>?_)
   ·
    refine Zq<|Zg<|Zl Ae1 Y ?_;refine Zm Y<|Zc [_,_] Y call26 Y V (WE h hx) ?_;rintro _ _ ⟨_,⟨rfl,d2,hd1,hd2,hd3,hd4,hd5,_,hd6,hd7,rfl⟩,rfl⟩;refine Z0<|Zx<|AC<|Zt<|Cj rfl results54 (by exact ⟨rfl,d2,_,sa9,hd1,hd2,hd3,hd4,hd5,hd6,hd7,(by rw [zK];exact hra9),rfl⟩)
   cases hb2
  exact Ae
 refine Ao5 [true,true,true] [(9,(_,_)),(8,(_,_)),(4,(_,_))] V rfl (Al AW5 #[_,_,_]) ?hk_5 (fun _ _ h=>h.elim) ?hl_5
 case hk_5=>
  rintro _ _ ⟨bn,rfl,rfl⟩;refine ⟨Zk (Ez (by simp [*]) (Ez (by simp [*]) (AV))),?_⟩;refine Zz (l:=[10])<|Ao5 [false,false,false] [] V rfl (Zw [_,_,_] Y call55 Y V (J5 x.q hl.q p qa cap cs hC hcl hl.rw hl.wn hl.wv)) ?hk_6 Bp ?hl_6
  case hk_6=>
   rintro _ _ ⟨_,⟨rv3,s3,rfl,hrow3,rfl⟩,rfl⟩;refine ⟨AV,?_⟩;obtain ⟨w3,c3,rfl⟩:=hrow3.form;rw [hok9];refine An9 11 V (AP Y)<|An9 12 V (Bt Y V)<|An9 13 V (Bt Y V)<|An9 14 V (Bt Y V)<|Zz (l:=[16])<|Ao5 [] [] V rfl (Xw AU3 #[.slice w3 (BQ x.q x.res cs).1.rows.length c3,I4 (BQ x.q x.res cs).1.val,.bool (BQ x.q x.res cs).1.fnd]) ?hk_7 (fun _ _ h=>h.elim) ?hl_7
   case hk_7=>
    rintro _ _ ⟨rfl,rfl⟩;refine ⟨AV,?_⟩;refine An9 17 V (Aq Y)<|An9 18 V (Aq Y)<|Ag<|Zn [0,1,3,4,7,9] ?_;refine Zx<|Zq<|Zq<|Zg<|Zm Y<|Zv (Br Y)<|Z0<|Zx<|AR Y (fun hb2=>?_) (fun hb2=>?_)
    ·
     refine Zq<|Zg<|Zl Ae1 Y ?_;refine Zm Y<|Zc [_,_] Y call26 Y V (WE h hx) ?_;rintro _ _ ⟨_,⟨rfl,d2,hd1,hd2,hd3,hd4,hd5,_,hd6,hd7,rfl⟩,rfl⟩;refine Z0<|Zx<|AC<|Zt<|Cj rfl results54 (by exact ⟨rfl,d2,_,sa9,hd1,hd2,hd3,hd4,hd5,hd6,hd7,(by rw [zK];exact hra9),rfl⟩)
    cases hb2
   exact Ae
  exact Ae
 exact Ae
theorem Yd{P:Program}{f:FuncId}{args:Array Value}{A B rest:List A8}{Q:Value->List A8->Prop}(hp:s.Perm (A++(B++rest)))(h:BR P f args [A,B] (fun r H'=>∃s',Q r s'/\H'=[A,B,s'])):BR P f args [s] (fun r H'=>∃s',Q r s'/\H'=[s,s']):=fun u R w hs=>by
 have h1:Sat u ([A,B]++([rest]++R)) w:=hs.perm (by
  simp only [AF3,AD8,zL];have:=hp.append_right R.flatten
  simpa only [zM]using this)
 refine (h u ([rest]++R) w h1).mono ?_;rintro e w' (⟨v,H',rfl,⟨s',hq,rfl⟩,hsat⟩|⟨_,_,_,h,_⟩)
 · refine .inl ⟨v,_,rfl,⟨s',hq,rfl⟩,hsat.perm ?_⟩
   simp only [AF3,AD8,zL];have e1:(A++(B++(s'++(rest++R.flatten)))).Perm ((A++(B++rest))++(s'++R.flatten)):=by
    simp only [zM];refine AD2 A (AD2 B ?_);rw [<-zM,<-zM];exact AB7.append_right _
   exact e1.trans (hp.symm.append_right _)
 · exact h.elim
theorem vW{a b:A8}(hn:(s.map (·.1)).Nodup)(ha:a∈s)(hb:b∈s)(hab:a.1≠b.1):∃rest,s.Perm ([a]++([b]++rest)):=by
 obtain ⟨X,Y,rfl⟩:=AI8 ha;have hb2:b∈X++Y:=by
  rcases zJ.1 hb with h|h
  · exact zR _ h
  · rcases za.1 h with h|h
    · exact absurd (by rw [h]) hab
    · exact zZ _ h
 obtain ⟨X2,Y2,h2⟩:=AI8 hb2;refine ⟨X2++Y2,AF7.trans (List.Perm.cons a ?_)⟩;rw [h2];exact AF7
noncomputable def Ik(c:CZ)(k:ByteArray):Bool:=@decide (∃x∈c.its,x.key=k/\x.base<c.pos -64) (Classical.propDecidable _)
def ww(c:CZ)(pre:List ByteArray)(s:List A8):Prop:=∃d:CZ,d.okb/\d.cp=c.cp/\d.mi=c.mi/\d.pos=c.pos/\(∀y,y∈d.its↔y∈c.its/\y.key∉pre)/\(d.cp,Obj.cells #[I4 d.pos,.slice d.wq d.win.length d.wc,.pointer (some ⟨d.z.r,0,none⟩),.pointer (some ⟨d.ip,0,none⟩),.map (some d.mi),.map (some d.mkb),I4 d.next] 120 (0,0))∈s/\(d.mi,Obj.map d.esI d.ckI)∈s/\∀q∈d.SI,q∈s
def Z8(c:CZ)(p:List ByteArray):Prop:=∃zs:List ByteArray,zs.Perm (c.its.map ItM.key)/\∃post,zs.filter (Ik c)=p++post
def V7(c:CZ)(ys:List ByteArray):Prop:=∃zs:List ByteArray,zs.Perm (c.its.map ItM.key)/\ys=zs.filter (Ik c)
theorem Ox(hk:(c.its.map ItM.key).Nodup)(hx:x∈c.its):Ik c x.key=true↔x.base<c.pos -64:=by
 unfold Ik;rw [@decide_eq_true_eq _ (Classical.propDecidable _)];constructor
 · rintro ⟨y,hy,he,hb⟩
   rwa [G7 hk hy hx he]at hb
 · intro h;exact ⟨x,hx,rfl,h⟩
variable{α:Type}{i:Nat}
theorem YQ{l:List α}{f:α->Bool}{x:α}(h:l[i]?=some x):(l.take (i+1)).filter f=(l.take i).filter f++(if f x=true then [x]else [])/\∃post,l.filter f=(l.take i).filter f++(if f x=true then [x]else [])++post:=by
 have e:(l.take (i+1)).filter f=(l.take i).filter f++(if f x=true then [x]else []):=by
  rw [Bc h,AB3];congr 1;by_cases hf:f x=true
  · rw [Am7 hf,List.filter_cons_of_pos hf];rfl
  · rw [Am6 hf,AM1 hf];rfl
 refine ⟨e,(l.drop (i+1)).filter f,?_⟩;rw [<-e,<-AB3,AB4]
theorem ZQ{l:List ByteArray}(hn:l.Nodup){x:ByteArray}(h:l[i]?=some x)(f:ByteArray->Bool):x∉(l.take i).filter f:=fun hm=>by
 have h1:=(AA2.1 hm).1;have h2:l=l.take i++x::l.drop (i+1):=by
  obtain ⟨h3,h4⟩:=zF.1 h;rw [<-h4,<-AD0 h3,AB4]
 rw [h2,AA5]at hn;exact hn.2.2 x h1 x (zX ..) V
theorem qD(h:c.okb)(hn:(s.map (·.1)).Nodup)(h1:(c.cp,Obj.cells #[I4 c.pos,.slice c.wq c.win.length c.wc,.pointer (some ⟨c.z.r,0,none⟩),.pointer (some ⟨c.ip,0,none⟩),.map (some c.mi),.map (some c.mkb),I4 c.next] 120 (0,0))∈s)(h2:(c.mi,Obj.map c.esI c.ckI)∈s):BR Tryz.prog 19 #[.pointer (some ⟨c.cp,0,none⟩)] [s] (fun r H'=>∃s',(∃zs:List ByteArray,zs.Perm (c.its.map ItM.key)/\(zs.Pairwise fun x y=>x.data.toList<=y.data.toList)/\Row 9 r (zs.map Value.string) s')/\H'=[s,s']):=by
 have hne:c.cp≠c.mi:=fun he=>by
  have h4:=G7 hn h1 h2 he;injection h4 with _ h4
  cases h4
 obtain ⟨rest,hp⟩:=vW hn h1 h2 hne;refine Yd hp ((NW h).mono ?_);rintro r H' ⟨zs,s',h1,h2,h3,rfl⟩;exact ⟨s',⟨zs,h1,h2,h3⟩,V⟩
theorem ZX(c:CZ):BR Tryz.prog 57 #[.pointer (some ⟨c.cp,0,none⟩)] [] (fun r H'=>∃bc,r= .func (.func 115) #[] #[I5 bc]/\H'=[[(bc,.cells #[.pointer (some ⟨c.cp,0,none⟩)] 37 (0,0))]]):=by
 refine Se func57 ntmps57 [0] ?_;intro u R;refine Zq<|Zg<|Ze (Bx #[_]) ?_;rintro _ _ ⟨bc,rfl,rfl⟩;refine Za Y<|Z0<|Zx<|Zq<|Zg<|Zv (Bb (vs:=[]) (us:=[_]) Y Y)<|Za Y<|Z0<|Zx<|AC<|AL V results57 Y (by exact ⟨bc,V,V⟩)
set_option maxHeartbeats 1000000 in
theorem ZZ(h:c.okb)(bc:Nat):K4 Tryz.prog 115 #[I5 bc] [[(bc,.cells #[.pointer (some ⟨c.cp,0,none⟩)] 37 (0,0))]] (ww c) (fun x:ByteArray=>#[.string x]) (Z8 c) (V7 c):=by
 intro l J hA hy s hJ;obtain ⟨d0,hd0,hcp0,hmi0,hps0,hit0,hC0,hM0,hS0⟩:=hA _ _ hJ;have hit00:(d0.its.map ItM.key).Perm (c.its.map ItM.key):=(AC0 hd0.its.keys h.its.keys).2 fun a=>by
  simp only [zQ,hit0,AH2,not_false_eq_true,An8]
 have hle:=h.its.len;have hkn:=h.its.keys
 refine Se func115 ntmps115 [0,1] ?_;intro u R;refine Zq<|Fv (s:=s) Wo (fun hns=>?_);rw [<-hcp0];refine Zg<|Zl Ae1 Y ?_;refine Zc [_] Y call19 Y V (qD hd0 hns hC0 hM0) ?_;rintro _ _ ⟨_,⟨sk,⟨zs,hzp,hzs,hzr⟩,rfl⟩,rfl⟩;replace hzp:=hzp.trans hit00;have hzl:=hzp.length_eq
 rw [zH]at hzl;have hzn:zs.Nodup:=hzp.nodup_iff.2 hkn
 obtain ⟨pk,ck,rfl⟩:=hzr.form;simp only [zH];rw [zH]at hzr;refine Zv (Aa AV1 Y)<|Zm Y<|Z0<|Zx<|AO<|Zb [8,0,1,6,7] ?_;refine BI (e0:=[(8,_)]) (fun m e H=>∃(i:Nat) (s:List A8),m=zs.length -i/\(i<=zs.length/\J ((zs.take i).filter (Ik c)) s)/\e=[(8,I4 (i:Int))]/\H=[s]) (by exact ⟨0,s,V,⟨zT _,hJ⟩,V,V⟩) Wp ?_;rintro _ _ _ ⟨i,s,rfl,⟨hi,hJ⟩,rfl,rfl⟩;refine Zq<|Zg<|Zv (Au Y Y)<|Z0<|Zx<|Zq<|Aw Y (fun hlt=>?_) (fun hlt=>?_)
 ·
  obtain ⟨k,hk⟩:∃k,zs[i]?=some k:=⟨_,zD Ao7⟩;obtain ⟨x,hx,rfl⟩:=zQ.1 (hzp.mem_iff.1 (zP hk));obtain ⟨hft,post,hpost⟩:=YQ (f:=Ik c) hk;have hni:=ZQ hzn hk (Ik c)
  obtain ⟨d,hd,hcp,hmi,hps,hit,hC,hM,hS⟩:=hA _ _ hJ;have hxd:x∈d.its:=(hit x).2 ⟨hx,hni⟩
  have hg:=hd.its.get hxd;have hch:(x.b,Obj.cells #[I4 x.q.kd,I4 x.q.tb,I4 x.q.cl,I4 x.q.lo,I4 x.q.hi,I4 x.q.bq,I4 x.q.ot,I4 x.tn,I4 x.base,.slice x.rq x.L.length x.rc,I4 x.id,.slice x.wq x.res.rows.length x.wc,I4 x.res.val,.bool x.res.fnd,I4 x.since] 126 (0,0))∈s:=hS _ (hd.its.sub x hxd)
  have hsk:=Ox hkn hx;rw [show d.cp=d0.cp from hcp.trans hcp0.symm]at hC;have hxk:zs[i]?=some x.key:=hk
  rcases hzr with⟨_,h0,_⟩|⟨gk,capk,curk,zk,hvk,rfl,hlek,hcmk,hcsk,htkk,hfrk⟩
  · simp at h0;subst h0;simp at hlt
  injection hvk with hv1 hv2 hv3
  subst hv1 hv3;have hck:curk[i]?=some (.string x.key):=by
   have h:=congrArg (fun l=>l[i]?) htkk;simp only [AA7,zH,Am7 hlt,zY,hk]at h;simpa using h
  refine AJ<|Zx<|Zq<|AO<|Zq<|Zg<|Bq (Ba AV1 AY6 Y Y (by first|omega|(simp;omega)))<|Zl Af1 Y (hv:=by exact hck) ?_;refine Za Y<|Z0<|Zx<|Zq<|Az (n:=22) (0::1::3::7::0::31::63::127::255::511::0::1024::3072::7168::15360::32767::65535::131071::131071::524287::1048575::2097151::[]) 524288 Ao8 Ao8 V<|Ao0 0 V Ae1 Y ?_;refine An9 1 V (Am Y V)<|An9 2 V (AB (off:=4) AV2 V rfl Ad4 Y)<|Cw (D':=15) 3 V rfl V (F6 Wo (hC)) (BX Ae7 Y Ap1) ?_;refine An9 4 rfl (AP Y)<|Cw (D':=63) 5 rfl rfl rfl (F6 Wo (hM)) (DK (DT AW6 (D:=fun _=>True)) AZ2 Ab7 hd.its.im (fun _ _=>trivial) (trivial) (by rw [hg];first|done|rfl) Y Y) ?_;refine An9 6 V (Am Y V)<|An9 7 V (AB (off:=0) AX1 V rfl AY9 Y)<|An9 8 V (Ar (off:=8) AV7 V rfl AU1 Y)<|Cw (D':=1023) 9 V rfl V (F6 Wo (hch)) (BX AU2 Y Ap1) ?_;refine Ao0 10 V Ae1 Y ?_;refine An9 11 V (Am Y V)<|An9 12 V (AB (off:=0) AV2 V rfl AU1 Y)<|Cw (D':=16383) 13 V rfl V (F6 Wo (hC)) (BX AU2 Y Ap1) ?_
  (refine Ev (D':=32767) 14 (Hz Y Y (IntWalk.i64_in _ ?_)) ?_;(focus (have:=hd.pos;omega)))
  refine An9 15 V (Dq Y Y)<|An9 16 V (AP Y)<|EE (t:=28) Y (fun hg1=>?_) (fun hg1=>?_)
  ·
   rw [Am8 hg1];have hst:Ik c x.key=true:=hsk.2 (by rw [<-hps];exact hg1)
   rw [Am7 hst]at hpost;have hyk:=hy _ x.key s ⟨zs,hzp,post,hpost⟩ hJ
   refine Ao2 17 V (AP Y)<|Ao2 18 V (AP Y)<|Yw 19 1048575 V (Fz (vs:=[_]) Y Y (hyk) Wp) ?_;rintro _ _ ⟨_,⟨s',rfl,rfl,hJ'⟩,rfl⟩;refine Ao2 20 V (Br Y)<|An9 21 V (AZ Y Y)<|Ag<|Zn [0,1,6,7,8,33] ?_;refine Zx<|AR Y (fun hb=>?_) (fun hb=>?_)
   ·
    cases hb
   refine AJ<|A9<|Zx<|Zg<|Ya (n:=1) Y Y<|Zm Y<|Z0<|Zn [8,0,1,6,7] ?_;refine Ad (e':=[(8,_)]) (by exact ⟨i+1,s',rfl,⟨by omega,by rw [hft,Am7 hst];exact hJ'⟩,rfl,rfl⟩)
  rw [Am5 hg1];have hst:¬Ik c x.key=true:=fun h9=>hg1 (by rw [hps];exact hsk.1 h9)
  refine Ao1 17 V<|Ao1 18 V<|Ao1 19 V<|Ao1 20 V<|An9 21 V (AU Y Y)<|Ag<|Zn [0,1,6,7,8,33] ?_;refine Zx<|Dv Y<|AJ<|A9<|Zx<|Zg<|Ya (n:=1) Y Y<|Zm Y<|Z0<|Zn [8,0,1,6,7] ?_;refine Ad (e':=[(8,_)]) (by exact ⟨i+1,s,rfl,⟨by omega,by rw [hft,Am6 hst,zV];exact hJ⟩,rfl,rfl⟩)
 obtain rfl:i=zs.length:=by omega
 rw [AA4]at hJ;refine BG<|Zt<|Zt<|AX<|Cj V results115 (by exact ⟨_,s,⟨zs,hzp,V⟩,V,hJ⟩)
def ItM.core(x:ItM):ItM:={x with res:=Bw.none,wq:=none,wc:=0,since:=0}
variable{y:ItM}
theorem Hm(h:y.core=x.core):y.b=x.b/\y.id=x.id/\y.q=x.q/\y.tn=x.tn/\y.base=x.base/\y.rq=x.rq/\y.rc=x.rc/\y.L=x.L:=by
 obtain ⟨b,id,q,tn,base,rq,rc,L,res,wq,wc,since⟩:=x;obtain ⟨b',id',q',tn',base',rq',rc',L',res',wq',wc',since'⟩:=y;unfold ItM.core at h;simp only [ItM.mk.injEq]at h;exact ⟨h.1,h.2.1,h.2.2.1,h.2.2.2.1,h.2.2.2.2.1,h.2.2.2.2.2.1,h.2.2.2.2.2.2.1,h.2.2.2.2.2.2.2.1⟩
theorem Le(h:y.core=x.core):y.key=x.key:=by unfold ItM.key;rw [(Hm h).2.2.1]
theorem Uy(W:List α)(r:α){n:Nat}(h:n<=W.length):(W++[r]).drop n=W.drop n++[r]:=AI3 h
def Ic(W W':List BN)(r:BN):Prop:=(W'=W++[r]/\W.length<64)\/(W'=(W++[r]).drop 1/\W.length=64)
variable{W' W:List BN}{r:BN}
theorem fw{pos:Int}(hW:Ic W W' r)(hre:(pos -base).toNat<=W.length)(hb:base<=pos)(hs:pos+1 -64<=base):Cv (pos+1) base W'=Cv pos base W++[r]/\(pos+1 -base).toNat<=W'.length:=by
 have e:(pos+1 -base).toNat=(pos -base).toNat+1:=by omega
 unfold Cv;rcases hW with⟨rfl,hl⟩|⟨rfl,hl⟩
 · rw [zG,zU,e,show W.length+1 -((pos -base).toNat+1)=W.length -(pos -base).toNat by omega,Uy _ _ Ao7]
   exact ⟨V,by omega⟩
 · rw [zO,zG,zU,e,AL0,show 1+(W.length+1 -1 -((pos -base).toNat+1))=W.length -(pos -base).toNat by omega,Uy _ _ Ao7]
   exact ⟨V,by omega⟩
theorem Km{pos:Int}(h:pos<=base):Cv pos base W=[]:=by
 unfold Cv;rw [show(pos -base).toNat=0 by omega,AJ3,AN5]
def WZ(cs:List Chg)(x:ItM):Prop:=∃ch∈cs,CU x.q ch=true
theorem Qx(hok:∀c∈cs,c.ok):cs.any (DI q)=true↔∃ch∈cs,CU q ch=true:=by
 rw [AM2];constructor
 · rintro ⟨c,hc,h⟩
   unfold DI at h;rw [zy]at h;exact ⟨c,hc,h.2⟩
 · rintro ⟨c,hc,h⟩
   refine ⟨c,hc,?_⟩;unfold DI;rw [Am8 (hok c hc),h];rfl
theorem Z5:∀{cs:List Chg} {r:Bw},¬cs.any (DI q)=true->BQ q r cs=(r,false,true):=fun{cs r} h=>by
 have h1:∀{cs:List Chg},(∀c∈cs,DI q c=false)->Gp q r cs=some r:=fun{cs}=>by
  induction cs with
  |nil=>intro _;rfl
  |cons c cs ih=>
   intro h;have h2:Co q c r=(r,true):=by unfold Co;rw [h c (zX ..)];rfl
   unfold Gp;rw [h2];exact ih fun d hd=>h d (zW _ hd)
 have h3:∀c∈cs,DI q c=false:=fun c hc=>by
  cases h4:DI q c with
  |false=>rfl
  |true=>exact absurd (AM2.2 ⟨c,hc,h4⟩) h
 unfold BQ;rw [h1 h3];show(r,cs.any (DI q),true)=_
 rw [AS9]at h;rw [h]
structure yN(cs:List Chg)(p:Int)(ids:List Int)(MR:List A8)(x y:ItM):Prop where
 core:y.core=x.core
 how:(y=x/\¬(x.id∈ids/\x.base<p))\/((x.id∈ids/\x.base<p)/\(BQ x.q x.res cs).2.2=true/\y.res=(BQ x.q x.res cs).1/\y.since=p/\Dh MR (.slice y.wq y.res.rows.length y.wc) y.res.rows)
structure Gb(c d:CZ)(cs:List Chg)(p:Int)(W':List BN)(M1:List A8)(ids:List Int)(tl:List ByteArray):Prop where
 okb:d.okb
 cp:d.cp=c.cp
 pos:d.pos=p
 win:d.win=W'
 M:d.M=M1
 ns:d.ns=c.ns
 cap:d.z.cap=c.z.cap
 next:d.next=c.next
 PL:∀e∈d.PL,e∈c.PL
 MR:∀q∈c.MR,q∈d.MR
 i1:∀y∈d.its,∃x∈c.its,yN cs p ids d.MR x y
 i2:∀x∈c.its,(x.id∈ids->x.base<p->(BQ x.q x.res cs).2.2=true)->∃y∈d.its,y.core=x.core
 t1:∀k,k∈tl↔∃x∈c.its,x.key=k/\x.id∈ids/\x.base<p
 t2:tl.Nodup
theorem JQ(h:c.okb)(hx:x∈c.its)(hy:y∈c.its)(e:x.id=y.id):x=y:=by
 have hi:=h.its.idx.ids;rw [AF0]at hi;exact G7 hi hx hy e
variable{p:Int}{M1:List A8}{ids:List Int}
theorem Gb.next_it(h:Gb c d cs p W' M1 ids tl)(hc:c.okb)(hx:x∈c.its)(hn:x.id∉ids):x∈d.its:=by
 obtain ⟨y,hy,hyc⟩:=h.i2 x hx fun h1=>absurd h1 hn;obtain ⟨x',hx',hs⟩:=h.i1 y hy;have he:=JQ hc hx' hx (by rw [<-(Hm hs.core).2.1,(Hm hyc).2.1])
 subst he;rcases hs.how with⟨rfl,_⟩|⟨⟨h1,_⟩,_⟩
 · exact hy
 · exact absurd h1 hn
theorem qR(h:Gb c d cs p W' M1 ids tl)(hc:c.okb)(hx:x∈c.its)(hb:¬x.base<p):Gb c d cs p W' M1 (ids++[x.id]) tl:=by
 have hid:∀z∈c.its,z.base<p->(z.id∈ids++[x.id]↔z.id∈ids):=fun z hz hzb=>by
  rw [zJ,zI];refine ⟨fun h1=>h1.elim id fun h2=>?_,.inl⟩;rw [JQ hc hz hx h2]at hzb;exact absurd hzb hb
 refine ⟨h.okb,h.cp,h.pos,h.win,h.M,h.ns,h.cap,h.next,h.PL,h.MR,fun y hy=>?_,fun z hz hk=>h.i2 z hz fun h1 h2=>hk ((hid z hz h2).2 h1) h2,fun k=>?_,h.t2⟩
 · obtain ⟨z,hz,hs⟩:=h.i1 y hy
   refine ⟨z,hz,hs.core,?_⟩;rcases hs.how with⟨e,h1⟩|⟨h1,h2⟩
   · exact .inl ⟨e,fun h3=>h1 ⟨(hid z hz h3.2).1 h3.1,h3.2⟩⟩
   · exact .inr ⟨⟨(hid z hz h1.2).2 h1.1,h1.2⟩,h2⟩
 · rw [h.t1]
   constructor
   · rintro ⟨z,hz,a,b,e⟩;exact ⟨z,hz,a,(hid z hz e).2 b,e⟩
   · rintro ⟨z,hz,a,b,e⟩;exact ⟨z,hz,a,(hid z hz e).1 b,e⟩
theorem qQ(hc:c.okb)(t1:∀k,k∈tl↔∃x∈c.its,x.key=k/\x.id∈ids/\x.base<p)(t2:tl.Nodup)(hx:x∈c.its)(hb:x.base<p)(hn:x.id∉ids):(∀k,k∈tl++[x.key]↔∃y∈c.its,y.key=k/\y.id∈ids++[x.id]/\y.base<p)/\(tl++[x.key]).Nodup:=by
 constructor
 · intro k
   rw [zJ,zI,t1];constructor
   · rintro (⟨y,hy,a,b,e⟩|rfl)
     · exact ⟨y,hy,a,zR _ b,e⟩
     · exact ⟨x,hx,rfl,by simp,hb⟩
   · rintro ⟨y,hy,rfl,b,e⟩
     rcases zJ.1 b with b|b
     · exact .inl ⟨y,hy,rfl,b,e⟩
     · rw [JQ hc hy hx (zI.1 b)];exact .inr rfl
 · rw [AA5]
   refine ⟨t2,by simp,fun a ha b hb2=>?_⟩;obtain rfl:=zI.1 hb2;intro he;obtain ⟨y,hy,h1,h2,_⟩:=(t1 a).1 ha;rw [G7 hc.its.keys hy hx (h1.trans he)]at h2;exact hn h2
theorem uD{next:Int}{esQ:Array MapEntry}{ckQ:Nat}{lmQ:List (Int×Value)}{lv:Value}{ML:List A8}{esI:Array MapEntry}{ckI:Nat}{lmI:List (ByteArray×Value)}{esK:Array MapEntry}{ckK:Nat}{lmK:List (Int×Value)}{SI:List A8}(h:Fy its next esQ ckQ lmQ lv ML esI ckI lmI esK ckK lmK SI)(hn:(SI.map (·.1)).Nodup)(hx:x∈its)(p:Int)(cs:List Chg)(wq:Option Addr)(wc:Nat):
 Fy (its.map fun y=>if y.id=x.id then x.upd p cs wq wc else y) next esQ ckQ lmQ lv ML esI ckI lmI esK ckK lmK (Hr x.b (x.upd p cs wq wc).obj SI):=by
 have hid:∀y∈its,y.id=x.id->y=x:=fun y hy e=>by
  have hi:=h.idx.ids;rw [AF0]at hi;exact G7 hi hy hx e
 have hk:∀y∈its,(if y.id=x.id then x.upd p cs wq wc else y).key=y.key/\(if y.id=x.id then x.upd p cs wq wc else y).iq=y.iq/\(if y.id=x.id then x.upd p cs wq wc else y).b=y.b/\(if y.id=x.id then x.upd p cs wq wc else y).id=y.id/\(if y.id=x.id then x.upd p cs wq wc else y).q=y.q:=fun y hy=>by
  by_cases e:y.id=x.id
  · rw [hid y hy e,Am7 rfl];exact ⟨rfl,rfl,rfl,rfl,rfl⟩
  · rw [Am6 e];exact ⟨rfl,rfl,rfl,rfl,rfl⟩
 have e1:((its.map fun y=>if y.id=x.id then x.upd p cs wq wc else y).map ItM.iq)=its.map ItM.iq:=by
  rw [AF0];exact AG4 fun y hy=>(hk y hy).2.1
 have e2:((its.map fun y=>if y.id=x.id then x.upd p cs wq wc else y).map ItM.key)=its.map ItM.key:=by
  rw [AF0];exact AG4 fun y hy=>(hk y hy).1
 refine ⟨by rw [e1];exact h.idx,by rw [e1];exact h.ist,h.im,fun q=>?_,h.km,fun q=>?_,by rw [e2];exact h.keys,fun y hy=>?_,h.nx,by rw [zH];exact h.len,fun y hy=>?_,fun y hy=>?_⟩
 · rw [h.imem]
   constructor
   · rintro ⟨y,hy,rfl⟩;exact ⟨_,zS hy,by rw [(hk y hy).1,(hk y hy).2.2.1]⟩
   · rintro ⟨z,hz,rfl⟩
     obtain ⟨y,hy,rfl⟩:=zQ.1 hz;exact ⟨y,hy,by rw [(hk y hy).1,(hk y hy).2.2.1]⟩
 · rw [h.kmem]
   constructor
   · rintro ⟨y,hy,rfl⟩;exact ⟨_,zS hy,by rw [(hk y hy).1,(hk y hy).2.2.2.1]⟩
   · rintro ⟨z,hz,rfl⟩
     obtain ⟨y,hy,rfl⟩:=zQ.1 hz;exact ⟨y,hy,by rw [(hk y hy).1,(hk y hy).2.2.2.1]⟩
 · obtain ⟨z,hz,rfl⟩:=zQ.1 hy
   rw [(hk z hz).2.2.2.1];exact h.ids z hz
 · obtain ⟨z,hz,rfl⟩:=zQ.1 hy
   rw [(hk z hz).2.2.2.2];exact h.q z hz
 · obtain ⟨z,hz,rfl⟩:=zQ.1 hy
   by_cases e:z.id=x.id
   · simp only [Am7 e]
     exact Ou (h.sub x hx)
   · simp only [Am6 e]
     refine zQ.2 ⟨z.ch,h.sub z hz,Am6 fun e2=>?_⟩;have h1:=G7 hn (h.sub z hz) (h.sub x hx) e2
     unfold ItM.ch ItM.obj at h1;simp only [AQ4,Obj.cells.injEq,AT6,AR1,Value.int.injEq,An7,An8]at h1;exact e (by simp_all)
theorem ug(h:Gb c d cs p W' M1 ids tl)(hc:c.okb)(hn:(d.SI.map (·.1)).Nodup)(hx:x∈c.its)(hb:x.base<p)(hni:x.id∉ids)(hok:(BQ x.q x.res cs).2.2=true)(hr:Dh s (.slice wq (BQ x.q x.res cs).1.rows.length wc) (BQ x.q x.res cs).1.rows):
 Gb c {d with SI:=Hr x.b (x.upd p cs wq wc).obj d.SI,MR:=s++d.MR,its:=d.its.map fun y=>if y.id=x.id then x.upd p cs wq wc else y} cs p W' M1 (ids++[x.id]) (tl++[x.key]):=by
 have hxd:=h.next_it hc hx hni;have hits:=uD h.okb.its hn hxd p cs wq wc
 have hcu:(x.upd p cs wq wc).core=x.core:=rfl;obtain ⟨ht1,ht2⟩:=qQ hc h.t1 h.t2 hx hb hni;have e2:((d.its.map fun y=>if y.id=x.id then x.upd p cs wq wc else y).map ItM.key)=d.its.map ItM.key:=by
  rw [AF0];refine AG4 fun y hy=>?_;show(if y.id=x.id then x.upd p cs wq wc else y).key=y.key
  split
  · rename_i e;rw [JQ h.okb hy hxd e];rfl
  · rfl
 refine ⟨⟨h.okb.pos,h.okb.win,h.okb.wl,h.okb.wp,h.okb.pool,fun k=>by rw [e2];exact h.okb.pk k,hits,fun y hy=>?_⟩,h.cp,h.pos,h.win,h.M,h.ns,h.cap,h.next,h.PL,fun q hq=>zZ _ (h.MR q hq),fun y hy=>?_,fun z hz hk=>?_,ht1,ht2⟩
 · obtain ⟨z,hz,rfl⟩:=zQ.1 hy
   split
   · rename_i e;rw [<-JQ h.okb hz hxd e];exact h.okb.tns z hz
   · exact h.okb.tns z hz
 · obtain ⟨z,hz,rfl⟩:=zQ.1 hy
   by_cases e:z.id=x.id
   · rw [Am7 e]
     exact ⟨x,hx,hcu,.inr ⟨⟨by simp,hb⟩,hok,V,V,hr.mono fun q hq=>zR _ hq⟩⟩
   · rw [Am6 e]
     obtain ⟨w,hw,hs⟩:=h.i1 z hz;have hwx:w.id≠x.id:=fun h1=>e (by rw [(Hm hs.core).2.1,h1])
     refine ⟨w,hw,hs.core,?_⟩;have hm:w.id∈ids++[x.id]↔w.id∈ids:=by rw [zJ,zI];exact ⟨fun h1=>h1.elim id fun h2=>absurd h2 hwx,.inl⟩
     rcases hs.how with⟨a,b⟩|⟨a,b,e1,e3,e4⟩
     · exact .inl ⟨a,fun h3=>b ⟨hm.1 h3.1,h3.2⟩⟩
     · exact .inr ⟨⟨hm.2 a.1,a.2⟩,b,e1,e3,e4.mono fun q hq=>zZ _ hq⟩
 · by_cases e:z.id=x.id
   · obtain rfl:=JQ hc hz hx e
     exact ⟨_,zQ.2 ⟨z,hxd,Am7 V⟩,V⟩
   · obtain ⟨y,hy,hyc⟩:=h.i2 z hz fun h1 h2=>hk (zR _ h1) h2
     exact ⟨y,zQ.2 ⟨y,hy,Am6 (by rw [(Hm hyc).2.1];exact e)⟩,hyc⟩
variable{d2:CZ}
theorem uh(h:Gb c d cs p W' M1 ids tl)(hc:c.okb)(hx:x∈c.its)(hb:x.base<p)(hni:x.id∉ids)(hok:(BQ x.q x.res cs).2.2=false)
 (h1:d2.okb)(h2:d.like d2)(h3:d2.next=d.next)(h4:d2.M=d.M/\d2.MR=d.MR)(h6:d2.its=d.its.filter fun y=>y.key≠x.key)(h7:∀e∈d2.PL,e∈d.PL):Gb c d2 cs p W' M1 (ids++[x.id]) (tl++[x.key]):=by
 obtain ⟨ht1,ht2⟩:=qQ hc h.t1 h.t2 hx hb hni;have hm:∀y,y∈d2.its↔y∈d.its/\y.key≠x.key:=fun y=>by rw [h6,AA2];simp
 refine ⟨h1,h2.cp.trans h.cp,h2.pos.trans h.pos,h2.win.trans h.win,h4.1.trans h.M,h2.ns.trans h.ns,h2.cap.trans h.cap,h3.trans h.next,fun e he=>h.PL e (h7 e he),fun q hq=>by rw [h4.2];exact h.MR q hq,fun y hy=>?_,fun z hz hk=>?_,ht1,ht2⟩
 · obtain ⟨hy1,hy2⟩:=(hm y).1 hy
   obtain ⟨w,hw,hs⟩:=h.i1 y hy1;have hwx:w.id≠x.id:=fun e=>hy2 (by rw [Le hs.core,JQ hc hw hx e])
   refine ⟨w,hw,hs.core,?_⟩;have hm:w.id∈ids++[x.id]↔w.id∈ids:=by rw [zJ,zI];exact ⟨fun h1=>h1.elim id fun h2=>absurd h2 hwx,.inl⟩
   rcases hs.how with⟨a,b⟩|⟨a,b,e1,e3,e4⟩
   · exact .inl ⟨a,fun h3=>b ⟨hm.1 h3.1,h3.2⟩⟩
   · exact .inr ⟨⟨hm.2 a.1,a.2⟩,b,e1,e3,by rw [h4.2];exact e4⟩
 · by_cases e:z.id=x.id
   · obtain rfl:=JQ hc hz hx e
     rw [hk Ap0 hb]at hok;cases hok
   · obtain ⟨y,hy,hyc⟩:=h.i2 z hz fun h1 h2=>hk (zR _ h1) h2
     refine ⟨y,(hm y).2 ⟨hy,fun h9=>e ?_⟩,hyc⟩;rw [Le hyc]at h9;rw [G7 hc.its.keys hz hx h9]
theorem ui(h:Gb c d r.cs r.p W' M1 ids tl)(hc:c.ok)(hr:Eo r.p r.cs)(hp:r.p=c.pos+1){r':BN}(hrr:r'.pc=r.pc)(hW:Ic c.win W' r')(hM:∀q∈c.M,q∈d.M)(hids:∀x∈c.its,x.id∈ids↔WZ r.cs x)(hy:y∈d.its)(hst:r.p -64<=y.base):y.ok d.M d.MR r.p W':=by
 obtain ⟨x,hx,hs⟩:=h.i1 y hy;have hxo:=hc.all x hx
 obtain ⟨c1,c2,c3,c4,c5,c6,c7,c8⟩:=Hm hs.core;have hcok:∀ch∈r.cs,ch.ok:=fun ch hch=>by
  obtain ⟨i,hi⟩:=AA1 hch;exact hr.all i ch hi
 have hpc1:r'.p=r.p:=congrArg Prod.fst hrr;have hpc2:r'.cs=r.cs:=congrArg Prod.snd hrr
 have hrow:Dh d.MR (.slice y.wq y.res.rows.length y.wc) y.res.rows:=by
  rcases hs.how with⟨rfl,_⟩|⟨_,_,_,_,h5⟩
  · exact hxo.rw.mono h.MR
  · exact h5
 obtain ⟨r0,hr0,hrun⟩:=hxo.run;by_cases hb:x.base<r.p
 · obtain ⟨hwa,hre⟩:=fw hW hxo.reach Ao7 Ao7
   rw [<-hp]at hwa hre;refine ⟨by rw [c3];exact hxo.q,by rw [c5];exact hxo.base,by rw [c4];exact hxo.tn,by rw [c6,c7,c8];exact hxo.rp.mono hM,by rw [c8];exact hxo.rl,by rw [c8];exact hxo.fit,hrow,by rw [c5];exact hre,r0,by rw [c3,c8];exact hr0,?_⟩;rw [c3,c5,hwa,O4,hrun,AC4];have hl:=Kn hxo.reach
   have hpp:=hc.pos;have hbb:=hxo.base
   unfold FX FX;rw [hpc1,hpc2];rcases hs.how with⟨rfl,hno⟩|⟨⟨hin,_⟩,hok,e1,e2,_⟩
   · have hq:¬r.cs.any (DI y.q)=true:=fun h9=>hno ⟨(hids y hx).2 ((Qx hcok).1 h9),hb⟩
     rw [Z5 hq,Am7 ⟨rfl,by rw [hl];omega,by rw [hl];omega⟩];rfl
   · have hq:r.cs.any (DI x.q)=true:=(Qx hcok).2 ((hids x hx).1 hin)
     rw [Am7 ⟨hok,by rw [hl];omega,by rw [hl];omega⟩,(Lg hok).2,Am7 hq,e1,e2]
 · have hyx:y=x:=by
    rcases hs.how with⟨e,_⟩|⟨⟨_,h9⟩,_⟩
    · exact e
    · exact absurd h9 hb
   subst hyx;rw [Km Ao7]at hrun;exact ⟨hxo.q,hxo.base,hxo.tn,hxo.rp.mono hM,hxo.rl,hxo.fit,hrow,by omega,r0,hr0,by rw [Km Ao7];exact hrun⟩
theorem SC{α:Type} [DecidableEq α]:∀{a b:List α},a.Nodup->(∀x∈a,x∈b)->a.length<=b.length
 |[],_,_,_=>zT _
 |x::a,b,hn,hs=>by
  obtain ⟨hx,hn⟩:=AB9.1 hn;have h2:=SC (a:=a) (b:=b.erase x) hn fun y hy=>by
   have hne:y≠x:=fun e=>hx (e▸hy);exact (List.mem_erase_of_ne hne).2 (hs y (zW _ hy))
  have h3:=AO2 (hs x (zX ..));have h4:=List.length_pos_of_mem (hs x (zX ..))
  rw [ze];omega
theorem ky(h:c.okb)(hW:Ic c.win W r)(hp:r.p=c.pos+1)(hR:Eo r.p r.cs)(hM:∀q∈c.M,q∈M1)(hC:Ct M1 (.slice r.q r.cs.length r.cap) r.cs):W.length<=64/\∀(i:Nat) (r':BN),W[i]?=some r'->r'.p=r.p -(W.length:Int)+1+(i:Int)/\Ct M1 (.slice r'.q r'.cs.length r'.cap) r'.cs/\Eo r'.p r'.cs:=by
 have hall:∀(i:Nat) (r':BN),(c.win++[r])[i]?=some r'->r'.p=c.pos -(c.win.length:Int)+1+(i:Int)/\Ct M1 (.slice r'.q r'.cs.length r'.cap) r'.cs/\Eo r'.p r'.cs:=fun i r' hr'=>by
  rcases AB1 i c.win.length with h1|h1
  · rw [AE6 h1]at hr'
    exact VH h hM i r' hr'
  · rw [AC1 h1]at hr'
    have h2:i -c.win.length=0:=by
     have:=(zF.1 hr').1;simp at this;omega
    rw [h2]at hr';have h3:r=r':=by simpa using hr'
    subst h3;exact ⟨by omega,hC,hR⟩
 have hl1:(c.win++[r]).length=c.win.length+1:=by rw [zG];rfl
 rcases hW with⟨rfl,hl⟩|⟨rfl,hl⟩
 · refine ⟨by omega,fun i r' hr'=>?_⟩
   obtain ⟨a,b,e⟩:=hall i r' hr';exact ⟨by rw [hl1];omega,b,e⟩
 · refine ⟨by rw [zO];omega,fun i r' hr'=>?_⟩
   rw [AE1]at hr';obtain ⟨a,b,e⟩:=hall (1+i) r' hr';exact ⟨by rw [zO,hl1];omega,b,e⟩
theorem qV(h:c.okb){sW:List A8}(hW:Ic c.win W r)(hrW:BZ 2 50 (.slice wq W.length wc) W.length (DZ W) sW)(hp:r.p=c.pos+1)(hR:Eo r.p r.cs)(hM:∀q∈c.M,q∈M1)(hC:Ct M1 (.slice r.q r.cs.length r.cap) r.cs){lv2:Value}{ML2:List A8}(hst:VC (c.its.map ItM.iq) lv2 ML2):
 Gb c {c with pos:=r.p,wq:=wq,wc:=wc,win:=W,sW:=sW,lv:=lv2,ML:=ML2,M:=M1} r.cs r.p W M1 [] []:=by
 have hw:=ky h hW hp hR hM hC;have hpb:=hR.pos
 exact ⟨⟨⟨by show 0<=r.p;omega,by show r.p<=10000;omega⟩,hrW,hw.1,hw.2,h.pool,h.pk,{h.its with ist:=hst},h.tns⟩,V,V,V,V,V,V,V,fun e he=>he,fun q hq=>hq,fun y hy=>⟨y,hy,V,.inl ⟨V,fun h=>absurd h.1 Ap0⟩⟩,fun x hx _=>⟨x,hx,V⟩,fun k=>by simp,AR9⟩
structure Ho(c d:CZ)(p:Int)(cs:List Chg)(q2:Option Addr)(cap2:Nat)(zs:List ByteArray):Prop where
 ok:d.ok
 cp:d.cp=c.cp
 pos:d.pos=p
 win:Ic c.win d.win ⟨p,q2,cap2,cs⟩
 ns:d.ns=c.ns
 cap:d.z.cap=c.z.cap
 next:d.next=c.next
 PL:∀e∈d.PL,e∈c.PL
 i1:∀y∈d.its,p -64<=y.base/\∃x∈c.its,y.core=x.core/\((¬(WZ cs x/\x.base<p)/\y.res=x.res/\y.since=x.since)\/((WZ cs x/\x.base<p)/\(BQ x.q x.res cs).2.2=true/\y.since=p))
 i2:∀x∈c.its,p -64<=x.base->(WZ cs x->x.base<p->(BQ x.q x.res cs).2.2=true)->∃y∈d.its,y.core=x.core
 z1:∀k,k∈zs↔∃x∈c.its,x.key=k/\WZ cs x/\x.base<p
 z2:zs.Nodup
 z3:zs.Pairwise fun x y=>x.data.toList<=y.data.toList
theorem uJ(hn:((its.map ItM.iq).map (·.1)).Nodup){zi:List Int}(h:∀i,i∈zi↔J9 (its.map ItM.iq) cs i)(hx:x∈its):x.id∈zi↔WZ cs x:=by
 rw [h];constructor
 · rintro ⟨y,hy,he,hc⟩
   obtain ⟨w,hw,rfl⟩:=zQ.1 hy;rw [AF0]at hn;have:=G7 hn hw hx he
   subst this;exact hc
 · intro hc
   exact ⟨x.iq,zS hx,V,hc⟩
structure J6(d d2:CZ)(pre:List ByteArray):Prop where
 okb:d2.okb
 like:d.like d2
 next:d2.next=d.next
 M:d2.M=d.M/\d2.MR=d.MR
 mi:d2.mi=d.mi
 PL:∀e∈d2.PL,e∈d.PL
 its:∀y,y∈d2.its↔y∈d.its/\y.key∉pre
theorem R6(h:d.okb):J6 d d []:=⟨h,⟨rfl,rfl,rfl,rfl,rfl⟩,rfl,⟨rfl,rfl⟩,rfl,fun e he=>he,fun y=>by simp⟩
theorem ZY{pre:List ByteArray}{k:ByteArray}(h:J6 d d2 pre)(hd:d.okb)(ha:Z8 d (pre++[k])):∃x∈d2.its,x.key=k:=by
 obtain ⟨zs,hp,post,he⟩:=ha;have hn:(zs.filter (Ik d)).Nodup:=(hp.nodup_iff.2 hd.its.keys).sublist AF5
 have hk:k∈zs:=(AA2.1 (by rw [he];simp:k∈zs.filter (Ik d))).1;obtain ⟨x,hx,rfl⟩:=zQ.1 (hp.mem_iff.1 hk);refine ⟨x,(h.its x).2 ⟨hx,fun h9=>?_⟩,V⟩;rw [he,zM,AA5]at hn;exact hn.2.2 _ h9 _ Ap0 V
theorem R5{d3:CZ}{pre:List ByteArray}(h:J6 d d2 pre)(h1:d3.okb)(h2:d2.like d3)(h3:d3.next=d2.next)(h4:d3.M=d2.M/\d3.MR=d2.MR)(h5:d3.mi=d2.mi)(h6:d3.its=d2.its.filter fun y=>y.key≠x.key)(h7:∀e∈d3.PL,e∈d2.PL):J6 d d3 (pre++[x.key]):=by
 refine ⟨h1,h.like.trans h2,h3.trans h.next,⟨h4.1.trans h.M.1,h4.2.trans h.M.2⟩,h5.trans h.mi,fun e he=>h.PL e (h7 e he),fun y=>?_⟩;rw [h6,AA2,h.its,zJ,zI];simp only [Am9,ne_eq,not_or];exact ⟨fun⟨⟨a,b⟩,e⟩=>⟨a,b,e⟩,fun⟨a,b,e⟩=>⟨⟨a,b⟩,e⟩⟩
theorem qU{q2:Option Addr}{cap2:Nat}{zi:List Int}{zs ys:List ByteArray}(hc:c.ok)(hR:Eo p cs)(hp:p=c.pos+1)(hW:Ic c.win W ⟨p,q2,cap2,cs⟩)(h:Gb c d cs p W M1 zi tl)(hM:∀q∈c.M,q∈M1)(hzi:∀i,i∈zi↔J9 (c.its.map ItM.iq) cs i)(hS:J6 d d2 ys)(hfl:V7 d ys)(hz:zs.Perm tl)(hzs:zs.Pairwise fun x y=>x.data.toList<=y.data.toList):Ho c d2 p cs q2 cap2 zs:=by
 have hids:∀x∈c.its,x.id∈zi↔WZ cs x:=fun x hx=>uJ hc.its.idx.ids hzi hx;have hkeep:∀y,y∈d2.its↔y∈d.its/\p -64<=y.base:=fun y=>by
  rw [hS.its];constructor
  · rintro ⟨hy,hn⟩
    refine ⟨hy,AF6 fun h9=>hn ?_⟩;obtain ⟨ks,hks,rfl⟩:=hfl;refine AA2.2 ⟨hks.mem_iff.2 (zS hy),(Ox h.okb.its.keys hy).2 ?_⟩;rw [h.pos];omega
  · rintro ⟨hy,hb⟩
    refine ⟨hy,fun h9=>?_⟩;obtain ⟨ks,hks,rfl⟩:=hfl;have:=(Ox h.okb.its.keys hy).1 (AA2.1 h9).2
    rw [h.pos]at this;omega
 have hpos:d2.pos=p:=hS.like.pos.trans h.pos;have hwin:d2.win=W:=hS.like.win.trans h.win
 refine ⟨⟨hS.okb,fun y hy=>?_⟩,hS.like.cp.trans h.cp,hpos,by rw [hwin];exact hW,hS.like.ns.trans h.ns,hS.like.cap.trans h.cap,hS.next.trans h.next,fun e he=>h.PL e (hS.PL e he),fun y hy=>?_,fun x hx hb hk=>?_,fun k=>?_,hz.nodup_iff.2 h.t2,hzs⟩
 · obtain ⟨hy1,hy2⟩:=(hkeep y).1 hy
   rw [hpos,hwin,hS.M.1,hS.M.2];exact ui (r:=⟨p,q2,cap2,cs⟩) h hc hR hp rfl hW (fun q hq=>by rw [h.M];exact hM q hq) hids hy1 hy2
 · obtain ⟨hy1,hy2⟩:=(hkeep y).1 hy
   obtain ⟨x,hx,hs⟩:=h.i1 y hy1;refine ⟨hy2,x,hx,hs.core,?_⟩;rcases hs.how with⟨rfl,hno⟩|⟨⟨hin,hb⟩,hok,_,hsi,_⟩
   · exact .inl ⟨fun h9=>hno ⟨(hids y hx).2 h9.1,h9.2⟩,rfl,rfl⟩
   · exact .inr ⟨⟨(hids x hx).1 hin,hb⟩,hok,hsi⟩
 · obtain ⟨y,hy,hyc⟩:=h.i2 x hx fun h1 h2=>hk ((hids x hx).1 h1) h2
   exact ⟨y,(hkeep y).2 ⟨hy,by rw [(Hm hyc).2.2.2.2.1];exact hb⟩,hyc⟩
 · rw [hz.mem_iff,h.t1]
   constructor
   · rintro ⟨x,hx,a,b,e⟩;exact ⟨x,hx,a,(hids x hx).1 b,e⟩
   · rintro ⟨x,hx,a,b,e⟩;exact ⟨x,hx,a,(hids x hx).2 b,e⟩
theorem dX(h:Gb c d cs p W' M1 ids tl)(hc:c.ok)(hC:Ct ME (.slice qa cs.length cap) cs)(hcl:cs.length<=1000)(hx:x∈c.its)(hb:x.base<p)(hni:x.id∉ids)(hT:Row 9 tv (tl.map Value.string) st)(htl:tl.length<=1000000)(bt br bc:Nat):
 BR Tryz.prog 54 #[.string x.key,.pointer (some ⟨x.b,0,none⟩),I5 bt,I5 br,I5 bc] [[(bt,.cells #[tv] 45 (0,0))],[(br,.cells #[I4 p,.slice qa cs.length cap] 50 (0,0))],[(bc,.cells #[.pointer (some ⟨c.cp,0,none⟩)] 37 (0,0))],st,[(c.cp,.cells #[I4 d.pos,.slice d.wq d.win.length d.wc,.pointer (some ⟨d.z.r,0,none⟩),.pointer (some ⟨d.ip,0,none⟩),.map (some d.mi),.map (some d.mkb),I4 d.next] 120 (0,0))],d.sW,d.z.S,[(d.mb,.map d.esP d.ckP)],d.su,[(d.ip,.cells #[.map (some d.mq),d.lv] 186 (0,0))],[(d.mq,.map d.esQ d.ckQ)],d.ML,[(d.mi,.map d.esI d.ckI)],[(d.mkb,.map d.esK d.ckK)],d.SI,d.M,d.MR,ME] (fun v H'=>v=undef/\∃(d2:CZ) (tv':Value) (st':List A8),Gb c d2 cs p W' M1 (ids++[x.id]) (tl++[x.key])/\Row 9 tv' ((tl++[x.key]).map Value.string) st'/\H'=[[(bt,.cells #[tv'] 45 (0,0))],[(br,.cells #[I4 p,.slice qa cs.length cap] 50 (0,0))],[(bc,.cells #[.pointer (some ⟨c.cp,0,none⟩)] 37 (0,0))],st',[(c.cp,.cells #[I4 d2.pos,.slice d2.wq d2.win.length d2.wc,.pointer (some ⟨d2.z.r,0,none⟩),.pointer (some ⟨d2.ip,0,none⟩),.map (some d2.mi),.map (some d2.mkb),I4 d2.next] 120 (0,0))],d2.sW,d2.z.S,[(d2.mb,.map d2.esP d2.ckP)],d2.su,[(d2.ip,.cells #[.map (some d2.mq),d2.lv] 186 (0,0))],[(d2.mq,.map d2.esQ d2.ckQ)],d2.ML,[(d2.mi,.map d2.esI d2.ckI)],[(d2.mkb,.map d2.esK d2.ckK)],d2.SI,d2.M,d2.MR,ME]):=by
 rw [<-h.cp];have hxd:=h.next_it hc.tookb hx hni
 have hl:x.live d.MR:=by
  have h1:=(hc.all x hx).live hc.tookb;exact ⟨h1.q,h1.rw.mono h.MR,h1.wn,h1.wv⟩
 cases hok:(BQ x.q x.res cs).2.2 with
 |true=>
  refine (kR h.okb hxd hl p hC hcl hok hT htl bt br bc).mono ?_;rintro v H' ⟨h1,wq,wc,tv',st',s,h2,h3,h4,rfl⟩;exact ⟨h1,_,tv',st',ug h hc.tookb h4 hx hb hni hok h3,h2,V⟩
 |false=>
  refine (kS h.okb hxd hl p hC hcl hok hT htl bt br bc).mono ?_;rintro v H' ⟨h1,d2,tv',st',h2,h3,h4,h5,_,h6,h7,h8,rfl⟩;exact ⟨h1,d2,tv',st',uh h hc.tookb hx hb hni hok h2 h3 h4 h5 h6 h7,h8,by rw [h3.cp]⟩
theorem Qz{l:List α}(hn:l.Nodup){x:α}(h:l[i]?=some x):x∉l.take i:=fun h1=>by
 have h2:l=l.take i++x::l.drop (i+1):=by
  obtain ⟨h3,h4⟩:=zF.1 h;rw [<-h4,<-AD0 h3,AB4]
 rw [h2,AA5]at hn;exact hn.2.2 x h1 x (zX ..) V
theorem Yq(h:c.ok)(hC:Ct ME (.slice qa cs.length cap) cs)(hR:Eo p cs)(hp:p=c.pos+1):BR Tryz.prog 16 #[.pointer (some ⟨c.cp,0,none⟩),.agg #[I4 p,.slice qa cs.length cap]] [[(c.cp,.cells #[I4 c.pos,.slice c.wq c.win.length c.wc,.pointer (some ⟨c.z.r,0,none⟩),.pointer (some ⟨c.ip,0,none⟩),.map (some c.mi),.map (some c.mkb),I4 c.next] 120 (0,0))],c.sW,c.z.S,[(c.mb,.map c.esP c.ckP)],c.su,[(c.ip,.cells #[.map (some c.mq),c.lv] 186 (0,0))],[(c.mq,.map c.esQ c.ckQ)],c.ML,[(c.mi,.map c.esI c.ckI)],[(c.mkb,.map c.esK c.ckK)],c.SI,c.M,c.MR,ME] (fun r H'=>∃(d:CZ) (q2:Option Addr) (cap2:Nat) (zs:List ByteArray) (tv:Value) (s sM:List A8),r= .tuple #[tv,I4 0]/\Ho c d p cs q2 cap2 zs/\d.M=sM++c.M/\Row 9 tv (zs.map Value.string) s/\H'=[[(d.cp,.cells #[I4 d.pos,.slice d.wq d.win.length d.wc,.pointer (some ⟨d.z.r,0,none⟩),.pointer (some ⟨d.ip,0,none⟩),.map (some d.mi),.map (some d.mkb),I4 d.next] 120 (0,0))],d.sW,d.z.S,[(d.mb,.map d.esP d.ckP)],d.su,[(d.ip,.cells #[.map (some d.mq),d.lv] 186 (0,0))],[(d.mq,.map d.esQ d.ckQ)],d.ML,[(d.mi,.map d.esI d.ckI)],[(d.mkb,.map d.esK d.ckK)],d.SI,d.M,d.MR,ME,s]):=by
 have hml:=mL;obtain ⟨p9,cap9,e9,hol,hgC⟩:=id hC;injection e9 with e91 e92 e93
 subst e91 e93;have hpp:=h.pos
 have hpb:=hR.pos;have hcl:=hR.len
 have hwl:=h.wl;have hwc:=Ew h.win
 have hcok:∀ch∈cs,ch.ok:=fun ch hch=>by
  obtain ⟨i,hi⟩:=AA1 hch;exact hR.all i ch hi
 have hqv:∀x∈c.its.map ItM.iq,BH x.2:=fun y hy=>by
  obtain ⟨x,hx,rfl⟩:=zQ.1 hy;exact h.its.q x hx
 have hql:(c.its.map ItM.iq).length<=500:=by rw [zH];exact h.its.len
 refine Cz func16 V ntmps16 V ?_;intro u R;refine Zb [0,1] ?_;refine Zq<|Zg<|Ze (Bx #[_]) ?_;rintro _ _ ⟨bc,rfl,rfl⟩;refine Ze (Bx #[I4 p,.slice qa cs.length cap]) ?_;rintro _ _ ⟨br,rfl,rfl⟩;refine Za Y<|Za Y<|Z0<|Zx<|Zq<|AO<|Zq<|Zg<|Zl Ae1 Y ?_;refine Zv (BU AZ4 Y Y)<|Za Y<|Z0<|Zx<|AR Y (fun hb9=>?_) (fun hb9=>?_)
 ·
  cases hb9
 refine Zq<|Az (n:=14) (0::1::3::7::15::31::15::79::207::463::975::2047::4095::8191::[]) 2 Ao8 Ao8 V<|Ao4 0 V Wh (AA (cs:=#[I4 p,.slice qa cs.length cap]) Ad7 AX5 Y (by(simp;done)) (by exact BD V)) ?_;refine Yw 1 3 V (Zu [_] Y call51 Y V (P9 p qa cap cs ME hC)) ?_;rintro _ _ ⟨rfl,rfl⟩;rw [Am8 hR];refine An9 2 V (Br Y)<|An9 3 V (AP Y)<|Cf (t:=19) Y (fun g1=>?_) (fun g1=>?_)
 ·
  rw [g1];cases g1
 rw [g1];refine Ao2 4 V (AB (off:=0) AY1 V rfl AU1 Y)<|Ao3 5 V Wh (BX AU2 Y Ap1) ?_;refine Ao3 6 V Wh (BX Ae1 Y Ap1) ?_;refine Ao2 7 V (Am Y V)<|Ao2 8 V (AB (off:=0) AV2 V rfl AU1 Y)<|Ao3 9 V Wh (BX AU2 Y Ap1) ?_
 (refine Ao2 10 rfl (Ke Y Y (IntWalk.i64_in _ ?_)) ?_;(focus (omega)))
 refine Ao2 11 V (JN Y Y)<|An9 12 V (AU Y Y)<|An9 13 V (Aq Y)<|Ag<|Zn [2,3,15] ?_;refine Zx<|Aw Y (fun h3=>?_) (fun h3=>?_)
 ·
  exfalso;omega
 refine AJ<|A9<|Zx<|Zq<|Zg<|Zl Ae1 Y ?_;refine Zh 0 AY1 V rfl AU1 Y<|Zl AU2 Y ?_;refine Zp Y V<|Zh 0 AV2 V rfl AU1 Y<|Xe (Zs AU1 Y Y V) ?_;refine Z0<|Zx<|Zq<|Az (n:=12) (0::0::2::6::14::0::32::96::254::511::1023::2047::[]) 2496 Ao8 Ao8 V<|Ao0 0 V Ae1 Y ?_;refine Ao0 1 V Ae1 Y ?_;refine An9 2 V (Am Y V)<|An9 3 V (AB (off:=1) AV2 V rfl Ae8 Y)<|Ao0 4 V Ak3 Y ?_;refine Ao4 5 V Wh (AA (cs:=#[I4 p,.slice qa cs.length cap]) Ad7 AX5 Y (by(simp;done)) (by exact BD V)) ?_;refine Zz (l:=[6])<|Ao5 [false,true,true,true] [(4,(_,_)),(1,(_,_)),(0,(_,_))] V rfl (Zw [_] Y call52 Y V (LP p hC Ao7)) ?hk_2 Bp ?hl_2
 case hk_2=>
  rintro _ _ ⟨_,⟨q2,cap2,s2,rfl,hC2,rfl⟩,rfl⟩;refine ⟨Zk (Zk (Zk (AV))),?_⟩;refine Yz 7 96 255 [4,1,0] [true,true,true] [(4,(_,_)),(1,(_,_)),(0,(_,_))] V Y V rfl V rfl (Af (vs:=[_]) (cs:=[_,_]) AV9 AX5 Ac0 Y V rfl V rfl V) ?_;rintro _ _ ⟨gb,rfl,rfl⟩;refine ⟨Zk (Zk (Zk (AV))),?_⟩;refine Yz 8 254 511 [4,1,0] [false,false,true] [(0,(_,_))] V Y V rfl V rfl (Bl (by_:=32) (sz:=2) AV9 (V:Tryz.prog.info? 50=some Tryz.t50) V rfl V rfl Y (h.win) Y (DD 2 gb 1 1 50 (0,0) [I4 p,.slice q2 cs.length cap2] V) Wo Wo Ap5 Ao7 Ao7) ?_;rintro _ _ ⟨sa9,hra9,rfl⟩;refine ⟨Zk (AV),?_⟩;obtain ⟨ga9,ca9,rfl⟩:=hra9.form;refine An9 9 V (Am Y V)<|An9 10 V (AB (off:=1) AV2 V rfl Ae8 Y)<|Zz (l:=[11])<|Ao5 [false] [] V rfl (Zs Ae8 Y Y V (hi:=by(simp;done))) ?hk_5 (fun _ _ h=>h.elim) ?hl_5
  case hk_5=>
   rintro _ _ ⟨rfl,rfl⟩;refine ⟨AV,?_⟩;refine Ag<|Zn [2,3] ?_;refine Zx ?_;have hrw:=BO hra9 (n':=(c.win++[(⟨p,q2,cap2,cs⟩:BN)]).length) (xs':=DZ (c.win++[(⟨p,q2,cap2,cs⟩:BN)])) (by rw [zG];rfl) (by rw [IW];rfl)
   have hwl2:(c.win++[(⟨p,q2,cap2,cs⟩:BN)]).length=c.win.length+1:=by rw [zG];rfl
   refine C8 (s1:=s2) (s2:=c.M) Wo Wo ?_;refine Zb [2,3] ?_;refine Ea (e0:=[]) (H0:=[[(c.cp,.cells #[I4 p,.slice ga9 (c.win.length+1) ca9,.pointer (some ⟨c.z.r,0,none⟩),.pointer (some ⟨c.ip,0,none⟩),.map (some c.mi),.map (some c.mkb),I4 c.next] 120 (0,0))],sa9,(s2++c.M)]) (fun e H=>∃(W:List BN) (wq:Option Addr) (wc:Nat) (sW s0:List A8),(Ic c.win W ⟨p,q2,cap2,cs⟩/\BZ 2 50 (.slice wq W.length wc) W.length (DZ W) sW)/\e=[]/\H=[[(c.cp,.cells #[I4 p,.slice wq W.length wc,.pointer (some ⟨c.z.r,0,none⟩),.pointer (some ⟨c.ip,0,none⟩),.map (some c.mi),.map (some c.mkb),I4 c.next] 120 (0,0))],sW,(s0++(s2++c.M))]) Wp ?hx_6 ?hy_6
   case hx_6=>
    refine Zq<|Zg<|Zl Ae1 Y ?_;refine Zp Y V<|Zh 1 AV2 V rfl Ae8 Y<|Zl Ak3 Y ?_;refine Zv (Aa AV9 Y)<|Zv (Df (n:=64) Y Y)<|Z0<|Zx<|Aw Y (fun h6=>?_) (fun h6=>?_)
    ·
     have hrs:EA (sa9++(s2++c.M)) (.slice ga9 (c.win.length+1) ca9) (c.win++[(⟨p,q2,cap2,cs⟩:BN)]):=by
      rw [hwl2]at hrw;rw [<-hwl2];refine Ji (by rw [hwl2];exact hrw) Ao7 fun r hr=>?_;rcases zJ.1 hr with hr|hr
      · obtain ⟨i,hi⟩:=AA1 hr
        exact GZ (h.wp i r hi).2.1 s2
      · rw [zI.1 hr];exact JS hC2 c.M
     have hrs1:EA (sa9++(s2++c.M)) (.slice (En ga9 1 ca9 2) c.win.length (ca9 -1)) ((c.win++[(⟨p,q2,cap2,cs⟩:BN)]).drop 1):=by
      rw [<-hwl2]at hrs;have h9:=NA (a:=1) hrs Ao7
      rwa [hwl2,AG2]at h9
     refine C8 (s1:=sa9) (s2:=(s2++c.M)) Wo Wo ?_;refine Az (n:=10) (0::0::2::6::14::30::62::127::255::511::[]) 576 Ao8 Ao8 V<|Ao0 0 V Ae1 Y ?_;refine Ao0 1 V Ae1 Y ?_;refine An9 2 V (Am Y V)<|An9 3 V (AB (off:=1) AV2 V rfl Ae8 Y)<|Ao0 4 V Ak3 Y ?_;refine An9 5 rfl (CR (l:=1) AV9 AX5 Y Y Ao7)<|Zz (l:=[6])<|Ao5 [false,false,true] [(0,(_,_))] rfl rfl (Zw [_] Y call53 Y rfl (He hrs1 (by rw [zO];omega))) ?hk_7 Bp ?hl_7
     case hk_7=>
      rintro _ _ ⟨_,⟨sR,hrR,rfl⟩,rfl⟩;refine ⟨Zk (AV),?_⟩;obtain ⟨gR,cR,rfl⟩:=hrR.form;refine An9 7 V (Am Y V)<|An9 8 V (AB (off:=1) AV2 V rfl Ae8 Y)<|Zz (l:=[9])<|Ao5 [false] [] V rfl (Zs Ae8 Y Y V (hi:=by(simp;done))) ?hk_8 (fun _ _ h=>h.elim) ?hl_8
      case hk_8=>
       rintro _ _ ⟨rfl,rfl⟩;refine ⟨AV,?_⟩;refine Ag<|Zn [2,3] ?_;refine Bi (e':=[]) (by exact ⟨(c.win++[(⟨p,q2,cap2,cs⟩:BN)]).drop 1,gR,cR,sR,sa9,⟨.inr ⟨V,by omega⟩,hrR⟩,V,V⟩)
      exact Ae
     exact Ae
    refine AJ<|Zn [2,3] ?_;refine Bi (e':=[]) (by exact ⟨c.win++[(⟨p,q2,cap2,cs⟩:BN)],ga9,ca9,sa9,[],⟨.inl ⟨rfl,by omega⟩,by rw [hwl2]at hrw⊢;exact hrw⟩,rfl,by rw [hwl2]⟩)
   rintro _ _ ⟨W,wq,wc,sW,s0,⟨hWN,hrW⟩,rfl,rfl⟩;refine Zq<|Zg<|Ze (Al Ad6 #[_]) ?_;rintro _ _ ⟨bt,rfl,rfl⟩;refine Z0<|Zx<|Zq<|Zg<|Zv (Bb (vs:=[]) (us:=[_,_,_]) Y Y)<|Za Y<|Z0<|Zx<|Zq<|Zq<|Az (n:=8) (0::1::3::7::0::31::63::0::[]) 32 Ao8 Ao8 V<|Ao0 0 V Ae1 Y ?_;refine An9 1 V (Am Y V)<|An9 2 V (AB (off:=3) AV2 V rfl sizeOf116 Y)<|Ao0 3 V isAgg116 Y ?_;refine Ao4 4 V Wh (AA (cs:=#[I4 p,.slice qa cs.length cap]) Ad7 AX5 Y (by(simp;done)) (by exact BD V)) ?_;refine An9 7 V (AP Y)<|Zz (l:=[5])<|Ao5 [false,false,false] [] V rfl (Zw [_,_] Y call56 Y V (bI h.its.idx hqv hql h.its.ist p (MC:=ME) hC Ao7 hcok)) ?hk_11 Bp ?hl_11
   case hk_11=>
    rintro _ _ ⟨_,⟨zi,sz,lv2,ML2,hzi,hzn,hzs,hzr,hst2,rfl⟩,rfl⟩;refine ⟨AV,?_⟩;obtain ⟨pk,ck,rfl⟩:=hzr.form;simp only [zH];rw [zH]at hzr;refine An9 6 V (Aa AV0 Y)<|Ag<|Zx<|AO<|BV<|Zb [68,2,3,6,7,66,67] ?_;refine BI (e0:=[(68,_)]) (fun m e H=>∃(k:Nat) (d:CZ) (tl:List ByteArray) (tv:Value) (st:List A8),m=zi.length -k/\(k<=zi.length/\Gb c d cs p W (s0++(s2++c.M)) (zi.take k) tl/\Row 9 tv (tl.map Value.string) st)/\e=[(68,I4 (k:Int))]/\H=[[(c.cp,.cells #[I4 d.pos,.slice d.wq d.win.length d.wc,.pointer (some ⟨d.z.r,0,none⟩),.pointer (some ⟨d.ip,0,none⟩),.map (some d.mi),.map (some d.mkb),I4 d.next] 120 (0,0))],d.sW,d.z.S,[(d.mb,.map d.esP d.ckP)],d.su,[(d.ip,.cells #[.map (some d.mq),d.lv] 186 (0,0))],[(d.mq,.map d.esQ d.ckQ)],d.ML,[(d.mi,.map d.esI d.ckI)],[(d.mkb,.map d.esK d.ckK)],d.SI,d.M,d.MR,[(bt,.cells #[tv] 45 (0,0))],st]) (by exact ⟨0,({c with pos:=p,wq:=wq,wc:=wc,win:=W,sW:=sW,lv:=lv2,ML:=ML2,M:=s0++(s2++c.M)}:CZ),[],.slice none 0 0,[],rfl,⟨zT _,by rw [AC9];exact qV h.tookb hWN hrW hp hR (fun q hq=>zZ _ (zZ _ hq)) (GZ (JS hC2 c.M) s0) hst2,G5 _⟩,rfl,rfl⟩) Wp ?_;rintro _ _ _ ⟨k,d,tl,tv,st,rfl,⟨hk,hAI,hT⟩,rfl,rfl⟩;refine Zq<|Zg<|Zv (Au Y Y)<|Z0<|Zx<|Zq<|Aw Y (fun hlt=>?_) (fun hlt=>?_)
    ·
     obtain ⟨i9,hi9⟩:∃i,zi[k]?=some i:=⟨_,zD Ao7⟩;obtain ⟨y9,hy9,hye,hhit⟩:=(hzi i9).1 (zP hi9);obtain ⟨x,hx,rfl⟩:=zQ.1 hy9;replace hye:x.id=i9:=hye;subst hye;have hni:x.id∉zi.take k:=Qz hzn hi9
     have hxd:=hAI.next_it h.tookb hx hni;have hgi:=hAI.okb.its.get hxd
     have hgk:Dm x.id d.lmK=some (.string x.key):=Ck hAI.okb.its.km.keys ((hAI.okb.its.kmem _).2 ⟨x,hxd,rfl⟩);have hch:(x.b,Obj.cells #[I4 x.q.kd,I4 x.q.tb,I4 x.q.cl,I4 x.q.lo,I4 x.q.hi,I4 x.q.bq,I4 x.q.ot,I4 x.tn,I4 x.base,.slice x.rq x.L.length x.rc,I4 x.id,.slice x.wq x.res.rows.length x.wc,I4 x.res.val,.bool x.res.fnd,I4 x.since] 126 (0,0))∈d.SI:=hAI.okb.its.sub x hxd
     have htl:tl.length<=500:=AK0 (SC hAI.t2 fun a ha=>by
      obtain ⟨w,hw,rfl,_⟩:=(hAI.t1 a).1 ha;exact zS hw) (by rw [zH];exact h.its.len)
     rcases hzr with⟨_,h0,_⟩|⟨gk,capk,curk,zk,hvk,rfl,hlek,hcmk,hcsk,htkk,hfrk⟩
     · simp at h0;subst h0;simp at hlt
     injection hvk with hv1 hv2 hv3
     subst hv1 hv3;have hck:curk[k]?=some (I4 x.id):=by
      have h:=congrArg (fun l=>l[k]?) htkk;simp only [AA7,zH,Am7 hlt,zY,hi9]at h;simpa using h
     refine AJ<|Zx<|Zq<|AO<|Zq<|Zg<|Bq (Ba AV0 AU1 Y Y (by first|omega|decide|(simp;done)|(simp;omega)))<|Zl AU2 Y (hv:=by exact hck) ?_;refine Za Y<|Z0<|Zx<|Zq<|Zg<|Zl Ae1 Y ?_;refine Zp Y V<|Zh 5 AV2 V rfl sizeOf91 Y<|Zl isAgg91 Y ?_;refine Zm Y<|Zo Wh (DK (CO AV3 (D:=fun _=>True)) Af6 AY5 hAI.okb.its.km (fun _ _=>trivial) (trivial) (by rw [hgk];first|done|rfl) Y Y) ?_;refine Za Y<|Z0<|Zx<|Zq<|Az (n:=13) (0::1::3::7::0::31::63::127::255::511::0::1024::4095::[]) 0 Ao8 Ao8 V<|Ao0 0 V Ae1 Y ?_;refine An9 1 V (Am Y V)<|An9 2 V (AB (off:=4) AV2 V rfl Ad4 Y)<|Ao0 3 V Ae7 Y ?_;refine An9 4 rfl (AP Y)<|Ao4 5 rfl Wh (DK (DT AW6 (D:=fun _=>True)) AZ2 Ab7 hAI.okb.its.im (fun _ _=>trivial) (trivial) (by rw [hgi];first|done|rfl) Y Y) ?_;refine An9 6 V (Am Y V)<|An9 7 V (AB (off:=0) AX1 V rfl AY9 Y)<|An9 8 V (Ar (off:=8) AV7 V rfl AU1 Y)<|Cw (D':=1023) 9 V rfl V (F6 Wo (hch)) (BX AU2 Y Ap1) ?_;refine An9 10 V (AB (off:=0) AY1 V rfl AU1 Y)<|Ao0 11 V AU2 Y ?_;refine An9 12 V (Dq Y Y)<|Ag<|Zn [2,3,6,7,10,66,67,68,90] ?_;refine Zx<|Aw Y (fun hbs=>?_) (fun hbs=>?_)
     ·
      refine Zg<|Zm Y<|Zm Y<|Zl Ae1 Y ?_;refine Zp Y V<|Zh 4 AV2 V rfl Ad4 Y<|Zl Ae7 Y ?_;refine Zm Y<|Zo Wh (DK (DT AW6 (D:=fun _=>True)) AZ2 Ab7 hAI.okb.its.im (fun _ _=>trivial) (trivial) (by rw [hgi];first|done|rfl) Y Y) ?_;refine Zc [_,_] Y call54 Y V (dX hAI h hC Ao7 hx hbs hni hT Ao7 bt br bc) ?_;rintro _ _ ⟨_,⟨rfl,d2,tv2,st2,hAI2,hT2,rfl⟩,rfl⟩;refine Z0<|A9<|Zx<|Zg<|Ya (n:=1) Y Y<|Zm Y<|Z0<|Zn [68,2,3,6,7,66,67] ?_;refine Ad (e':=[(68,_)]) (by exact ⟨k+1,d2,tl++[x.key],tv2,st2,rfl,⟨by omega,by rw [Bc hi9];exact hAI2,hT2⟩,rfl,rfl⟩)
     refine AJ<|A9<|Zx<|Zg<|Ya (n:=1) Y Y<|Zm Y<|Z0<|Zn [68,2,3,6,7,66,67] ?_;refine Ad (e':=[(68,_)]) (by exact ⟨k+1,d,tl,tv,st,rfl,⟨by omega,by rw [Bc hi9];exact qR hAI h.tookb hx hbs,hT⟩,rfl,rfl⟩)
    obtain rfl:k=zi.length:=by omega
    rw [AA4]at hAI;have htl:tl.length<=500:=AK0 (SC hAI.t2 fun a ha=>by
     obtain ⟨w,hw,rfl,_⟩:=(hAI.t1 a).1 ha;exact zS hw) (by rw [zH];exact h.its.len)
    refine BG<|Zt<|Zt<|AX<|Zx<|Zq<|Zq ?_;rw [<-hAI.cp];refine Zg<|Zl Ae1 Y ?_;refine Zc [_] Y call57 Y V (ZX d) ?_;rintro _ _ ⟨_,⟨bs,rfl,rfl⟩,rfl⟩;refine Z0<|Zx<|AO<|Zb [2,6,102] ?_;refine Ia (H0:=_) (R:=_) (I:=(fun(pre:List ByteArray) H=>∃d2:CZ,J6 d d2 pre/\H=[[(d.cp,.cells #[I4 d2.pos,.slice d2.wq d2.win.length d2.wc,.pointer (some ⟨d2.z.r,0,none⟩),.pointer (some ⟨d2.ip,0,none⟩),.map (some d2.mi),.map (some d2.mkb),I4 d2.next] 120 (0,0))],d2.sW,d2.z.S,[(d2.mb,.map d2.esP d2.ckP)],d2.su,[(d2.ip,.cells #[.map (some d2.mq),d2.lv] 186 (0,0))],[(d2.mq,.map d2.esQ d2.ckQ)],d2.ML,[(d2.mi,.map d2.esI d2.ckI)],[(d2.mkb,.map d2.esK d2.ckK)],d2.SI,d2.M,d2.MR,[(bc,.cells #[.pointer (some ⟨d.cp,0,none⟩)] 37 (0,0))]])) (E:=fun x e Hn=>e=[(11,.string x),(103,.string x)]/\Hn=[]) rfl Y call115 (ZZ hAI.okb bs) (fun pre H1 c9 d9 h9=>by obtain ⟨d2,hS,rfl⟩:=h9;exact ⟨d2,hS.okb,hS.like.cp,hS.mi,hS.like.pos,hS.its,by rw [hS.like.cp];simp,by simp,fun q hq=>by simp [hq]⟩) Y rfl Wp (⟨d,R6 hAI.okb,rfl⟩) ?ha_16 ?hbd_16 ?hk_16
    case ha_16=>
     intro _ x _ _;refine Zg<|Za Y<|Z0<|LQ (e:=[(11,_),(103,_)]) (Hn:=[]) ?_;exact ⟨V,V⟩
    case hbd_16=>
     intro l pre x u e9 Hn9 H1 R1 r9 hxs hI hE9;obtain ⟨rfl,rfl⟩:=hE9;obtain ⟨d2,hS,rfl⟩:=hI;obtain ⟨x2,hx2,rfl⟩:=ZY hS hAI.okb hxs;rw [<-hS.like.cp];refine AO<|Zg<|Zl Ae1 Y ?_;refine Zm Y<|Zc [_,_] Y call26 Y V (WE hS.okb hx2) ?_;rintro _ _ ⟨_,⟨rfl,d3,hd1,hd2,hd3,hd4,_,hd5,hd6,hd7,rfl⟩,rfl⟩;rw [hd2.cp];refine Z0<|A9<|Ej V (by exact ⟨d3,R5 hS hd1 hd2 hd3 hd4 hd5 hd6 hd7,V⟩)
    intro D1 ys H2 hfl hI2;obtain ⟨d2,hS,rfl⟩:=hI2;rw [<-hS.like.cp];refine Zn [6] ?_;refine A9<|Zx<|Zq<|Zg<|Zl Ae3 Y ?_;refine Zc [_] Y call58 Y V (R9 hT Ao7) ?_;rintro _ _ ⟨_,⟨zs,s3,rfl,hpz,hsz,hrz,rfl⟩,rfl⟩;refine Z0<|Zx<|Zq<|Zg<|Zl Ae3 Y ?_;refine Za Y<|Za Y<|Z0<|Zx<|AC<|Fq V (mI results16 Y Y) Wo (by exact ⟨d2,q2,cap2,zs,tv,s3,s0++s2,V,qU h hR hp hWN hAI (fun q hq=>zZ _ (zZ _ hq)) hzi hS hfl hpz hsz,hS.M.1.trans (hAI.M.trans (zM _ _ _).symm),hrz,V⟩)
   exact Ae
  exact Ae
 exact Ae
theorem oN:Fy [] 0 #[] 0 [] (.pointer none) [] #[] 0 [] #[] 0 [] []:=⟨jU,.inl ⟨rfl,rfl⟩,E5 _,fun p=>by simp,E5 _,fun p=>by simp,AR9,fun x hx=>by simp at hx,by decide,by decide,fun x hx=>by simp at hx,fun x hx=>by simp at hx⟩
theorem q8(h:d.okb)(hi:d.its=[])(pos:Int)(hp:0<=pos/\pos<=10000):({d with pos:=pos,wq:=none,wc:=0,win:=[],sW:=[]}:CZ).ok:=
 ⟨⟨hp,Bf 2 _,zT _,fun i r hr=>by simp at hr,h.pool,h.pk,h.its,h.tns⟩,fun x hx=>by have h1:x∈d.its:=hx;rw [hi]at h1;simp at h1⟩
theorem CZ.okb.noPL(h:c.okb)(hi:c.its=[]):c.PL=[]:=by
 cases hP:c.PL with
 |nil=>rfl
 |cons e l=>
  have h1:=(h.pk e.key).1 (by rw [hP];simp);rw [hi]at h1;simp at h1
theorem kF{v:Value}{sh:List Int}{ss:List A8}(hS:Row 3 v (sh.map (Value.int .i64)) ss)(pos cap:Int)(hp:0<=pos/\pos<=10000)(hc:1<=cap/\cap<=1000000)(hl:1<=sh.length/\sh.length<=8)(h0:∀x∈sh,0<=x)(hsum:sh.sum<=cap):BR Tryz.prog 13 #[I4 pos,I4 cap,v] [ss] (fun r H'=>∃c:CZ,r= .tuple #[.pointer (some ⟨c.cp,0,none⟩),I4 0]/\c.ok/\(c.its=[]/\c.PL=[]/\c.win=[])/\c.pos=pos/\c.next=0/\c.ns=sh.length/\c.z.cap=cap/\H'=[[(c.cp,.cells #[I4 c.pos,.slice c.wq c.win.length c.wc,.pointer (some ⟨c.z.r,0,none⟩),.pointer (some ⟨c.ip,0,none⟩),.map (some c.mi),.map (some c.mkb),I4 c.next] 120 (0,0))],c.sW,c.z.S,[(c.mb,.map c.esP c.ckP)],c.su,[(c.ip,.cells #[.map (some c.mq),c.lv] 186 (0,0))],[(c.mq,.map c.esQ c.ckQ)],c.ML,[(c.mi,.map c.esI c.ckI)],[(c.mkb,.map c.esK c.ckK)],c.SI,c.M,c.MR,ss]):=by
 refine Se func13 ntmps13 [0,1,2] ?_;intro u R;refine Zq<|Zg<|Za Y<|Za Y<|Z0<|Zx<|Zq<|Zq<|Zg<|Zm Y<|Xr [_] Y call41 Y V (Iz pos) ?_;rw [Am8 hp];refine Zv (Br Y)<|Z0<|Zx<|AR Y (fun hb1=>?_) (fun hb1=>?_)
 ·
  cases hb1
 refine AJ<|Zx<|Zq<|Zg<|Zm Y<|Zm Y<|Zc [_,_] Y call42 Y V (il hS cap hc hl h0 hsum) ?_;rintro _ _ ⟨_,⟨z,mb,su,rfl,hcap,hpool,rfl⟩,rfl⟩;refine Zm Y<|Zd Y V<|Zd Y V<|Za Y<|Za Y<|Z0<|Zn [0,8,9] ?_;refine Zx<|Zq<|Zq<|Zg<|Zm Y<|Zv (Eh (n:=0) Y Y)<|Z0<|Zx<|Aw Y (fun hb2=>?_) (fun hb2=>?_)
 ·
  exfalso;exact hb2 rfl
 refine AJ<|Zx<|Zq<|BV<|BV<|BV<|BV<|BV<|Zg<|Zm Y<|Zm Y<|Zc [] Y call43 Y V (fV) ?_;rintro _ _ ⟨_,⟨ip,mq,rfl,rfl⟩,rfl⟩;refine Ze (D6) ?_;rintro _ _ ⟨mi,rfl,rfl⟩;refine Ze (D6) ?_;rintro _ _ ⟨mkb,rfl,rfl⟩;refine Zv (BL (vs:=[(0,_),(2,_),(3,_),(4,_),(5,_)]) (cs:=#[_,_,_,_,_,_,_]) Y (AY (pl:=#[(0,1),(1,1),(2,1),(3,1),(4,1),(5,1),(6,1)]) zeroValue120 AV2 (fun _=>by kernel_rfl) V))<|Ze (Bx #[_,_,_,_,_,_,_]) ?_;rintro _ _ ⟨cp,rfl,rfl⟩;refine Za Y<|Za Y<|Z0<|Zx<|AC<|Ci V results13 Y Y (by refine ⟨({cp:=cp,pos:=pos,wq:=none,wc:=0,win:=[],sW:=[],z:=z,ns:=sh.length,PL:=[],mb:=mb,esP:=#[],ckP:=0,lmP:=[],su:=su,ip:=ip,mq:=mq,mi:=mi,mkb:=mkb,next:=0,its:=[],esQ:=#[],ckQ:=0,lmQ:=[],lv:= .pointer none,ML:=[],esI:=#[],ckI:=0,lmI:=[],esK:=#[],ckK:=0,lmK:=[],SI:=[],M:=[],MR:=[]}:CZ),V,⟨⟨hp,Bf 2 _,by simp,fun i r hr=>by simp at hr,hpool,fun k=>by simp,oN,fun x hx=>by simp at hx⟩,fun x hx=>by simp at hx⟩,⟨V,V,V⟩,V,V,V,hcap,V⟩)
theorem qC(pos:Int)(cap:Int)(v:Value)(hp:¬(0<=pos/\pos<=10000)):BJ Tryz.prog 13 #[I4 pos,I4 cap,v] [] (.tuple #[.pointer none,I4 180]):=by
 refine Se func13 ntmps13 [0,1,2] ?_;intro u R;refine Zq<|Zg<|Za Y<|Za Y<|Z0<|Zx<|Zq<|Zq<|Zg<|Zm Y<|Xr [_] Y call41 Y V (Iz pos) ?_;rw [Am5 hp];refine Zv (Br Y)<|Z0<|Zx<|AR Y (fun hb1=>?_) (fun hb1=>?_)
 ·
  refine Zq<|Zg<|Za Y<|Za Y<|Z0<|Zx<|AC<|Zt<|Ci V results13 Y Y (by exact ⟨V,V⟩)
 cases hb1
theorem aM(h:c.ok)(pos:Int)(hp:0<=pos/\pos<=10000):BR Tryz.prog 28 #[.pointer (some ⟨c.cp,0,none⟩),I4 pos] [[(c.cp,.cells #[I4 c.pos,.slice c.wq c.win.length c.wc,.pointer (some ⟨c.z.r,0,none⟩),.pointer (some ⟨c.ip,0,none⟩),.map (some c.mi),.map (some c.mkb),I4 c.next] 120 (0,0))],c.sW,c.z.S,[(c.mb,.map c.esP c.ckP)],c.su,[(c.ip,.cells #[.map (some c.mq),c.lv] 186 (0,0))],[(c.mq,.map c.esQ c.ckQ)],c.ML,[(c.mi,.map c.esI c.ckI)],[(c.mkb,.map c.esK c.ckK)],c.SI,c.M,c.MR] (fun v H'=>v=undef/\∃d:CZ,d.ok/\d.cp=c.cp/\(d.its=[]/\d.PL=[]/\d.win=[])/\d.pos=pos/\d.next=c.next/\d.ns=c.ns/\d.z.cap=c.z.cap/\H'=[[(d.cp,.cells #[I4 d.pos,.slice d.wq d.win.length d.wc,.pointer (some ⟨d.z.r,0,none⟩),.pointer (some ⟨d.ip,0,none⟩),.map (some d.mi),.map (some d.mkb),I4 d.next] 120 (0,0))],d.sW,d.z.S,[(d.mb,.map d.esP d.ckP)],d.su,[(d.ip,.cells #[.map (some d.mq),d.lv] 186 (0,0))],[(d.mq,.map d.esQ d.ckQ)],d.ML,[(d.mi,.map d.esI d.ckI)],[(d.mkb,.map d.esK d.ckK)],d.SI,d.M,d.MR]):=by
 refine Se func28 ntmps28 [0,1] ?_;intro u R;refine Zq<|Zq<|Zg<|Zm Y<|Zv (BU AZ4 Y Y)<|Zm Y<|Aj (t:=8) Y V (fun g1=>?_) (fun g1=>?_)
 ·
  cases g1
 refine Zf Y Y<|Xr [_] Y call41 Y V (Iz pos) ?_;rw [Am8 hp];refine Yg (Br Y)<|Zv (AU Y Y)<|Z0<|Zx<|AR Y (fun hb1=>?_) (fun hb1=>?_)
 ·
  cases hb1
 refine AJ<|Zx<|Zq<|Zq<|Zg<|Zm Y<|Zc [_] Y call19 Y V (NW h.tookb) ?_;rintro _ _ ⟨_,⟨zs,sk,hzp,hzs,hzr,rfl⟩,rfl⟩;have hzn:zs.Nodup:=hzp.nodup_iff.2 h.its.keys
 have hzl:=hzp.length_eq;rw [zH]at hzl;have hcl:=h.its.len
 obtain ⟨pk,ck,rfl⟩:=hzr.form;simp only [zH];rw [zH]at hzr;refine Zv (Aa AV1 Y)<|Zm Y<|Z0<|Zx<|AO<|Zb [16,0,1,14,15] ?_;refine BI (e0:=[(16,_)]) (fun m e H=>∃(i:Nat) (d:CZ),m=zs.length -i/\(i<=zs.length/\J6 c d (zs.take i))/\e=[(16,I4 (i:Int))]/\H=[[(c.cp,.cells #[I4 d.pos,.slice d.wq d.win.length d.wc,.pointer (some ⟨d.z.r,0,none⟩),.pointer (some ⟨d.ip,0,none⟩),.map (some d.mi),.map (some d.mkb),I4 d.next] 120 (0,0))],d.sW,d.z.S,[(d.mb,.map d.esP d.ckP)],d.su,[(d.ip,.cells #[.map (some d.mq),d.lv] 186 (0,0))],[(d.mq,.map d.esQ d.ckQ)],d.ML,[(d.mi,.map d.esI d.ckI)],[(d.mkb,.map d.esK d.ckK)],d.SI,d.M,d.MR]) (by exact ⟨0,c,rfl,⟨zT _,by rw [AC9];exact R6 h.tookb⟩,rfl,rfl⟩) Wp ?_;rintro _ _ _ ⟨i,d,rfl,⟨hi,hS⟩,rfl,rfl⟩;refine Zq<|Zg<|Zv (Au Y Y)<|Z0<|Zx<|Zq<|Aw Y (fun hlt=>?_) (fun hlt=>?_)
 ·
  obtain ⟨k,hk⟩:∃k,zs[i]?=some k:=⟨_,zD Ao7⟩;obtain ⟨x,hx,rfl⟩:=zQ.1 (hzp.mem_iff.1 (zP hk));have hxd:x∈d.its:=(hS.its x).2 ⟨hx,Qz hzn hk⟩
  rcases hzr with⟨_,h0,_⟩|⟨gk,capk,curk,zk,hvk,rfl,hlek,hcmk,hcsk,htkk,hfrk⟩
  · simp at h0;subst h0;simp at hlt
  injection hvk with hv1 hv2 hv3
  subst hv1 hv3;have hck:curk[i]?=some (.string x.key):=by
   have h:=congrArg (fun l=>l[i]?) htkk;simp only [AA7,zH,Am7 hlt,zY,hk]at h;simpa using h
  refine AJ<|Zx<|Zq<|AO<|Zq<|Zg<|Bq (Ba AV1 AY6 Y Y Ap2)<|Zl Af1 Y (hv:=by exact hck) ?_;refine Za Y<|Z0<|Zx ?_;rw [<-hS.like.cp];refine Zg<|Zm Y<|Zm Y<|Zc [_,_] Y call26 Y V (WE hS.okb hxd) ?_;rintro _ _ ⟨_,⟨rfl,d3,hd1,hd2,hd3,hd4,_,hd5,hd6,hd7,rfl⟩,rfl⟩;rw [hd2.cp,hS.like.cp];refine Z0<|A9<|Zx<|Zg<|Ya (n:=1) Y Y<|Zm Y<|Z0<|Zn [16,0,1,14,15] ?_;refine Ad (e':=[(16,_)]) (by exact ⟨i+1,d3,rfl,⟨by omega,by rw [Bc hk];exact R5 hS hd1 hd2 hd3 hd4 hd5 hd6 hd7⟩,rfl,rfl⟩)
 obtain rfl:i=zs.length:=by omega
 rw [AA4]at hS;have hdi:d.its=[]:=AM0.2 fun y hy=>by
  obtain ⟨h1,h2⟩:=(hS.its y).1 hy;exact h2 (hzp.mem_iff.2 (zS h1))
 refine BG<|Zt<|Zt<|AX<|Zx ?_;rw [<-hS.like.cp];refine BV<|Zg<|Zm Y<|Zm Y<|Zm Y<|Zp Y V<|Zh 0 AV2 V rfl AU1 Y<|Xe (Zs AU1 Y Y V (hi:=by(simp;done))) ?_;refine Zp Y V<|Zh 1 AV2 V rfl Ae8 Y<|Xe (Zs Ae8 Y Y V (hi:=by(simp;done))) ?_;refine Z0<|Cj V results28 (by exact ⟨V,({d with pos:=pos,wq:=none,wc:=0,win:=[],sW:=[]}:CZ),q8 hS.okb hdi pos hp,V,⟨hdi,hS.okb.noPL hdi,V⟩,V,hS.next,hS.like.ns,hS.like.cap,V⟩)
theorem Wj(h:c.okb):BR Tryz.prog 24 #[.pointer (some ⟨c.cp,0,none⟩)] [[(c.cp,.cells #[I4 c.pos,.slice c.wq c.win.length c.wc,.pointer (some ⟨c.z.r,0,none⟩),.pointer (some ⟨c.ip,0,none⟩),.map (some c.mi),.map (some c.mkb),I4 c.next] 120 (0,0))],c.sW,c.M] (fun r H'=>∃p cap s,r= .slice p c.win.length cap/\H'=[[(c.cp,.cells #[I4 c.pos,.slice c.wq c.win.length c.wc,.pointer (some ⟨c.z.r,0,none⟩),.pointer (some ⟨c.ip,0,none⟩),.map (some c.mi),.map (some c.mkb),I4 c.next] 120 (0,0))],c.sW,c.M,s]):=by
 have hml:=mL;have hwl:=h.wl
 have hwc:=Ew h.win;obtain ⟨wl,hwle⟩:∃wl,wl=c.win:=⟨_,rfl⟩;have hwl2:wl.length<=64:=by rw [hwle];exact hwl
 have hrs:=VJ h;rw [<-hwle]at hrs⊢;obtain ⟨p8,cap8,e8,⟨hl8,hc8⟩,hg8⟩:=id hrs;injection e8 with e81 e82 e83
 subst e81 e83;refine Se func24 ntmps24 [0] ?_;intro u R;refine Zq<|Zg<|Za Y<|Z0<|Zx<|Zq<|Zq<|Zg<|Zm Y<|Zv (BU AZ4 Y Y)<|Z0<|Zx<|AR Y (fun hb9=>?_) (fun hb9=>?_)
 ·
  cases hb9
 refine AJ<|Zx<|Zq<|C8 (s1:=c.sW) (s2:=c.M) Wo Wo ?_;refine Zg<|Zm Y<|Zp Y V<|Zh 1 AV2 V rfl Ae8 Y<|Zl Ak3 Y ?_;refine Zv (Aa AV9 Y)<|Ze (Ni (by_:=32) (sz:=2) (l:=0) AV9 (V:Tryz.prog.info? 50=some Tryz.t50) V rfl V Y Y ?_ ?_ ?_) ?_
 (focus (omega))
 (focus (omega))
 (focus (omega))
 rintro _ _ ⟨gr,cugr,rfl,hcugr,rfl⟩;refine Za Y<|Z0<|Zx<|Zq<|Zq<|BV<|Zg<|Zm Y<|Zp Y V<|Zh 1 AV2 V rfl Ae8 Y<|Zl Ak3 Y ?_;refine Zv (Aa AV9 Y)<|Zm Y<|Z0<|Zn [3,17,18,19] ?_;refine Zx<|AO<|Zb [3,19,17,18] ?_;refine BI (e0:=[(3,_),(19,_)]) (fun m e H=>∃(k:Nat) (l:List BN) (vr:Value) (sR MR:List A8),m=wl.length -k/\((k<=wl.length/\l.length=k)/\BZ 2 50 vr l.length (DZ l) sR)/\e=[(3,vr),(19,I4 (k:Int))]/\H=[sR,MR]) (by exact ⟨0,[],_,_,[],V,⟨⟨zT _,V⟩,UI Ao7 hcugr⟩,V,V⟩) Wp ?_;rintro _ _ _ ⟨k,l,vr,sR,MR,rfl,⟨⟨hk,hlk⟩,hR⟩,rfl,rfl⟩;refine Zq<|Zg<|Zv (Au Y Y)<|Z0<|Zx<|Zq<|Aw Y (fun hlt=>?_) (fun hlt=>?_)
 ·
  obtain ⟨r,hr⟩:∃r,wl[k]?=some r:=⟨_,zD Ao7⟩;obtain ⟨hchr,g9,off9,cur9,T9,zz9,hp9,hm9,hsz9,hex9⟩:=hg8 k r hr;rw [hp9];obtain ⟨gv,cvr,rfl⟩:=hR.form;have hrcs:=Mr h (r:=r) (by rw [hwle]at hr;exact zP hr)
  refine AJ<|Zx<|Zq<|AO<|Zq<|Zg<|Bq (Ai AV9 AX5 Y Y Ao7)<|CW (Gc Wo (hm9)) (AA (cs:=#[I4 r.p,.slice r.q r.cs.length r.cap]) Ad7 AX5 Y Ao7 (by exact hex9)) V rfl ?_;refine Ze (Al Ac0 #[_,_]) ?_;rintro _ _ ⟨br,rfl,rfl⟩;refine Xe (Xw AX5 #[I4 r.p,.slice r.q r.cs.length r.cap]) ?_;refine Z0<|Zx<|Zg<|Zm Y<|Zo Wh (AA (cs:=#[I4 r.p,.slice r.q r.cs.length r.cap]) Ad7 AX5 Y (by(simp;done)) (by exact BD V)) ?_;refine Zc [_] Y call52 Y V (LP r.p hchr Ao7) ?_;rintro _ _ ⟨_,⟨q2,cap2,s2,rfl,hch2,rfl⟩,rfl⟩;refine Ze (Af (vs:=[_]) (cs:=[_,_]) AV9 AX5 Ac0 Y V rfl V rfl V) ?_;rintro _ _ ⟨gb,rfl,rfl⟩;refine Ze (Bl (by_:=32) (sz:=2) AV9 (V:Tryz.prog.info? 50=some Tryz.t50) V rfl V rfl Y (hR) Y (DD 2 gb 1 1 50 (0,0) [I4 r.p,.slice q2 r.cs.length cap2] V) Wo Wo Ap5 Ao7 Ao7) ?_;rintro _ _ ⟨sa9,hra9,rfl⟩;obtain ⟨ga9,ca9,rfl⟩:=hra9.form;refine Za Y<|Z0<|A9<|Zx<|C8 (s1:=s2) (s2:=MR) Wo Wo ?_;refine Zg<|Ya (n:=1) Y Y<|Zm Y<|Z0<|Zn [3,19,17,18] ?_;refine Ad (e':=[(3,_),(19,_)]) (by exact ⟨k+1,l++[⟨r.p,q2,cap2,r.cs⟩],_,sa9,s2++MR,rfl,⟨⟨by omega,by rw [zG,hlk];rfl⟩,BO hra9 (by rw [zG];rfl) (by rw [IW];rfl)⟩,rfl,rfl⟩)
 obtain rfl:k=wl.length:=by omega
 obtain ⟨gv,cvr,rfl⟩:=hR.form;refine BG<|Zt<|Zt<|AX<|Zx<|Zq<|WT (s1:=c.sW) (s2:=c.M) (by repeat(first|exact Qb.here _|apply Qb.there)) ?_;refine Zg<|Zm Y<|Za Y<|Z0<|Zx<|AC<|AL rfl results24 Y (by exact ⟨gv,cvr,sR,by rw [hlk],rfl⟩)
theorem Yr(h:c.okb)(hC:Ct ME (.slice qa cs.length cap) cs)(hR:Eo p cs)(hp:p≠c.pos+1):BJ Tryz.prog 16 #[.pointer (some ⟨c.cp,0,none⟩),.agg #[I4 p,.slice qa cs.length cap]] [[(c.cp,.cells #[I4 c.pos,.slice c.wq c.win.length c.wc,.pointer (some ⟨c.z.r,0,none⟩),.pointer (some ⟨c.ip,0,none⟩),.map (some c.mi),.map (some c.mkb),I4 c.next] 120 (0,0))],ME] (.tuple #[.slice none 0 0,I4 180]):=by
 have hml:=mL;obtain ⟨p9,cap9,e9,hol,hgC⟩:=id hC;injection e9 with e91 e92 e93
 subst e91 e93;refine Cz func16 V ntmps16 V ?_;intro u R;refine Zb [0,1] ?_;refine Zq<|Zg<|Ze (Bx #[_]) ?_;rintro _ _ ⟨b1,rfl,rfl⟩;refine Ze (Bx #[I4 p,.slice qa cs.length cap]) ?_;rintro _ _ ⟨b2,rfl,rfl⟩;refine Za Y<|Za Y<|Z0<|Zx<|Zq<|AO<|Zq<|Zg<|Zl Ae1 Y ?_;refine Zv (BU AZ4 Y Y)<|Za Y<|Z0<|Zx<|AR Y (fun hb9=>?_) (fun hb9=>?_)
 ·
  cases hb9
 refine Zq<|Az (n:=14) (0::1::3::7::15::31::15::79::207::463::975::2047::4095::8191::[]) 2 Ao8 Ao8 V<|Ao4 0 V Wh (AA (cs:=#[I4 p,.slice qa cs.length cap]) Ad7 AX5 Y (by(simp;done)) (by exact BD V)) ?_;refine Yw 1 3 V (Zu [_] Y call51 Y V (P9 p qa cap cs ME hC)) ?_;rintro _ _ ⟨rfl,rfl⟩;rw [Am8 hR];refine An9 2 V (Br Y)<|An9 3 V (AP Y)<|Cf (t:=19) Y (fun g1=>?_) (fun g1=>?_)
 ·
  rw [g1];cases g1
 rw [g1];refine Ao2 4 V (AB (off:=0) AY1 V rfl AU1 Y)<|Ao3 5 V Wh (BX AU2 Y Ap1) ?_;refine Ao3 6 V Wh (BX Ae1 Y Ap1) ?_;refine Ao2 7 V (Am Y V)<|Ao2 8 V (AB (off:=0) AV2 V rfl AU1 Y)<|Ao3 9 V Wh (BX AU2 Y Ap1) ?_
 (refine Ao2 10 rfl (Ke Y Y (IntWalk.i64_in _ ?_)) ?_;(focus (have:=h.pos;omega)))
 refine Ao2 11 V (JN Y Y)<|An9 12 V (AU Y Y)<|An9 13 V (Aq Y)<|Ag<|Zn [2,3,15] ?_;refine Zx<|Aw Y (fun h3=>?_) (fun h3=>?_)
 ·
  refine Zq<|Zg<|Za Y<|Za Y<|Z0<|Zx<|AC<|Ab<|Zt<|OI V (mI results16 Y Y) (by exact ⟨V,V⟩)
 exfalso;omega
end Go.Proofs.YteaiajghbkenoaaGreatDoor
