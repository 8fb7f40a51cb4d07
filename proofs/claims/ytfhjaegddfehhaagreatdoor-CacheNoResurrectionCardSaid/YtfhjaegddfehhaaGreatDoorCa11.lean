/- Put. -/
import Derived.Test.YtfhjaegddfehhaaGreatDoorCa6
set_option linter.unusedVariables false
set_option linter.unusedSimpArgs false
namespace Go.Proofs.YtfhjaegddfehhaaGreatDoor
open Go.Proofs.Tryz
open Go Go.RowKit Gw
set_option maxRecDepth 100000
attribute [local irreducible] Gw.At Gw.Nx Gw.Ops
variable{q:QM}{base:Int}
theorem Ng{r:CE}{l:List BN}(h:(BC q r base l).2.2=true):FY q base 0 (r,base) l=some ((BC q r base l).1,(BC q r base l).2.1):=Lj h
theorem WV{c:CZ}(h:c.okb){m:List AA}(X:∀q∈c.M,q∈m):∀(i:Nat) (r:BN),c.win[i]?=some r->r.p=c.pos -(c.win.length:Int)+1+(i:Int)/\Ck m (.slice r.q r.cs.length r.cap) r.cs/\EJ r.p r.cs:=fun i r Z=>by
 obtain ⟨J,⟨p,cap,e,U,O⟩,K⟩:=h.wp i r Z;refine ⟨J,⟨p,cap,e,U,fun j x hx=>?_⟩,K⟩;obtain ⟨g,off,cur,T,zz,B,G,I⟩:=O j x hx;exact ⟨g,off,cur,T,zz,B,X _ G,I⟩
variable{its:List ItM}
theorem aL{K:ByteArray}(h:∀y∈its,y.key≠K):(its.filter fun y=>y.key≠K)=its:=kl.2 fun y hy=>by simpa using h y hy
theorem qX{PL:List Bt}(m:∀k,k∈PL.map (·.key)↔k∈its.map ItM.key)(e:Bt)(x:ItM)(g:e.key=x.key):∀k,k∈(PL++[e]).map (·.key)↔k∈(its++[x]).map ItM.key:=by
 intro k;rw [BW,BW,B9,B9,m k,MD,MD,g]
def IL(b:Nat)(id:Int)(q:QM)(tn base:Int)(rq:Option Addr)(rc:Nat)(L:List RP)(R:CE×Int×Bool)(wq:Option Addr)(wc:Nat):ItM:=⟨b,id,q,tn,base,rq,rc,L,R.1,wq,wc,R.2.1⟩
variable{c:CZ}{wq:Option Addr}{wc:Nat}{L:List RP}{r0:CE}
theorem TL{b:Nat}{id:Int}(X:BJ q){tn:Int}(Z:0<=tn/\tn<=1000000)(U:0<=base/\base<=10000){rq:Option Addr}{rc:Nat}(G:L.length<=1000000)(m:∀x∈L,x.fits)(I:Eb q L=some r0)(J:(c.pos -base).toNat<=c.win.length)(B:(BC q r0 base (DD c.pos base c.win)).2.2=true){K g:List AA}
 (O:Fu K (.slice rq L.length rc) L)(h2:Db g (.slice wq (BC q r0 base (DD c.pos base c.win)).1.rows.length wc) (BC q r0 base (DD c.pos base c.win)).1.rows):(IL b id q tn base rq rc L (BC q r0 base (DD c.pos base c.win)) wq wc).ok K g c.pos c.win:=
 ⟨X,U,Z,O,G,m,h2,J,r0,I,Ng B⟩
theorem Ty(p:Option Addr)(n c:Nat)(v f:Value)(hv:v.oneCell'=true/\v.cells=#[v])(B:f.oneCell'=true/\f.cells=#[f])(hn:n<=1000000):BH prog 34 #[.agg #[.slice p n c,v,f]] [] (I4 (1+(n:Int))):=by
 refine Se func34 ntmps34 [0] ?_;intro u R;refine A0<|Ze (Bx #[_,_,_])<|AE fun g=>A3 Y<|A0<|Zh 0 CD V rfl C6 Y<|Zl F1 Y<|Zv (AY B5 Y)<|Ya (m:=1) Y Y<|A3 Y<|AJ<|AO V results34 Y (by exact ⟨V,V⟩)
variable{k cg:Nat}{pg:Option Addr}{ME:List AA}
theorem wX(h:c.ok)(hq:BJ q)(hk:k<c.ns)(Z:k<=1000000)(base:Int)(X:0<=base/\base<=10000)(U:Fu ME (.slice pg L.length cg) L)(I:L.length<=1000000)(B:∀x∈L,x.fits)(J:Eb q L=some r0)(K:¬(c.pos -base).toNat<=c.win.length)(G:TypeId)(O:Nat×Nat):Ba prog 10 #[.pointer (some ⟨c.cp,0,none⟩),.agg #[I4 q.kd,I4 q.tb,I4 q.cl,I4 q.lo,I4 q.hi,I4 q.bq,I4 q.ot,I4 (k:Int),I4 base,.slice pg L.length cg]] [[(c.cp,.cells c.A62 108 (0,0))],c.sW,c.M,ME,[(1,.cells (Lib.pow10Tab.map fun z=>Value.int .u64 z).toArray G O)]] (fun w H'=>w= .bool false/\H'=[[(c.cp,.cells c.A62 108 (0,0))],c.sW,c.M,ME,[(1,.cells (Lib.pow10Tab.map fun z=>Value.int .u64 z).toArray G O)]]):=by
 refine Se func10 ntmps10 [0,1] ?_;intro u R;refine A0<|Ze (Bx #[I4 q.kd,I4 q.tb,I4 q.cl,I4 q.lo,I4 q.hi,I4 q.bq,I4 q.ot,I4 (k:Int),I4 base,.slice pg L.length cg])<|AE fun be=>A3 Y<|Zq<|A0<|Zm Y<|Zv (Be O2 Y Y)<|A5<|AX Y (fun m=>by cases m)<|fun m=>AC<|Zx<|A0<|Zm Y<|Zo Wh (A9 (cs:=#[I4 q.kd,I4 q.tb,I4 q.cl,I4 q.lo,I4 q.hi,I4 q.bq,I4 q.ot,I4 (k:Int),I4 base,.slice pg L.length cg]) SJ HA Y Wn (BK V))<|Zc [_,_] Y call32 Y V (wZ h hq (k:Int) base X U I B J K G O) ?_;rintro _ _ ⟨_,⟨rfl,rfl⟩,rfl⟩;refine Zm Y<|Zd Y V<|Zd Y V<|Zd Y V<|Za Y<|Za Y<|AG Y<|Zn [0,3,5,6,7] ?_;refine Zx<|Zq<|A0<|Zm Y<|Zv (Br Y)<|A5<|AX Y (fun g=>?_) (fun g=>?_);·
  refine A0<|A3 Y<|AJ<|Zt<|AO V results10 Y (by exact ⟨V,V⟩)
 cases g
theorem qN(h:c.ok)(hq:BJ q)(hk:k<c.ns)(ax:k<=1000000)(base:Int)(hb:0<=base/\base<=10000)(X:Fu ME (.slice pg L.length cg) L)(J:L.length<=1000000)(B:∀x∈L,x.fits)(K:Eb q L=some r0)(O:(c.pos -base).toNat<=c.win.length)(G:(BC q r0 base (DD c.pos base c.win)).2.2=false)(I:TypeId)(U:Nat×Nat):Ba prog 10 #[.pointer (some ⟨c.cp,0,none⟩),.agg #[I4 q.kd,I4 q.tb,I4 q.cl,I4 q.lo,I4 q.hi,I4 q.bq,I4 q.ot,I4 (k:Int),I4 base,.slice pg L.length cg]] [[(c.cp,.cells c.A62 108 (0,0))],c.sW,c.M,ME,[(1,.cells (Lib.pow10Tab.map fun z=>Value.int .u64 z).toArray I U)]] (fun w H'=>w= .bool false/\H'=[[(c.cp,.cells c.A62 108 (0,0))],c.sW,c.M,ME,[(1,.cells (Lib.pow10Tab.map fun z=>Value.int .u64 z).toArray I U)]]):=by
 refine Se func10 ntmps10 [0,1] ?_;intro u R;refine A0<|Ze (Bx #[I4 q.kd,I4 q.tb,I4 q.cl,I4 q.lo,I4 q.hi,I4 q.bq,I4 q.ot,I4 (k:Int),I4 base,.slice pg L.length cg])<|AE fun be=>A3 Y<|Zq<|A0<|Zm Y<|Zv (Be O2 Y Y)<|A5<|AX Y (fun m=>by cases m)<|fun m=>AC<|Zx<|A0<|Zm Y<|Zo Wh (A9 (cs:=#[I4 q.kd,I4 q.tb,I4 q.cl,I4 q.lo,I4 q.hi,I4 q.bq,I4 q.ot,I4 (k:Int),I4 base,.slice pg L.length cg]) SJ HA Y Wn (BK V))<|Zc [_,_] Y call32 Y V (RL h hq (k:Int) base hb X J B K O I U) ?_;rintro _ _ ⟨_,⟨b,rq,rc,wq,wc,s1,s2,rfl,Z,af,rfl⟩,rfl⟩;rw [G];refine Zm Y<|Zd Y V<|Zd Y V<|Zd Y V<|Za Y<|Za Y<|AG Y<|Zn [0,3,5,6,7] ?_;refine Zx<|Zq<|A0<|Zm Y<|Zv (Br Y)<|A5<|AX Y (fun g=>?_) (fun g=>?_);·
  refine A0<|A3 Y<|AJ<|Zt<|AO V results10 Y (by exact ⟨V,V⟩)
 cases g
variable{x:ItM}
theorem qM(h:c.ok)(hq:BJ q)(hk:k<c.ns)(bn:k<=1000000)(base:Int)(hb:0<=base/\base<=10000)(hL:Fu ME (.slice pg L.length cg) L)(K:L.length<=1000000)(B:∀x∈L,x.fits)(X:Eb q L=some r0)(Z:(c.pos -base).toNat<=c.win.length)(G:(BC q r0 base (DD c.pos base c.win)).2.2=true)(hx:x∈c.its)(af:x.key=str (Ci q))(cu:base<=x.base)(J:TypeId)(zp:Nat×Nat):Ba prog 10 #[.pointer (some ⟨c.cp,0,none⟩),.agg #[I4 q.kd,I4 q.tb,I4 q.cl,I4 q.lo,I4 q.hi,I4 q.bq,I4 q.ot,I4 (k:Int),I4 base,.slice pg L.length cg]] [[(c.cp,.cells c.A62 108 (0,0))],c.sW,c.M,[(c.mi,.map c.esI c.ckI)],c.SI,ME,[(1,.cells (Lib.pow10Tab.map fun z=>Value.int .u64 z).toArray J zp)]] (fun w H'=>w= .bool true/\H'=[[(c.cp,.cells c.A62 108 (0,0))],c.sW,c.M,[(c.mi,.map c.esI c.ckI)],c.SI,ME,[(1,.cells (Lib.pow10Tab.map fun z=>Value.int .u64 z).toArray J zp)]]):=by
 have U:=h.its.get hx;rw [af]at U;have O:(x.b,Obj.cells x.A61 114 (0,0))∈c.SI:=h.its.sub x hx
 refine Se func10 ntmps10 [0,1] ?_;intro u R;refine A0<|Ze (Bx #[I4 q.kd,I4 q.tb,I4 q.cl,I4 q.lo,I4 q.hi,I4 q.bq,I4 q.ot,I4 (k:Int),I4 base,.slice pg L.length cg])<|AE fun be=>A3 Y<|Zq<|A0<|Zm Y<|Zv (Be O2 Y Y)<|A5<|AX Y (fun m=>by cases m)<|fun m=>AC<|Zx<|A0<|Zm Y<|Zo Wh (A9 (cs:=#[I4 q.kd,I4 q.tb,I4 q.cl,I4 q.lo,I4 q.hi,I4 q.bq,I4 q.ot,I4 (k:Int),I4 base,.slice pg L.length cg]) SJ HA Y Wn (BK V))<|Zc [_,_] Y call32 Y V (RL h hq (k:Int) base hb hL K B X Z J zp) ?_;rintro _ _ ⟨_,⟨b,rq,rc,wq,wc,s1,s2,rfl,ax,bg,rfl⟩,rfl⟩;rw [G];refine Zm Y<|Zd Y V<|Zd Y V<|Zd Y V<|Za Y<|Za Y<|AG Y<|Zn [0,3,5,6,7] ?_;refine Zx<|Zq<|A0<|Zm Y<|Zv (Br Y)<|A5<|AX Y (fun g=>by cases g)<|fun g=>AC<|Zx<|A0<|Zm Y<|Zp Y rfl<|Zh 4 Ek rfl rfl OR Y<|Zl N5 Y<|Zm Y<|Zo Wh (EB (Dk GP (D:=fun _=>True)) Nd Ss h.its.im (fun _ _=>trivial) (trivial) (⟨by rw [U];first|done|rfl,by rw [U];first|done|rfl⟩) Y Y)<|Zm Y<|Zd Y rfl<|Zd Y rfl<|Za Y<|AG Y<|Zn [0,3,5,6,8,9] ?_;refine Zx<|Zq<|AR<|Zq<|Az (n:=12) (0::1::3::7::15::31::63::3::131::511::1023::2047::[]) 0 A6 A6 V<|A2 0 V (AP Y)<|A2 1 V (AP Y)<|CU (t:=36) Y (fun I=>?_) (fun I=>?_);·
  rw [I];refine An 2 V (AP Y)<|An 3 V (Ap Y V)<|An 4 V (AB (off:=0) HO V rfl HA Y)<|An 5 V (AB (off:=8) Ft V rfl A4 Y)<|XJ (D':=127) 6 Y V rfl V (Ee Wo (O)) (BP AD Y AN) ?_;refine An 7 V (AB (off:=8) Ft V rfl A4 Y)<|DH 8 V Wh (BP AD Y AN)<|An 9 V (Ha Y Y)<|A2 10 V (AQ Y Y)<|A2 11 V (Av Y)<|Ag<|Zx<|Aq Y (fun h3=>?_) (fun h3=>?_);·
   refine A0<|AG Y<|Zn [4] ?_;refine Zx<|AJ<|Ad<|Zt<|AO V results10 Y (by exact ⟨V,V⟩)
  exfalso;omega
 rw [I];cases I
set_option maxHeartbeats 1000000 in
theorem qL(h:c.ok)(B:BJ q)(hk:k<c.ns)(qw:k<=1000000)(base:Int)(hb:0<=base/\base<=10000)(hL:Fu ME (.slice pg L.length cg) L)(ic:L.length<=1000000)(bn:∀x∈L,x.fits)(ek:Eb q L=some r0)(o9:(c.pos -base).toNat<=c.win.length)(G:(BC q r0 base (DD c.pos base c.win)).2.2=true)(pz:c.next<1000000000)(ax:∀y∈c.its,y.key≠str (Ci q))(l8:c.its.length<500)(gm:(1+((BC q r0 base (DD c.pos base c.win)).1.rows.length:Int))<=c.z.fr)(Tp:TypeId)(zp:Nat×Nat):Ba prog 10 #[.pointer (some ⟨c.cp,0,none⟩),.agg #[I4 q.kd,I4 q.tb,I4 q.cl,I4 q.lo,I4 q.hi,I4 q.bq,I4 q.ot,I4 (k:Int),I4 base,.slice pg L.length cg]] [[(c.cp,.cells #[I4 c.pos,.slice c.wq c.win.length c.wc,.pointer (some ⟨c.z.r,0,none⟩),.pointer (some ⟨c.ip,0,none⟩),.map (some c.mi),.map (some c.mkb),I4 c.next] 108 (0,0))],c.sW,c.z.S,[(c.mb,.map c.esP c.ckP)],c.su,[(c.ip,.cells #[.map (some c.mq),c.lv] 163 (0,0))],[(c.mq,.map c.esQ c.ckQ)],c.ML,[(c.mi,.map c.esI c.ckI)],[(c.mkb,.map c.esK c.ckK)],c.SI,c.M,c.MR,ME,[(1,.cells (Lib.pow10Tab.map fun z=>Value.int .u64 z).toArray Tp zp)]] (fun w H'=>w= .bool true/\∃(d:CZ) (b:Nat) (rq wq:Option Addr) (rc wc:Nat) (s:List AA),d.ok/\c.like d/\d.next=c.next+1/\d.M=s++c.M/\d.its=c.its++[(IL b (c.next+1) q (k:Int) base rq rc L (BC q r0 base (DD c.pos base c.win)) wq wc)]/\(∀e∈d.PL,e∈c.PL\/e.sz=(1+((BC q r0 base (DD c.pos base c.win)).1.rows.length:Int)))/\H'=[[(d.cp,.cells #[I4 d.pos,.slice d.wq d.win.length d.wc,.pointer (some ⟨d.z.r,0,none⟩),.pointer (some ⟨d.ip,0,none⟩),.map (some d.mi),.map (some d.mkb),I4 d.next] 108 (0,0))],d.sW,d.z.S,[(d.mb,.map d.esP d.ckP)],d.su,[(d.ip,.cells #[.map (some d.mq),d.lv] 163 (0,0))],[(d.mq,.map d.esQ d.ckQ)],d.ML,[(d.mi,.map d.esI d.ckI)],[(d.mkb,.map d.esK d.ckK)],d.SI,d.M,d.MR,ME,[(1,.cells (Lib.pow10Tab.map fun z=>Value.int .u64 z).toArray Tp zp)]]):=by
 have hg:=h.its.none ax;have l9:=h.its.len_eq.length_eq
 rw [B4,B4]at l9;have qa:(BC q r0 base (DD c.pos base c.win)).1.rows.length<=1000000:=by
  obtain ⟨_,qb,qj⟩:=Lb ek;have qy:=h.wl
  have qx:(DD c.pos base c.win).length<=64:=by unfold DD;rw [C2];omega
  have h9:=Od _ 0 (r0,base) _ 1000000000000000000 200 (Ng G) (fun y hy=>by have:=Pd h.tookb (r:=y) (J0 hy);omega) qj AH qb;have qo:(BC q r0 base (DD c.pos base c.win)).1.rows.length<=_:=h9.2
  omega
 refine Se func10 ntmps10 [0,1] ?_;intro u R;refine A0<|Ze (Bx #[I4 q.kd,I4 q.tb,I4 q.cl,I4 q.lo,I4 q.hi,I4 q.bq,I4 q.ot,I4 (k:Int),I4 base,.slice pg L.length cg])<|AE fun be=>A3 Y<|Zq<|A0<|Zm Y<|Zv (Be O2 Y Y)<|A5<|AX Y (fun kv=>by cases kv)<|fun kv=>AC<|Zx<|A0<|Zm Y<|Zo Wh (A9 (cs:=#[I4 q.kd,I4 q.tb,I4 q.cl,I4 q.lo,I4 q.hi,I4 q.bq,I4 q.ot,I4 (k:Int),I4 base,.slice pg L.length cg]) SJ HA Y Wn (BK V))<|Zc [_,_] Y call32 Y V (RL h B (k:Int) base hb hL ic bn ek o9 Tp zp) ?_;rintro _ _ ⟨_,⟨b,rq,rc,wq,wc,s1,s2,rfl,p9,pq,rfl⟩,rfl⟩;rw [G];refine Zm Y<|Zd Y V<|Zd Y V<|Zd Y V<|Za Y<|Za Y<|AG Y<|Zn [0,3,5,6,7] ?_;refine Zx<|Zq<|A0<|Zm Y<|Zv (Br Y)<|A5<|AX Y (fun j3=>by cases j3)<|fun j3=>AC<|Zx<|A0<|Zm Y<|Zp Y rfl<|Zh 4 Ek rfl rfl OR Y<|Zl N5 Y<|Zm Y<|Zo Wh (EB (Dk GP (D:=fun _=>True)) Nd Ss h.its.im (fun _ _=>trivial) (trivial) (⟨by rw [hg];first|done|rfl,by rw [hg];first|done|rfl⟩) Y Y)<|Zm Y<|Zd Y rfl<|Zd Y rfl<|Za Y<|AG Y<|Zn [0,3,5,6,8,9] ?_;refine Zx<|Zq<|AR<|Zq<|Az (n:=12) (0::1::3::7::15::31::63::3::131::511::1023::2047::[]) 0 A6 A6 V<|A2 0 V (AP Y)<|A2 1 V (AP Y)<|CU (t:=36) Y (fun g1=>?_) (fun g1=>?_);·
  rw [g1];cases g1
 rw [g1];refine AF 2 V<|AF 3 V<|AF 4 V<|AF 5 V<|AF 6 V<|AF 7 V<|AF 8 V<|AF 9 V<|A2 10 V (AL Y Y)<|A2 11 V (Av Y)<|Ag<|Zx<|DI Y<|A0<|Zm Y<|AG Y<|Zn [0,5,6,8,46] ?_;refine Zx<|AX Y (fun h4=>by cases h4)<|fun h4=>A0<|Zm Y<|Zp Y V<|Zh 4 Ek V rfl OR Y<|Zl N5 Y<|Zo Wh (QD Nd h.its.im Y)<|Zv (G6 (n:=500) Y Y)<|A3 Y<|Aq Y (fun h5=>by omega)<|fun h5=>AC<|A8<|Zx<|Zq<|GV (s:=c.z.S) Wo (fun hd=>?_);rw [Bl.keys]at hd;refine Az (n:=21) (0::1::3::7::0::16::48::112::240::0::0::1024::3072::7168::15360::32767::65535::131071::131071::262143::1048575::[]) 49152 A6 A6 V<|A2 0 V (AP Y)<|A2 1 V (Ap Y V)<|A2 2 V (AB (off:=2) Ek V rfl sizeOf101 Y)<|B2 3 V K1 Y<|A2 4 V (AP Y)<|A2 5 V (Ap Y V)<|A2 6 V (AB (off:=0) HO V rfl HA Y)<|A2 7 V (AB (off:=7) Ft V rfl A4 Y)<|B2 8 V AD Y<|A2 9 V (AP Y)<|A2 10 V (AP Y)<|A2 11 V (Ap Y V)<|A2 12 V (AB (off:=11) HO V rfl Ax Y)<|E7 13 V Wh (A9 (cs:=#[_,_,_]) Bk Ax Y As (by exact (by apply HD.1;rfl)))<|Yz 14 15360 32767 [13,8,3] [false,true,true] [(8,(_,_)),(3,(_,_))] V Y V rfl V rfl (Zu [_] Y call34 Y V (Ty wq (BC q r0 base (DD c.pos base c.win)).1.rows.length wc (I4 (BC q r0 base (DD c.pos base c.win)).1.val) (.bool (BC q r0 base (DD c.pos base c.win)).1.fnd) ⟨V,V⟩ ⟨V,V⟩ qa))<|CT<|B6<|Zz (l:=[15]) ?_;have lw:∀e∈c.PL,e.key≠str (Ci q):=fun e he hk=>by
  obtain ⟨y,hy,ql⟩:=Bm.1 ((h.pk e.key).1 (DP he));exact ax y hy (ql.trans hk)
 refine B1 [false,false] [] V rfl (Zw [_,_,_,_] Y call33 Y V (wV h.pool hd hk A1 gm (K:=str (Ci q)) lw)) ?_ Bv Ai;rintro _ _ ⟨_,⟨rfl,z2,ep2,cp2,lp2,su2,bp,q9,cO,o8,rfl⟩,rfl⟩;refine B6<|A2 16 V (AP Y)<|A2 17 V (Bz Y V)<|A2 18 V (Bz Y V)<|A2 19 V (Av Y)<|A2 20 V (Av Y)<|Ag<|Zn [0,5,6,10,11] ?_;refine Zx<|Zq<|A0<|Zm Y<|Zv (Br Y)<|A5<|AX Y (fun j5=>by cases j5)<|fun j5=>AC<|Zx<|Zq<|Zq<|BU<|Zg<|Zm Y<|Zm Y<|Ze (Ah (vs:=[_]) (cs:=[_]) D2 Fi HT Y V rfl V rfl V)<|AE fun ga=>Ze (ET (by_:=16) (news:=[_]) D2 (V:Tryz.prog.info? 9=some Tryz.t9) V rfl V rfl Y (Fz 9) Y Wo Wh AN V Fm AH AH AH) ?_;rintro _ _ ⟨sq,p8,rfl⟩;obtain ⟨gq,cq,rfl⟩:=p8.form;rcases p8 with⟨_,h0,_⟩|⟨gq2,capq,curq,zq,hvq,rfl,hleq,hcmq,hcsq,htkq,hfrq⟩
 · cases h0
 injection hvq with hv1 hv2 hv3
 subst hv1 hv3;have l5:curq[0]?=some (.string (str (Ci q))):=by
  have h:=congrArg (fun l=>l[0]?) htkq;simpa using h
 refine Zv (AY D2 Y)<|Zm Y<|A5<|AR<|Zb [90,0,5,6,88,89] ?_;refine BA (e0:=[(90,_)]) (fun m e H=>∃(i:Nat) (bg:Value) (cu:List AA) (Z:Array MapEntry) (O:Nat) (gF:List (Int×Value)) (U:Array MapEntry) (I:Nat) (gy:List (ByteArray×Value)) (X:Array MapEntry) (J:Nat) (gB:List (Int×Value)),m=1 -i/\(i<=1/\GY (if i=0 then c.its else c.its) c.next Z O gF bg cu U I gy X J gB c.SI)/\e=[(90,I4 (i:Int))]/\H=[[(c.ip,.cells #[.map (some c.mq),bg] 163 (0,0))],[(c.mq,.map Z O)],[(c.mi,.map U I)],[(c.mkb,.map X J)]]) (by exact ⟨0,c.lv,c.ML,c.esQ,c.ckQ,c.lmQ,c.esI,c.ckI,c.lmI,c.esK,c.ckK,c.lmK,V,⟨by decide,h.its⟩,V,V⟩) Wp ?_;rintro _ _ _ ⟨i,bg,cu,Z,O,gF,U,I,gy,X,J,gB,rfl,⟨hi,g⟩,rfl,rfl⟩;refine Zq<|BU<|Zg<|Zv (Au Y Y)<|A5<|Zq<|Aq Y (fun af=>?_) (fun af=>?_);·
  obtain rfl:i=0:=by simp at af;omega
  rw [AM rfl]at g;refine AC<|Zx<|Zq<|AR<|Zq<|BU<|Zg<|Bb (BV D2 Fi Y Y (by first|omega|decide|(simp;done)|(simp at af⊢;omega)))<|Zl HQ Y (hv:=by exact l5)<|A3 Y<|Zg<|Zm Y<|Zm Y<|Xr [_,_] Y call35 Y rfl (nC g ax)<|Z0<|A8<|Zx<|BU<|Zg<|Ya (n:=1) Y Y<|Zm Y<|Z0<|Zn [90,0,5,6,88,89] ?_;refine Ab (e':=[(90,_)]) (by exact ⟨1,bg,cu,Z,O,gF,U,I,gy,X,J,gB,rfl,⟨by decide,by rw [AK AH];exact g⟩,rfl,rfl⟩)
 obtain rfl:i=1:=by simp at af;omega
 rw [AK AH]at g;refine Ay<|Zt<|Zt<|AU<|Zx<|A0<|Zm Y<|Zm Y<|Zm Y<|Zc [_,_,_] Y call36 Y V (NH g (x:=(IL b (c.next+1) q (k:Int) base rq rc L (BC q r0 base (DD c.pos base c.win)) wq wc)) ax V pz l8 B) ?_;rintro _ _ ⟨_,⟨rfl,eq5,cq5,lq5,ei5,ci5,li5,ek5,ck5,lk5,d9,rfl⟩,rfl⟩;refine A5<|Zq<|CK (s1:=s2) (s2:=c.MR) Wo Wo ?_;refine CK (s1:=s1) (s2:=c.M) Wo Wo ?_;refine Zg<|A3 Y<|AJ<|AO V results10 Y (by
  refine ⟨rfl,({c with z:=z2,PL:=c.PL++[⟨bp,str (Ci q),(k:Int),(1+((BC q r0 base (DD c.pos base c.win)).1.rows.length:Int))⟩],esP:=ep2,ckP:=cp2,lmP:=lp2,su:=su2,next:=c.next+1,its:=c.its++[(IL b (c.next+1) q (k:Int) base rq rc L (BC q r0 base (DD c.pos base c.win)) wq wc)],esQ:=eq5,ckQ:=cq5,lmQ:=lq5,lv:= .pointer none,ML:=[],esI:=ei5,ckI:=ci5,lmI:=li5,esK:=ek5,ckK:=ck5,lmK:=lk5,SI:=c.SI++[(IL b (c.next+1) q (k:Int) base rq rc L (BC q r0 base (DD c.pos base c.win)) wq wc).ch],M:=s1++c.M,MR:=s2++c.MR}:CZ),b,rq,wq,rc,wc,s1,⟨⟨h.pos,h.win,h.wl,WV h.tookb (fun q B=>by simp [B]),o8,qX h.pk _ _ rfl,d9,fun y hy=>?_⟩,fun y hy=>?_⟩,⟨rfl,rfl,rfl,rfl,cO⟩,rfl,rfl,rfl,fun e he=>(by rcases B9.1 he with h9|h9;exact .inl h9;exact .inr (by rw [BT.1 h9])),?_⟩
  · rcases B9.1 hy with hy|hy
    · exact h.tns y hy
    · rw [BT.1 hy];show _<_;exact (by simp only [IL];omega)
  · rcases B9.1 hy with hy|hy
    · exact (h.all y hy).mono (fun q B=>by simp [B]) (fun q B=>by simp [B])
    · rw [BT.1 hy];exact TL B ⟨by omega,by omega⟩ hb ic bn ek o9 G (p9.mono fun q B=>by simp [B]) (pq.mono fun q B=>by simp [B])
  · simp only [q9];rfl)
set_option maxHeartbeats 1000000 in
theorem kV(h:c.ok)(B:BJ q)(hk:k<c.ns)(y9:k<=1000000)(base:Int)(hb:0<=base/\base<=10000)(hL:Fu ME (.slice pg L.length cg) L)(j5:L.length<=1000000)(U:∀x∈L,x.fits)(gy:Eb q L=some r0)(p9:(c.pos -base).toNat<=c.win.length)(I:(BC q r0 base (DD c.pos base c.win)).2.2=true)(sw:c.next<1000000000)(hx:x∈c.its)(K:x.key=str (Ci q))(zb:x.base<base)(sO:(1+((BC q r0 base (DD c.pos base c.win)).1.rows.length:Int))<=c.z.fr)(Tp:TypeId)(zp:Nat×Nat):Ba prog 10 #[.pointer (some ⟨c.cp,0,none⟩),.agg #[I4 q.kd,I4 q.tb,I4 q.cl,I4 q.lo,I4 q.hi,I4 q.bq,I4 q.ot,I4 (k:Int),I4 base,.slice pg L.length cg]] [[(c.cp,.cells #[I4 c.pos,.slice c.wq c.win.length c.wc,.pointer (some ⟨c.z.r,0,none⟩),.pointer (some ⟨c.ip,0,none⟩),.map (some c.mi),.map (some c.mkb),I4 c.next] 108 (0,0))],c.sW,c.z.S,[(c.mb,.map c.esP c.ckP)],c.su,[(c.ip,.cells #[.map (some c.mq),c.lv] 163 (0,0))],[(c.mq,.map c.esQ c.ckQ)],c.ML,[(c.mi,.map c.esI c.ckI)],[(c.mkb,.map c.esK c.ckK)],c.SI,c.M,c.MR,ME,[(1,.cells (Lib.pow10Tab.map fun z=>Value.int .u64 z).toArray Tp zp)]] (fun w H'=>w= .bool true/\∃(d:CZ) (b:Nat) (rq wq:Option Addr) (rc wc:Nat) (s:List AA),d.ok/\c.like d/\d.next=c.next+1/\d.M=s++c.M/\d.its=(c.its.filter fun y=>y.key≠str (Ci q))++[(IL b (c.next+1) q x.tn base rq rc L (BC q r0 base (DD c.pos base c.win)) wq wc)]/\(∀e∈d.PL,e∈c.PL\/e.sz=(1+((BC q r0 base (DD c.pos base c.win)).1.rows.length:Int)))/\H'=[[(d.cp,.cells #[I4 d.pos,.slice d.wq d.win.length d.wc,.pointer (some ⟨d.z.r,0,none⟩),.pointer (some ⟨d.ip,0,none⟩),.map (some d.mi),.map (some d.mkb),I4 d.next] 108 (0,0))],d.sW,d.z.S,[(d.mb,.map d.esP d.ckP)],d.su,[(d.ip,.cells #[.map (some d.mq),d.lv] 163 (0,0))],[(d.mq,.map d.esQ d.ckQ)],d.ML,[(d.mi,.map d.esI d.ckI)],[(d.mkb,.map d.esK d.ckK)],d.SI,d.M,d.MR,ME,[(1,.cells (Lib.pow10Tab.map fun z=>Value.int .u64 z).toArray Tp zp)]]):=by
 have hg:=h.its.get hx;rw [K]at hg;have l9:(x.b,Obj.cells #[I4 x.q.kd,I4 x.q.tb,I4 x.q.cl,I4 x.q.lo,I4 x.q.hi,I4 x.q.bq,I4 x.q.ot,I4 x.tn,I4 x.base,.slice x.rq x.L.length x.rc,I4 x.id,.slice x.wq x.res.rows.length x.wc,I4 x.res.val,.bool x.res.fnd,I4 x.since] 114 (0,0))∈c.SI:=h.its.sub x hx
 have pz:=h.all x hx;have vo:=h.tns x hx
 obtain ⟨k2,sj⟩:∃k2:Nat,x.tn=(k2:Int):=⟨x.tn.toNat,by have:=pz.tn;omega⟩;obtain ⟨y,hy,gF⟩:=Bm.1 ((h.pk x.key).2 (DP hx));obtain ⟨L1,L2,cO⟩:=V5 hy;have G:=h.pool
 rw [cO]at G;rw [K]at gF;have wz:=h.pool.size hy
 have o9:∀z∈(c.its.filter fun y=>y.key≠str (Ci q)),z.key≠str (Ci q):=fun z hz=>by simpa using(FA.1 hz).2
 have gB:(c.its.filter fun y=>y.key≠str (Ci q)).length<500:=by
  have h1:=h.its.len;have h2:(c.its.filter fun y=>y.key≠str (Ci q)).length<c.its.length:=by
   rcases E0 (c.its.filter fun y=>y.key≠str (Ci q)).length c.its.length with h3|h3
   · exact h3
   · have h4:=TX.eq_of_length (Nat.le_antisymm (On (fun y=>decide (y.key≠str (Ci q))) c.its) h3)
     exact absurd K (o9 x (by rw [h4];exact hx))
  omega
 have sJ:(BC q r0 base (DD c.pos base c.win)).1.rows.length<=1000000:=by
  obtain ⟨_,sM,ve⟩:=Lb gy;have za:=h.wl
  have yt:(DD c.pos base c.win).length<=64:=by unfold DD;rw [C2];omega
  have O:=Od _ 0 (r0,base) _ 1000000000000000000 200 (Ng I) (fun y hy=>by have:=Pd h.tookb (r:=y) (J0 hy);omega) ve AH sM;have y5:(BC q r0 base (DD c.pos base c.win)).1.rows.length<=_:=O.2
  omega
 refine Se func10 ntmps10 [0,1] ?_;intro u R;refine A0<|Ze (Bx #[I4 q.kd,I4 q.tb,I4 q.cl,I4 q.lo,I4 q.hi,I4 q.bq,I4 q.ot,I4 (k:Int),I4 base,.slice pg L.length cg])<|AE fun be=>A3 Y<|Zq<|A0<|Zm Y<|Zv (Be O2 Y Y)<|A5<|AX Y (fun l8=>by cases l8)<|fun l8=>AC<|Zx<|A0<|Zm Y<|Zo Wh (A9 (cs:=#[I4 q.kd,I4 q.tb,I4 q.cl,I4 q.lo,I4 q.hi,I4 q.bq,I4 q.ot,I4 (k:Int),I4 base,.slice pg L.length cg]) SJ HA Y Wn (BK V))<|Zc [_,_] Y call32 Y V (RL h B (k:Int) base hb hL j5 U gy p9 Tp zp) ?_;rintro _ _ ⟨_,⟨b,rq,rc,wq,wc,s1,s2,rfl,qz,r9,rfl⟩,rfl⟩;rw [I];refine Zm Y<|Zd Y V<|Zd Y V<|Zd Y V<|Za Y<|Za Y<|AG Y<|Zn [0,3,5,6,7] ?_;refine Zx<|Zq<|A0<|Zm Y<|Zv (Br Y)<|A5<|AX Y (fun kv=>by cases kv)<|fun kv=>AC<|Zx<|A0<|Zm Y<|Zp Y rfl<|Zh 4 Ek rfl rfl OR Y<|Zl N5 Y<|Zm Y<|Zo Wh (EB (Dk GP (D:=fun _=>True)) Nd Ss h.its.im (fun _ _=>trivial) (trivial) (⟨by rw [hg];first|done|rfl,by rw [hg];first|done|rfl⟩) Y Y)<|Zm Y<|Zd Y rfl<|Zd Y rfl<|Za Y<|AG Y<|Zn [0,3,5,6,8,9] ?_;refine Zx<|Zq<|AR<|Zq<|Az (n:=12) (0::1::3::7::15::31::63::3::131::511::1023::2047::[]) 0 A6 A6 V<|A2 0 V (AP Y)<|A2 1 V (AP Y)<|CU (t:=36) Y (fun g1=>?_) (fun g1=>?_);·
  rw [g1];refine An 2 V (AP Y)<|An 3 V (Ap Y V)<|An 4 V (AB (off:=0) HO V rfl HA Y)<|An 5 V (AB (off:=8) Ft V rfl A4 Y)<|XJ (D':=127) 6 Y V rfl V (Ee Wo (l9)) (BP AD Y AN) ?_;refine An 7 V (AB (off:=8) Ft V rfl A4 Y)<|DH 8 V Wh (BP AD Y AN)<|An 9 V (Ha Y Y)<|A2 10 V (AQ Y Y)<|A2 11 V (Av Y)<|Ag<|Zx<|Aq Y (fun h3=>by omega)<|fun h3=>A0<|Zm Y<|AG Y<|Zn [0,5,6,8,46] ?_;refine Zx<|AX Y (fun h4=>?_) (fun h4=>?_);·
   refine Zg<|Zm Y<|Zm Y<|Zp Y V<|Zh 0 HO V rfl HA Y<|Zh 7 Ft V rfl A4 Y<|CS (I1 Wo (l9)) (BP AD Y AN) V rfl<|Zp Y V<|Zh 0 HO V rfl HA Y<|Zh 7 Ft V rfl A4 Y<|Xe (Zs A4 Y Y V (hi:=by(simp;done)))<|Z0<|A8<|Zx<|Zq<|GV (s:=c.z.S) Wo (fun hd=>?_);rw [Bl.keys]at hd;refine Az (n:=21) (0::1::3::7::0::16::48::112::240::0::0::1024::3072::7168::15360::32767::65535::131071::131071::262143::1048575::[]) 49152 A6 A6 V<|A2 0 V (AP Y)<|A2 1 V (Ap Y V)<|A2 2 V (AB (off:=2) Ek V rfl sizeOf101 Y)<|B2 3 V K1 Y<|A2 4 V (AP Y)<|A2 5 V (Ap Y V)<|A2 6 V (AB (off:=0) HO V rfl HA Y)<|A2 7 V (AB (off:=7) Ft V rfl A4 Y)<|B2 8 V AD Y<|A2 9 V (AP Y)<|A2 10 V (AP Y)<|A2 11 V (Ap Y V)<|A2 12 V (AB (off:=11) HO V rfl Ax Y)<|E7 13 V Wh (A9 (cs:=#[_,_,_]) Bk Ax Y As (by exact (by apply HD.1;rfl)))<|Yz 14 15360 32767 [13,8,3] [false,true,true] [(8,(_,_)),(3,(_,_))] V Y V rfl V rfl (Zu [_] Y call34 Y V (Ty wq (BC q r0 base (DD c.pos base c.win)).1.rows.length wc (I4 (BC q r0 base (DD c.pos base c.win)).1.val) (.bool (BC q r0 base (DD c.pos base c.win)).1.fnd) ⟨V,V⟩ ⟨V,V⟩ sJ))<|CT<|B6<|Zz (l:=[15]) ?_;have X:=wU G hd (k:=k2) A1 (sz:=(1+((BC q r0 base (DD c.pos base c.win)).1.rows.length:Int))) A1 A1
   rw [<-sj,gF]at X;refine B1 [false,false] [] V rfl (Zw [_,_,_,_] Y call33 Y V (X)) ?_ Bv Ai;rintro _ _ ⟨_,⟨rfl,z2,ep2,cp2,lp2,su2,bp,sF,d9,p8,rfl⟩,rfl⟩;refine B6<|A2 16 V (AP Y)<|A2 17 V (Bz Y V)<|A2 18 V (Bz Y V)<|A2 19 V (Av Y)<|A2 20 V (Av Y)<|Ag<|Zn [0,5,6,10,11] ?_;refine Zx<|Zq<|A0<|Zm Y<|Zv (Br Y)<|A5<|AX Y (fun l5=>by cases l5)<|fun l5=>AC<|Zx<|Zq<|Zq<|BU<|Zg<|Zm Y<|Zm Y<|Ze (Ah (vs:=[_]) (cs:=[_]) D2 Fi HT Y V rfl V rfl V)<|AE fun ga=>Ze (ET (by_:=16) (news:=[_]) D2 (V:Tryz.prog.info? 9=some Tryz.t9) V rfl V rfl Y (Fz 9) Y Wo Wh AN V Fm AH AH AH) ?_;rintro _ _ ⟨sq,pq,rfl⟩;obtain ⟨gq,cq,rfl⟩:=pq.form;rcases pq with⟨_,h0,_⟩|⟨gq2,capq,curq,zq,hvq,rfl,hleq,hcmq,hcsq,htkq,hfrq⟩
   · cases h0
   injection hvq with hv1 hv2 hv3
   subst hv1 hv3;have lw:curq[0]?=some (.string (str (Ci q))):=by
    have h:=congrArg (fun l=>l[0]?) htkq;simpa using h
   refine Zv (AY D2 Y)<|Zm Y<|A5<|AR<|Zb [90,0,5,6,88,89] ?_;refine BA (e0:=[(90,_)]) (fun m e H=>∃(i:Nat) (ic:Value) (j3:List AA) (cu:Array MapEntry) (ax:Nat) (qb:List (Int×Value)) (bg:Array MapEntry) (Z:Nat) (q9:List (ByteArray×Value)) (bn:Array MapEntry) (af:Nat) (qa:List (Int×Value)),m=1 -i/\(i<=1/\GY (if i=0 then c.its else(c.its.filter fun y=>y.key≠str (Ci q))) c.next cu ax qb ic j3 bg Z q9 bn af qa c.SI)/\e=[(90,I4 (i:Int))]/\H=[[(c.ip,.cells #[.map (some c.mq),ic] 163 (0,0))],[(c.mq,.map cu ax)],[(c.mi,.map bg Z)],[(c.mkb,.map bn af)]]) (by exact ⟨0,c.lv,c.ML,c.esQ,c.ckQ,c.lmQ,c.esI,c.ckI,c.lmI,c.esK,c.ckK,c.lmK,V,⟨by decide,h.its⟩,V,V⟩) Wp ?_;rintro _ _ _ ⟨i,ic,j3,cu,ax,qb,bg,Z,q9,bn,af,qa,rfl,⟨hi,g⟩,rfl,rfl⟩;refine Zq<|BU<|Zg<|Zv (Au Y Y)<|A5<|Zq<|Aq Y (fun J=>?_) (fun J=>?_);·
    obtain rfl:i=0:=by simp at J;omega
    rw [AM rfl]at g;refine AC<|Zx<|Zq<|AR<|Zq<|BU<|Zg<|Bb (BV D2 Fi Y Y (by first|omega|decide|(simp;done)|(simp at J⊢;omega)))<|Zl HQ Y (hv:=by exact lw)<|A3 Y<|Zg<|Zm Y<|Zm Y ?_;have o8:=Vw (cp:=c.cp) (r:=c.z.r) (ip:=c.ip) (mi:=c.mi) (mk:=c.mkb) (mq:=c.mq) (pos:=c.pos) (wv:= .slice c.wq c.win.length c.wc) g hx
    rw [K]at o8;refine Zc [_,_] Y call35 Y V (o8) ?_;rintro _ _ ⟨_,⟨rfl,qy,qo,wo,qw,qj,vw,qx,ql,vz,gm,rfl⟩,rfl⟩;refine Z0<|A8<|Zx<|BU<|Zg<|Ya (n:=1) Y Y<|Zm Y<|Z0<|Zn [90,0,5,6,88,89] ?_;refine Ab (e':=[(90,_)]) (by exact ⟨1,_,[],qy,qo,wo,qw,qj,vw,qx,ql,vz,rfl,⟨by decide,by rw [AK AH];exact gm⟩,rfl,rfl⟩)
   obtain rfl:i=1:=by simp at J;omega
   rw [AK AH]at g;refine Ay<|Zt<|Zt<|AU<|Zx<|A0<|Zm Y<|Zm Y<|Zm Y<|Zc [_,_,_] Y call36 Y V (NH g (x:=(IL b (c.next+1) q x.tn base rq rc L (BC q r0 base (DD c.pos base c.win)) wq wc)) o9 V sw gB B) ?_;rintro _ _ ⟨_,⟨rfl,eq5,cq5,lq5,ei5,ci5,li5,ek5,ck5,lk5,ek,rfl⟩,rfl⟩;refine A5<|Zq<|CK (s1:=s2) (s2:=c.MR) Wo Wo ?_;refine CK (s1:=s1) (s2:=c.M) Wo Wo ?_;refine Zg<|A3 Y<|AJ<|AO V results10 Y (by
    refine ⟨rfl,({c with z:=z2,PL:=L1++L2++[⟨bp,str (Ci q),x.tn,(1+((BC q r0 base (DD c.pos base c.win)).1.rows.length:Int))⟩],esP:=ep2,ckP:=cp2,lmP:=lp2,su:=su2,next:=c.next+1,its:=(c.its.filter fun y=>y.key≠str (Ci q))++[(IL b (c.next+1) q x.tn base rq rc L (BC q r0 base (DD c.pos base c.win)) wq wc)],esQ:=eq5,ckQ:=cq5,lmQ:=lq5,lv:= .pointer none,ML:=[],esI:=ei5,ckI:=ci5,lmI:=li5,esK:=ek5,ckK:=ck5,lmK:=lk5,SI:=c.SI++[(IL b (c.next+1) q x.tn base rq rc L (BC q r0 base (DD c.pos base c.win)) wq wc).ch],M:=s1++c.M,MR:=s2++c.MR}:CZ),b,rq,wq,rc,wc,s1,⟨⟨h.pos,h.win,h.wl,WV h.tookb (fun q B=>by simp [B]),p8,qX (VR h.pk cO h.pool.keys gF) _ _ rfl,ek,fun y hy=>?_⟩,fun y hy=>?_⟩,⟨rfl,rfl,rfl,rfl,d9⟩,rfl,rfl,rfl,fun e he=>(by rcases B9.1 he with O|O;exact .inl (by rw [cO];rcases B9.1 O with O|O<;>simp [O]);exact .inr (by rw [BT.1 O])),?_⟩
    · rcases B9.1 hy with hy|hy
      · exact h.tns y (FA.1 hy).1
      · rw [BT.1 hy];show _<_;exact vo
    · rcases B9.1 hy with hy|hy
      · exact (h.all y (FA.1 hy).1).mono (fun q B=>by simp [B]) (fun q B=>by simp [B])
      · rw [BT.1 hy];exact TL B pz.tn hb j5 U gy p9 I (qz.mono fun q B=>by simp [B]) (r9.mono fun q B=>by simp [B])
    · simp only [sF];rfl)
  cases h4
 rw [g1];cases g1
variable{s:List AA}
theorem Pg{b:Nat}{o o':Obj}(h:(b,o)∈s):(b,o')∈IQ b o' s:=Bm.2 ⟨_,h,AM rfl⟩
theorem Uv(b:Nat)(o o':Obj)(s:List AA):IQ b o' (IQ b o s)=IQ b o' s:=by
 unfold IQ;rw [Kf];refine Vc fun p _=>?_;show(if(if p.1=b then(b,o)else p).1=b then(b,o')else(if p.1=b then(b,o)else p))=if p.1=b then(b,o')else p
 by_cases h:p.1=b
 · simp only [AM h,HR]
 · simp only [AK h]
def ItM.upd(x:ItM)(p:Int)(cs:List Chg)(wq:Option Addr)(wc:Nat):ItM:={x with res:=(BX x.q x.res cs).1,wq:=wq,wc:=wc,since:=p}
structure ItM.live(MR:List AA)(x:ItM):Prop where
 q:BJ x.q
 rw:Db MR (.slice x.wq x.res.rows.length x.wc) x.res.rows
 wn:x.res.rows.length<=10000000
 wv:-2000000000000000000<=x.res.val/\x.res.val<=2000000000000000000
theorem ItM.ok.live(h:c.okb)(hx:x.ok c.M c.MR c.pos c.win):x.live c.MR:=by
 obtain ⟨r0,m,g⟩:=hx.run;obtain ⟨_,B,G⟩:=Lb m;have U:=h.wl
 have O:(DD c.pos x.base c.win).length<=64:=by unfold DD;rw [C2];omega
 have I:=Od _ 0 (r0,x.base) _ 1000000000000000000 200 g (fun y hy=>by have:=Pd h (r:=y) (J0 hy);omega) G AH B;have J:x.res.rows.length<=_:=I.2
 have K:_<=x.res.val/\x.res.val<=_:=I.1;exact ⟨hx.q,hx.rw,by omega,by omega,by omega⟩
variable{d:CZ}{qa:Option Addr}{cap:Nat}{cs:List Chg}{tl:List ByteArray}{tv:Value}{st:List AA}
set_option maxHeartbeats 1000000 in
theorem nz(h:d.okb)(hx:x∈d.its)(O:x.live d.MR)(p:Int)(hC:Ck ME (.slice qa cs.length cap) cs)(Z:cs.length<=1000)(U:(BX x.q x.res cs).2.2=true)(hT:Row 9 tv (tl.map Value.string) st)(gq:tl.length<=1000000)(bt br bc:Nat):Ba prog 42 #[.string x.key,.pointer (some ⟨x.b,0,none⟩),I5 bt,I5 br,I5 bc] [[(bt,.cells #[tv] 45 (0,0))],[(br,.cells #[I4 p,.slice qa cs.length cap] 50 (0,0))],[(bc,.cells #[.pointer (some ⟨d.cp,0,none⟩)] 37 (0,0))],st,[(d.cp,.cells d.A62 108 (0,0))],d.sW,d.z.S,[(d.mb,.map d.esP d.ckP)],d.su,[(d.ip,.cells #[.map (some d.mq),d.lv] 163 (0,0))],[(d.mq,.map d.esQ d.ckQ)],d.ML,[(d.mi,.map d.esI d.ckI)],[(d.mkb,.map d.esK d.ckK)],d.SI,d.M,d.MR,ME] (fun v H'=>v=undef/\∃wq wc cu bg s,Row 9 cu ((tl++[x.key]).map Value.string) bg/\Db s (.slice wq (BX x.q x.res cs).1.rows.length wc) (BX x.q x.res cs).1.rows/\(d.SI.map (·.1)).Nodup/\H'=[[(bt,.cells #[cu] 45 (0,0))],[(br,.cells #[I4 p,.slice qa cs.length cap] 50 (0,0))],[(bc,.cells #[.pointer (some ⟨d.cp,0,none⟩)] 37 (0,0))],bg,[(d.cp,.cells d.A62 108 (0,0))],d.sW,d.z.S,[(d.mb,.map d.esP d.ckP)],d.su,[(d.ip,.cells #[.map (some d.mq),d.lv] 163 (0,0))],[(d.mq,.map d.esQ d.ckQ)],d.ML,[(d.mi,.map d.esI d.ckI)],[(d.mkb,.map d.esK d.ckK)],IQ x.b (x.upd p cs wq wc).obj d.SI,d.M,s++d.MR,ME]):=by
 have gm:=mL;have B:(x.b,Obj.cells x.A61 114 (0,0))∈d.SI:=h.its.sub x hx
 obtain ⟨gt,ct,rfl⟩:=hT.form;refine Se func42 ntmps42 [0,1,2,3,4] ?_;intro u R;refine Zq<|GV (s:=d.SI) Wo (fun af=>?_);refine Zg<|Zl Hc Y<|Zm Y<|Ze (Ah (vs:=[_]) (cs:=[_]) D2 Fi HT Y V rfl V rfl V)<|AE fun gb=>Ze (ET (by_:=16) (news:=[_]) D2 (V:Tryz.prog.info? 9=some Tryz.t9) V rfl V rfl Y hT Y Wo Wh AN V Fm AH (by(simp only [B4];omega)) (by(simp only [B4];omega))) ?_;rintro _ _ ⟨ax,K,rfl⟩;obtain ⟨ek,d9,rfl⟩:=K.form;refine Xe (Zs HB Y Y V)<|A5<|Zq<|Az (n:=19) (0::1::3::7::15::0::32::96::224::0::1023::2047::4095::4095::4095::0::40959::114687::262143::[]) 99328 A6 A6 V<|A2 0 V (AP Y)<|A2 1 V (Ap Y V)<|A2 2 V (AB (off:=0) HO V rfl HA Y)<|A2 3 V (Ar (off:=0) Ft V rfl C7 Y)<|CQ (D':=31) 4 V rfl V (Ee Wo (B)) (A9 (cs:=#[_,_,_,_,_,_,_]) Dd C7 Y As (by exact (by apply HD.1;rfl))) ?_;refine A2 5 V (AP Y)<|A2 6 V (Ap Y V)<|A2 7 V (AB (off:=11) HO V rfl Ax Y)<|CQ (D':=511) 8 V rfl V (Ee Wo (B)) (A9 (cs:=#[_,_,_]) Bk Ax Y As (by exact (by apply HD.1;rfl))) ?_;refine E7 9 V Wh (A9 (cs:=#[_,_]) HX F0 Y As (BK V))<|Zz (l:=[10,15])<|B1 [false,false,false] [] V rfl (Zw [_,_,_] Y call43 Y V (JO x.q O.q p qa cap cs hC Z O.rw O.wn O.wv)) ?_ Bv ?_;·
  rintro _ _ ⟨_,⟨cO,s3,rfl,g,rfl⟩,rfl⟩;refine ⟨Aa,?_⟩;obtain ⟨G,m,rfl⟩:=g.form;rw [U];refine A2 11 V (AP Y)<|A2 12 V (Bz Y V)<|A2 13 V (Bz Y V)<|A2 14 V (Bz Y V)<|Zz (l:=[15])<|B1 [] [] V rfl (Al GC #[_,_,_]) ?_ (fun _ _ h=>h.elim) Ai;rintro _ _ ⟨bn,rfl,rfl⟩;refine B6<|Yw 16 131071 V (Xw Ax #[.slice G (BX x.q x.res cs).1.rows.length m,I4 (BX x.q x.res cs).1.val,.bool (BX x.q x.res cs).1.fnd])<|CT<|A2 17 V (Av Y)<|A2 18 V (Av Y)<|Ag<|Zn [0,1,3,4,7,9] ?_;refine Zx<|Zq<|A0<|Zm Y<|Zv (Br Y)<|A5<|AX Y (fun I=>by cases I)<|fun I=>AC<|Zx ?_;have X:=Ma g
  have J:(x.b,Obj.cells #[I4 x.q.kd,I4 x.q.tb,I4 x.q.cl,I4 x.q.lo,I4 x.q.hi,I4 x.q.bq,I4 x.q.ot,I4 x.tn,I4 x.base,.slice x.rq x.L.length x.rc,I4 x.id,.slice G (BX x.q x.res cs).1.rows.length m,I4 (BX x.q x.res cs).1.val,.bool (BX x.q x.res cs).1.fnd,I4 x.since] 114 (0,0))∈IQ x.b (.cells #[I4 x.q.kd,I4 x.q.tb,I4 x.q.cl,I4 x.q.lo,I4 x.q.hi,I4 x.q.bq,I4 x.q.ot,I4 x.tn,I4 x.base,.slice x.rq x.L.length x.rc,I4 x.id,.slice G (BX x.q x.res cs).1.rows.length m,I4 (BX x.q x.res cs).1.val,.bool (BX x.q x.res cs).1.fnd,I4 x.since] 114 (0,0)) d.SI:=Pg B;refine CK (s1:=s3) (s2:=d.MR) Wo Wo ?_;refine Az (n:=11) (0::0::0::0::8::5::37::101::255::511::1023::[]) 1152 A6 A6 rfl<|A2 0 rfl (AP Y)<|A2 1 rfl (AP Y)<|E7 2 rfl Wh (A9 (cs:=#[_,_,_]) Bk Ax Y As (BK rfl))<|A2 3 rfl (AB (off:=0) G3 rfl rfl A4 Y)<|B2 4 rfl AD Y<|A2 5 rfl (Ap Y rfl)<|A2 6 rfl (AB (off:=11) HO rfl rfl Ax Y)<|Zz (l:=[7])<|B1 [true,false] [(4,(_,_))] rfl rfl (OG Ax Y Y HK Wo (B) (by exact congrArg (fun a=>IQ x.b (Obj.cells a 114 (0,0)) d.SI) (rfl:_=(#[I4 x.q.kd,I4 x.q.tb,I4 x.q.cl,I4 x.q.lo,I4 x.q.hi,I4 x.q.bq,I4 x.q.ot,I4 x.tn,I4 x.base,.slice x.rq x.L.length x.rc,I4 x.id,.slice G (BX x.q x.res cs).1.rows.length m,I4 (BX x.q x.res cs).1.val,.bool (BX x.q x.res cs).1.fnd,I4 x.since]:Array Value))) E6 As (by exact BB _)) ?_ (fun _ _ h=>h.elim) Ai;rintro _ _ ⟨rfl,rfl⟩;refine B6<|A2 8 V (Ap Y V)<|A2 9 V (AB (off:=14) HO V rfl A4 Y)<|Zz (l:=[10])<|B1 [false] [] V rfl (Gn A4 Y Y V Wo (J) (by exact (Uv _ _ _ _).trans (congrArg (fun a=>IQ x.b (Obj.cells a 114 (0,0)) d.SI) (V:_=(#[I4 x.q.kd,I4 x.q.tb,I4 x.q.cl,I4 x.q.lo,I4 x.q.hi,I4 x.q.bq,I4 x.q.ot,I4 x.tn,I4 x.base,.slice x.rq x.L.length x.rc,I4 x.id,.slice G (BX x.q x.res cs).1.rows.length m,I4 (BX x.q x.res cs).1.val,.bool (BX x.q x.res cs).1.fnd,I4 p]:Array Value)))) As (by exact BB _)) ?_ (fun _ _ h=>h.elim) Ai;rintro _ _ ⟨rfl,rfl⟩
  refine B6<|Ag<|Cw rfl results42 (by exact ⟨rfl,G,m,_,ax,s3,(by rw [BW];exact K),DU g X,af,rfl⟩)
 refine B1 [true,true,true] [(9,(_,_)),(8,(_,_)),(4,(_,_))] V rfl (Al GC #[_,_,_]) ?_ (fun _ _ h=>h.elim) Ai;rintro _ _ ⟨bn,rfl,rfl⟩;refine ⟨Zk (FK (by simp [*]) (FK (by simp [*]) (Aa))),?_⟩;refine Zz (l:=[10])<|B1 [false,false,false] [] V rfl (Zw [_,_,_] Y call43 Y V (JO x.q O.q p qa cap cs hC Z O.rw O.wn O.wv)) ?_ Bv Ai;rintro _ _ ⟨_,⟨cO,s3,rfl,g,rfl⟩,rfl⟩;refine ⟨Aa,?_⟩;obtain ⟨G,m,rfl⟩:=g.form;rw [U];refine A2 11 V (AP Y)<|A2 12 V (Bz Y V)<|A2 13 V (Bz Y V)<|A2 14 V (Bz Y V)<|Zz (l:=[16])<|B1 [] [] V rfl (Xw Ax #[.slice G (BX x.q x.res cs).1.rows.length m,I4 (BX x.q x.res cs).1.val,.bool (BX x.q x.res cs).1.fnd]) ?_ (fun _ _ h=>h.elim) Ai;rintro _ _ ⟨rfl,rfl⟩;refine B6<|A2 17 V (Av Y)<|A2 18 V (Av Y)<|Ag<|Zn [0,1,3,4,7,9] ?_;refine Zx<|Zq<|A0<|Zm Y<|Zv (Br Y)<|A5<|AX Y (fun I=>by cases I)<|fun I=>AC<|Zx ?_;have X:=Ma g
 have J:(x.b,Obj.cells #[I4 x.q.kd,I4 x.q.tb,I4 x.q.cl,I4 x.q.lo,I4 x.q.hi,I4 x.q.bq,I4 x.q.ot,I4 x.tn,I4 x.base,.slice x.rq x.L.length x.rc,I4 x.id,.slice G (BX x.q x.res cs).1.rows.length m,I4 (BX x.q x.res cs).1.val,.bool (BX x.q x.res cs).1.fnd,I4 x.since] 114 (0,0))∈IQ x.b (.cells #[I4 x.q.kd,I4 x.q.tb,I4 x.q.cl,I4 x.q.lo,I4 x.q.hi,I4 x.q.bq,I4 x.q.ot,I4 x.tn,I4 x.base,.slice x.rq x.L.length x.rc,I4 x.id,.slice G (BX x.q x.res cs).1.rows.length m,I4 (BX x.q x.res cs).1.val,.bool (BX x.q x.res cs).1.fnd,I4 x.since] 114 (0,0)) d.SI:=Pg B;refine CK (s1:=s3) (s2:=d.MR) Wo Wo ?_;refine Az (n:=11) (0::0::0::0::8::5::37::101::255::511::1023::[]) 1152 A6 A6 rfl<|A2 0 rfl (AP Y)<|A2 1 rfl (AP Y)<|E7 2 rfl Wh (A9 (cs:=#[_,_,_]) Bk Ax Y As (BK rfl))<|A2 3 rfl (AB (off:=0) G3 rfl rfl A4 Y)<|B2 4 rfl AD Y<|A2 5 rfl (Ap Y rfl)<|A2 6 rfl (AB (off:=11) HO rfl rfl Ax Y)<|Zz (l:=[7])<|B1 [true,false] [(4,(_,_))] rfl rfl (OG Ax Y Y HK Wo (B) (by exact congrArg (fun a=>IQ x.b (Obj.cells a 114 (0,0)) d.SI) (rfl:_=(#[I4 x.q.kd,I4 x.q.tb,I4 x.q.cl,I4 x.q.lo,I4 x.q.hi,I4 x.q.bq,I4 x.q.ot,I4 x.tn,I4 x.base,.slice x.rq x.L.length x.rc,I4 x.id,.slice G (BX x.q x.res cs).1.rows.length m,I4 (BX x.q x.res cs).1.val,.bool (BX x.q x.res cs).1.fnd,I4 x.since]:Array Value))) E6 As (by exact BB _)) ?_ (fun _ _ h=>h.elim) Ai;rintro _ _ ⟨rfl,rfl⟩;refine B6<|A2 8 V (Ap Y V)<|A2 9 V (AB (off:=14) HO V rfl A4 Y)<|Zz (l:=[10])<|B1 [false] [] V rfl (Gn A4 Y Y V Wo (J) (by exact (Uv _ _ _ _).trans (congrArg (fun a=>IQ x.b (Obj.cells a 114 (0,0)) d.SI) (V:_=(#[I4 x.q.kd,I4 x.q.tb,I4 x.q.cl,I4 x.q.lo,I4 x.q.hi,I4 x.q.bq,I4 x.q.ot,I4 x.tn,I4 x.base,.slice x.rq x.L.length x.rc,I4 x.id,.slice G (BX x.q x.res cs).1.rows.length m,I4 (BX x.q x.res cs).1.val,.bool (BX x.q x.res cs).1.fnd,I4 p]:Array Value)))) As (by exact BB _)) ?_ (fun _ _ h=>h.elim) Ai;rintro _ _ ⟨rfl,rfl⟩
 refine B6<|Ag<|Cw rfl results42 (by exact ⟨rfl,G,m,_,ax,s3,(by rw [BW];exact K),DU g X,af,rfl⟩)
set_option maxHeartbeats 1000000 in
theorem o5(h:d.okb)(hx:x∈d.its)(G:x.live d.MR)(p:Int)(hC:Ck ME (.slice qa cs.length cap) cs)(bg:cs.length<=1000)(I:(BX x.q x.res cs).2.2=false)(hT:Row 9 tv (tl.map Value.string) st)(gq:tl.length<=1000000)(bt br bc:Nat):Ba prog 42 #[.string x.key,.pointer (some ⟨x.b,0,none⟩),I5 bt,I5 br,I5 bc] [[(bt,.cells #[tv] 45 (0,0))],[(br,.cells #[I4 p,.slice qa cs.length cap] 50 (0,0))],[(bc,.cells #[.pointer (some ⟨d.cp,0,none⟩)] 37 (0,0))],st,[(d.cp,.cells d.A62 108 (0,0))],d.sW,d.z.S,[(d.mb,.map d.esP d.ckP)],d.su,[(d.ip,.cells #[.map (some d.mq),d.lv] 163 (0,0))],[(d.mq,.map d.esQ d.ckQ)],d.ML,[(d.mi,.map d.esI d.ckI)],[(d.mkb,.map d.esK d.ckK)],d.SI,d.M,d.MR,ME] (fun v H'=>v=undef/\∃(d2:CZ) (tv':Value) (st':List AA),d2.okb/\d.like d2/\d2.next=d.next/\(d2.M=d.M/\d2.MR=d.MR)/\d2.SI=d.SI/\d2.its=(d.its.filter fun y=>y.key≠x.key)/\(∀e∈d2.PL,e∈d.PL)/\Row 9 tv' ((tl++[x.key]).map Value.string) st'/\H'=[[(bt,.cells #[tv'] 45 (0,0))],[(br,.cells #[I4 p,.slice qa cs.length cap] 50 (0,0))],[(bc,.cells #[.pointer (some ⟨d.cp,0,none⟩)] 37 (0,0))],st',[(d2.cp,.cells d2.A62 108 (0,0))],d2.sW,d2.z.S,[(d2.mb,.map d2.esP d2.ckP)],d2.su,[(d2.ip,.cells #[.map (some d2.mq),d2.lv] 163 (0,0))],[(d2.mq,.map d2.esQ d2.ckQ)],d2.ML,[(d2.mi,.map d2.esI d2.ckI)],[(d2.mkb,.map d2.esK d2.ckK)],d2.SI,d2.M,d2.MR,ME]):=by
 have gm:=mL;have ax:(x.b,Obj.cells x.A61 114 (0,0))∈d.SI:=h.its.sub x hx
 obtain ⟨gt,ct,rfl⟩:=hT.form;refine Se func42 ntmps42 [0,1,2,3,4] ?_;intro u R;refine A0<|Zl Hc Y<|Zm Y<|Ze (Ah (vs:=[_]) (cs:=[_]) D2 Fi HT Y V rfl V rfl V)<|AE fun gb=>Ze (ET (by_:=16) (news:=[_]) D2 (V:Tryz.prog.info? 9=some Tryz.t9) V rfl V rfl Y hT Y Wo Wh AN V Fm AH (by(simp only [B4];omega)) (by(simp only [B4];omega))) ?_;rintro _ _ ⟨cu,B,rfl⟩;obtain ⟨ek,d9,rfl⟩:=B.form;refine Xe (Zs HB Y Y V)<|A5<|Zq<|Az (n:=19) (0::1::3::7::15::0::32::96::224::0::1023::2047::4095::4095::4095::0::40959::114687::262143::[]) 99328 A6 A6 V<|A2 0 V (AP Y)<|A2 1 V (Ap Y V)<|A2 2 V (AB (off:=0) HO V rfl HA Y)<|A2 3 V (Ar (off:=0) Ft V rfl C7 Y)<|CQ (D':=31) 4 V rfl V (Ee Wo (ax)) (A9 (cs:=#[_,_,_,_,_,_,_]) Dd C7 Y As (by exact (by apply HD.1;rfl))) ?_;refine A2 5 V (AP Y)<|A2 6 V (Ap Y V)<|A2 7 V (AB (off:=11) HO V rfl Ax Y)<|CQ (D':=511) 8 V rfl V (Ee Wo (ax)) (A9 (cs:=#[_,_,_]) Bk Ax Y As (by exact (by apply HD.1;rfl))) ?_;refine E7 9 V Wh (A9 (cs:=#[_,_]) HX F0 Y As (BK V))<|Zz (l:=[10,15])<|B1 [false,false,false] [] V rfl (Zw [_,_,_] Y call43 Y V (JO x.q G.q p qa cap cs hC bg G.rw G.wn G.wv)) ?_ Bv ?_;·
  rintro _ _ ⟨_,⟨cO,s3,rfl,g,rfl⟩,rfl⟩;refine ⟨Aa,?_⟩;obtain ⟨w3,c3,rfl⟩:=g.form;rw [I];refine A2 11 V (AP Y)<|A2 12 V (Bz Y V)<|A2 13 V (Bz Y V)<|A2 14 V (Bz Y V)<|Zz (l:=[15])<|B1 [] [] V rfl (Al GC #[_,_,_]) ?_ (fun _ _ h=>h.elim) Ai;rintro _ _ ⟨bn,rfl,rfl⟩;refine B6<|Yw 16 131071 V (Xw Ax #[.slice w3 (BX x.q x.res cs).1.rows.length c3,I4 (BX x.q x.res cs).1.val,.bool (BX x.q x.res cs).1.fnd])<|CT<|A2 17 V (Av Y)<|A2 18 V (Av Y)<|Ag<|Zn [0,1,3,4,7,9] ?_;refine Zx<|Zq<|A0<|Zm Y<|Zv (Br Y)<|A5<|AX Y (fun m=>?_) (fun m=>?_);·
   refine A0<|Zl KB Y<|Zm Y<|Zc [_,_] Y call44 Y V (Xb h hx) ?_;rintro _ _ ⟨_,⟨rfl,d2,J,K,O,U,X,_,Z,af,rfl⟩,rfl⟩;refine A5<|AJ<|Zt<|Cw rfl results42 (by exact ⟨rfl,d2,_,cu,J,K,O,U,X,Z,af,(by rw [BW];exact B),rfl⟩)
  cases m
 refine B1 [true,true,true] [(9,(_,_)),(8,(_,_)),(4,(_,_))] V rfl (Al GC #[_,_,_]) ?_ (fun _ _ h=>h.elim) Ai;rintro _ _ ⟨bn,rfl,rfl⟩;refine ⟨Zk (FK (by simp [*]) (FK (by simp [*]) (Aa))),?_⟩;refine Zz (l:=[10])<|B1 [false,false,false] [] V rfl (Zw [_,_,_] Y call43 Y V (JO x.q G.q p qa cap cs hC bg G.rw G.wn G.wv)) ?_ Bv Ai;rintro _ _ ⟨_,⟨cO,s3,rfl,g,rfl⟩,rfl⟩;refine ⟨Aa,?_⟩;obtain ⟨w3,c3,rfl⟩:=g.form;rw [I];refine A2 11 V (AP Y)<|A2 12 V (Bz Y V)<|A2 13 V (Bz Y V)<|A2 14 V (Bz Y V)<|Zz (l:=[16])<|B1 [] [] V rfl (Xw Ax #[.slice w3 (BX x.q x.res cs).1.rows.length c3,I4 (BX x.q x.res cs).1.val,.bool (BX x.q x.res cs).1.fnd]) ?_ (fun _ _ h=>h.elim) Ai;rintro _ _ ⟨rfl,rfl⟩;refine B6<|A2 17 V (Av Y)<|A2 18 V (Av Y)<|Ag<|Zn [0,1,3,4,7,9] ?_;refine Zx<|Zq<|A0<|Zm Y<|Zv (Br Y)<|A5<|AX Y (fun m=>?_) (fun m=>?_);·
  refine A0<|Zl KB Y<|Zm Y<|Zc [_,_] Y call44 Y V (Xb h hx) ?_;rintro _ _ ⟨_,⟨rfl,d2,J,K,O,U,X,_,Z,af,rfl⟩,rfl⟩;refine A5<|AJ<|Zt<|Cw rfl results42 (by exact ⟨rfl,d2,_,cu,J,K,O,U,X,Z,af,(by rw [BW];exact B),rfl⟩)
 cases m
theorem aX{P:Program}{f:FuncId}{args:Array Value}{A B g:List AA}{Q:Value->List AA->Prop}(G:s.Perm (A++(B++g)))(h:Ba P f args [A,B] (fun r H'=>∃m,Q r m/\H'=[A,B,m])):Ba P f args [s] (fun r H'=>∃m,Q r m/\H'=[s,m]):=fun u R w J=>by
 have I:Sat u ([A,B]++([g]++R)) w:=J.perm (by
  simp only [PJ,LN,CA];have:=G.append_right R.flatten
  simpa only [Cd]using this)
 refine (h u ([g]++R) w I).mono ?_;rintro e K (⟨v,H',rfl,⟨m,hq,rfl⟩,hsat⟩|⟨_,_,_,h,_⟩)
 · refine .inl ⟨v,_,rfl,⟨m,hq,rfl⟩,hsat.perm ?_⟩
   simp only [PJ,LN,CA];have e1:(A++(B++(m++(g++R.flatten)))).Perm ((A++(B++g))++(m++R.flatten)):=by
    simp only [Cd];refine RM A (RM B ?_);rw [<-Cd,<-Cd];exact Ly.append_right _
   exact e1.trans (G.symm.append_right _)
 · exact h.elim
theorem zA{a b:AA}(hn:(s.map (·.1)).Nodup)(J:a∈s)(K:b∈s)(m:a.1≠b.1):∃g,s.Perm ([a]++([b]++g)):=by
 obtain ⟨X,Y,rfl⟩:=cF J;have B:b∈X++Y:=by
  rcases B9.1 K with h|h
  · exact Dg _ h
  · rcases D4.1 h with h|h
    · exact absurd (by rw [h]) m
    · exact G2 _ h
 obtain ⟨G,I,h2⟩:=cF B;refine ⟨G++I,Rg.trans (List.Perm.cons a ?_)⟩;rw [h2];exact Rg
noncomputable def JC(c:CZ)(k:ByteArray):Bool:=@decide (∃x∈c.its,x.key=k/\x.base<c.pos -64) (Classical.propDecidable _)
def s7(c:CZ)(pre:List ByteArray)(s:List AA):Prop:=∃d:CZ,d.okb/\d.cp=c.cp/\d.mi=c.mi/\d.pos=c.pos/\(∀y,y∈d.its↔y∈c.its/\y.key∉pre)/\(d.cp,Obj.cells d.A62 108 (0,0))∈s/\(d.mi,Obj.map d.esI d.ckI)∈s/\∀q∈d.SI,q∈s
def bD(c:CZ)(p:List ByteArray):Prop:=∃zs:List ByteArray,zs.Perm (c.its.map ItM.key)/\∃post,zs.filter (JC c)=p++post
def WL(c:CZ)(ys:List ByteArray):Prop:=∃zs:List ByteArray,zs.Perm (c.its.map ItM.key)/\ys=zs.filter (JC c)
theorem Pj(B:(c.its.map ItM.key).Nodup)(hx:x∈c.its):JC c x.key=true↔x.base<c.pos -64:=by
 unfold JC;rw [@decide_eq_true_eq _ (Classical.propDecidable _)];constructor
 · rintro ⟨y,hy,m,g⟩
   rwa [GI B hy hx m]at g
 · intro h;exact ⟨x,hx,rfl,h⟩
theorem aK{α:Type}{l:List α}{f:α->Bool}{i:Nat}{x:α}(h:l[i]?=some x):(l.take (i+1)).filter f=(l.take i).filter f++(if f x=true then [x]else [])/\∃g,l.filter f=(l.take i).filter f++(if f x=true then [x]else [])++g:=by
 have e:(l.take (i+1)).filter f=(l.take i).filter f++(if f x=true then [x]else []):=by
  rw [Bi h,Hi];congr 1;by_cases m:f x=true;· rw [AM m,List.filter_cons_of_pos m];rfl
  · rw [AK m,kf m];rfl
 refine ⟨e,(l.drop (i+1)).filter f,?_⟩;rw [<-e,<-Hi,Iv]
theorem bU{l:List ByteArray}(hn:l.Nodup){i:Nat}{x:ByteArray}(h:l[i]?=some x)(f:ByteArray->Bool):x∉(l.take i).filter f:=fun G=>by
 have g:=(FA.1 G).1;have h2:l=l.take i++x::l.drop (i+1):=by
  obtain ⟨m,B⟩:=BE.1 h;rw [<-B,<-RK m,Iv]
 rw [h2,H3]at hn;exact hn.2.2 x g x (E4 ..) V
theorem uY(h:c.okb)(hn:(s.map (·.1)).Nodup)(g:(c.cp,Obj.cells c.A62 108 (0,0))∈s)(h2:(c.mi,Obj.map c.esI c.ckI)∈s):Ba prog 16 #[.pointer (some ⟨c.cp,0,none⟩)] [s] (fun r H'=>∃m,(∃zs:List ByteArray,zs.Perm (c.its.map ItM.key)/\(zs.Pairwise fun x y=>x.data.toList<=y.data.toList)/\Row 9 r (zs.map Value.string) m)/\H'=[s,m]):=by
 have G:c.cp≠c.mi:=fun K=>by
  have B:=GI hn g h2 K;injection B with _ B
  cases B
 obtain ⟨I,O⟩:=zA hn g h2 G;refine aX O ((O6 h).mono ?_);rintro r H' ⟨zs,m,g,h2,J,rfl⟩;exact ⟨m,⟨zs,g,h2,J⟩,V⟩
theorem cB(c:CZ):Ba prog 46 #[.pointer (some ⟨c.cp,0,none⟩)] [] (fun r H'=>∃g,r= .func (.func 98) #[] #[I5 g]/\H'=[[(g,.cells #[.pointer (some ⟨c.cp,0,none⟩)] 37 (0,0))]]):=by
 refine Se func46 ntmps46 [0] ?_;intro u R;refine A0<|Ze (Bx #[_])<|AE fun g=>A3 Y<|A0<|Zv (Bg (vs:=[]) (us:=[_]) Y Y)<|A3 Y<|AJ<|AO V results46 Y (by exact ⟨g,V,V⟩)
set_option maxHeartbeats 1000000 in
theorem cZ(h:c.okb)(bc:Nat):KT prog 98 #[I5 bc] [[(bc,.cells #[.pointer (some ⟨c.cp,0,none⟩)] 37 (0,0))]] (s7 c) (fun x:ByteArray=>#[.string x]) (bD c) (WL c):=by
 intro l J hA hy s K;obtain ⟨d0,af,O,lw,o8,bg,gm,gy,o9⟩:=hA _ _ K;have U:(d0.its.map ItM.key).Perm (c.its.map ItM.key):=(RE af.its.keys h.its.keys).2 fun a=>by
  simp only [Bm,bg,RW,fy,eI]
 have p8:=h.its.len;have bn:=h.its.keys
 refine Se func98 ntmps98 [0,1] ?_;intro u R;refine Zq<|GV (s:=s) Wo (fun kv=>?_);rw [<-O];refine Zg<|Zl KB Y ?_;refine Zc [_] Y call16 Y V (uY af kv gm gy) ?_;rintro _ _ ⟨_,⟨sk,⟨zs,g,pq,Z⟩,rfl⟩,rfl⟩;replace g:=g.trans U;have l8:=g.length_eq
 rw [B4]at l8;have l9:zs.Nodup:=g.nodup_iff.2 bn
 obtain ⟨pk,ck,rfl⟩:=Z.form;simp only [B4];rw [B4]at Z;refine Zv (AY D2 Y)<|Zm Y<|A5<|AR<|Zb [8,0,1,6,7] ?_;refine BA (e0:=[(8,_)]) (fun m e H=>∃(i:Nat) (s:List AA),m=zs.length -i/\(i<=zs.length/\J ((zs.take i).filter (JC c)) s)/\e=[(8,I4 (i:Int))]/\H=[s]) (by exact ⟨0,s,V,⟨C0 _,K⟩,V,V⟩) Wp ?_;rintro _ _ _ ⟨i,s,rfl,⟨hi,K⟩,rfl,rfl⟩;refine A0<|Zv (Au Y Y)<|A5<|Zq<|Aq Y (fun X=>?_) (fun X=>?_);·
  obtain ⟨k,hk⟩:∃k,zs[i]?=some k:=⟨_,B3 A1⟩;obtain ⟨x,hx,rfl⟩:=Bm.1 (g.mem_iff.1 (DE hk));obtain ⟨ax,ek,G⟩:=aK (f:=JC c) hk;have j5:=bU l9 hk (JC c)
  obtain ⟨d,hd,ic,p9,cu,j3,hC,hM,hS⟩:=hA _ _ K;have d9:x∈d.its:=(j3 x).2 ⟨hx,j5⟩
  have hg:=hd.its.get d9;have gB:(x.b,Obj.cells x.A61 114 (0,0))∈s:=hS _ (hd.its.sub x d9)
  have cO:=Pj bn hx;rw [show d.cp=d0.cp from ic.trans O.symm]at hC;have pg:zs[i]?=some x.key:=hk
  rcases Z with⟨_,h0,_⟩|⟨gk,capk,curk,zk,hvk,rfl,hlek,hcmk,hcsk,htkk,hfrk⟩
  · simp at h0;subst h0;simp at X
  injection hvk with hv1 hv2 hv3
  subst hv1 hv3;have gF:curk[i]?=some (.string x.key):=by
   have h:=congrArg (fun l=>l[i]?) htkk;simp only [HC,B4,AM X,DO,hk]at h;simpa using h
  refine AC<|Zx<|Zq<|AR<|A0<|Bb (BV D2 Fi Y Y (by first|omega|(simp;omega)))<|Zl HQ Y (hv:=by exact gF) ?_;refine A3 Y<|Zq<|Az (n:=22) (0::1::3::7::0::31::63::127::255::511::0::1024::3072::7168::15360::32767::65535::131071::131071::524287::1048575::2097151::[]) 524288 A6 A6 V<|B2 0 V KB Y ?_;refine A2 1 V (Ap Y V)<|A2 2 V (AB (off:=4) Ek V rfl OR Y)<|CQ (D':=15) 3 V rfl V (Ee Wo (hC)) (BP N5 Y AN) ?_;refine A2 4 rfl (AP Y)<|CQ (D':=63) 5 rfl rfl rfl (Ee Wo (hM)) (De (Dk GP (D:=fun _=>True)) Nd Ss hd.its.im (fun _ _=>trivial) (trivial) (by rw [hg];first|done|rfl) Y Y) ?_;refine A2 6 V (Ap Y V)<|A2 7 V (AB (off:=0) HO V rfl HA Y)<|A2 8 V (Ar (off:=8) Ft V rfl A4 Y)<|CQ (D':=1023) 9 V rfl V (Ee Wo (gB)) (BP AD Y AN) ?_;refine B2 10 V KB Y ?_;refine A2 11 V (Ap Y V)<|A2 12 V (AB (off:=0) Ek V rfl A4 Y)<|CQ (D':=16383) 13 V rfl V (Ee Wo (hC)) (BP AD Y AN) ?_
  (refine Dr (D':=32767) 14 (GL Y Y (IntWalk.i64_in _ ?_)) ?_;(focus (have:=hd.pos;omega)))
  refine A2 15 V (Dv Y Y)<|A2 16 V (AP Y)<|DX (t:=28) Y (fun B=>?_) (fun B=>?_);·
   rw [Cp B];have I:JC c x.key=true:=cO.2 (by rw [<-cu];exact B)
   rw [AM I]at G;have l5:=hy _ x.key s ⟨zs,g,ek,G⟩ K
   refine An 17 V (AP Y)<|An 18 V (AP Y)<|Yw 19 1048575 V (GZ (vs:=[_]) Y Y (l5) Wp) ?_;rintro _ _ ⟨_,⟨s',rfl,rfl,gq⟩,rfl⟩;refine An 20 V (Br Y)<|A2 21 V (AQ Y Y)<|Ag<|Zn [0,1,6,7,8,33] ?_;refine Zx<|AX Y (fun hb=>by cases hb)<|fun hb=>AC<|A8<|Zx<|Zg<|Ya (n:=1) Y Y<|Zm Y<|Z0<|Zn [8,0,1,6,7] ?_;refine Ab (e':=[(8,_)]) (by exact ⟨i+1,s',rfl,⟨by omega,by rw [ax,AM I];exact gq⟩,rfl,rfl⟩)
  rw [CN B];have I:¬JC c x.key=true:=fun h9=>B (by rw [cu];exact cO.1 h9)
  refine AF 17 V<|AF 18 V<|AF 19 V<|AF 20 V<|A2 21 V (AL Y Y)<|Ag<|Zn [0,1,6,7,8,33] ?_;refine Zx<|DI Y<|AC<|A8<|Zx<|Zg<|Ya (n:=1) Y Y<|Zm Y<|Z0<|Zn [8,0,1,6,7] ?_;refine Ab (e':=[(8,_)]) (by exact ⟨i+1,s,rfl,⟨by omega,by rw [ax,AK I,DB];exact K⟩,rfl,rfl⟩)
 obtain rfl:i=zs.length:=by omega
 rw [GB]at K;refine Ay<|Zt<|Zt<|AU<|Cw V results98 (by exact ⟨_,s,⟨zs,g,V⟩,V,K⟩)
def ItM.core(x:ItM):ItM:={x with res:=CE.none,wq:=none,wc:=0,since:=0}
variable{y:ItM}
theorem Gz(h:y.core=x.core):y.b=x.b/\y.id=x.id/\y.q=x.q/\y.tn=x.tn/\y.base=x.base/\y.rq=x.rq/\y.rc=x.rc/\y.L=x.L:=by
 obtain ⟨b,id,q,tn,base,rq,rc,L,res,wq,wc,since⟩:=x;obtain ⟨Z,G,q',K,m,J,I,X,B,U,O,g⟩:=y;unfold ItM.core at h;simp only [ItM.mk.injEq]at h;exact ⟨h.1,h.2.1,h.2.2.1,h.2.2.2.1,h.2.2.2.2.1,h.2.2.2.2.2.1,h.2.2.2.2.2.2.1,h.2.2.2.2.2.2.2.1⟩
theorem Ie(h:y.core=x.core):y.key=x.key:=by unfold ItM.key;rw [(Gz h).2.2.1]
theorem WC{α:Type}(W:List α)(r:α){n:Nat}(h:n<=W.length):(W++[r]).drop n=W.drop n++[r]:=gC h
def J8(W W':List BN)(r:BN):Prop:=(W'=W++[r]/\W.length<64)\/(W'=(W++[r]).drop 1/\W.length=64)
variable{W' W:List BN}{r:BN}
theorem jk{pos:Int}(g:J8 W W' r)(B:(pos -base).toNat<=W.length)(G:base<=pos)(I:pos+1 -64<=base):DD (pos+1) base W'=DD pos base W++[r]/\(pos+1 -base).toNat<=W'.length:=by
 have e:(pos+1 -base).toNat=(pos -base).toNat+1:=by omega
 unfold DD;rcases g with⟨rfl,m⟩|⟨rfl,m⟩
 · rw [B7,E3,e,show W.length+1 -((pos -base).toNat+1)=W.length -(pos -base).toNat by omega,WC _ _ A1]
   exact ⟨V,by omega⟩
 · rw [C2,B7,E3,e,ZD,show 1+(W.length+1 -1 -((pos -base).toNat+1))=W.length -(pos -base).toNat by omega,WC _ _ A1]
   exact ⟨V,by omega⟩
theorem LQ{pos:Int}(h:pos<=base):DD pos base W=[]:=by
 unfold DD;rw [show(pos -base).toNat=0 by omega,Sh,ie]
def UJ(cs:List Chg)(x:ItM):Prop:=∃ch∈cs,Cq x.q ch=true
theorem Na(g:∀c∈cs,c.ok):cs.any (Dh q)=true↔∃ch∈cs,Cq q ch=true:=by
 rw [lE];constructor
 · rintro ⟨c,hc,h⟩
   unfold Dh at h;rw [F2]at h;exact ⟨c,hc,h.2⟩
 · rintro ⟨c,hc,h⟩
   refine ⟨c,hc,?_⟩;unfold Dh;rw [Cp (g c hc),h];rfl
theorem Qy:∀{cs:List Chg} {r:CE},¬cs.any (Dh q)=true->BX q r cs=(r,false,true):=fun{cs r} h=>by
 have g:∀{cs:List Chg},(∀c∈cs,Dh q c=false)->Hr q r cs=some r:=fun{cs}=>by
  induction cs with
  |nil=>intro _;rfl
  |cons c cs ih=>
   intro h;have h2:D6 q c r=(r,true):=by unfold D6;rw [h c (E4 ..)];rfl
   unfold Hr;rw [h2];exact ih fun d B=>h d (EV _ B)
 have m:∀c∈cs,Dh q c=false:=fun c hc=>by
  cases h4:Dh q c with
  |false=>rfl
  |true=>exact absurd (lE.2 ⟨c,hc,h4⟩) h
 unfold BX;rw [g m];show(r,cs.any (Dh q),true)=_
 rw [oc]at h;rw [h]
structure uv(cs:List Chg)(p:Int)(ids:List Int)(MR:List AA)(x y:ItM):Prop where
 core:y.core=x.core
 how:(y=x/\¬(x.id∈ids/\x.base<p))\/((x.id∈ids/\x.base<p)/\(BX x.q x.res cs).2.2=true/\y.res=(BX x.q x.res cs).1/\y.since=p/\Db MR (.slice y.wq y.res.rows.length y.wc) y.res.rows)
structure H9(c d:CZ)(cs:List Chg)(p:Int)(W':List BN)(M1:List AA)(ids:List Int)(tl:List ByteArray):Prop where
 okb:d.okb
 cp:d.cp=c.cp
 pos:d.pos=p
 win:d.win=W'
 M:d.M=M1
 ns:d.ns=c.ns
 cap:d.z.cap=c.z.cap
 next:d.next=c.next
 PL:∀e∈d.PL,e∈c.PL
 MR:∀q∈c.MR,q∈d.MR
 i1:∀y∈d.its,∃x∈c.its,uv cs p ids d.MR x y
 i2:∀x∈c.its,(x.id∈ids->x.base<p->(BX x.q x.res cs).2.2=true)->∃y∈d.its,y.core=x.core
 t1:∀k,k∈tl↔∃x∈c.its,x.key=k/\x.id∈ids/\x.base<p
 t2:tl.Nodup
theorem Jj(h:c.okb)(hx:x∈c.its)(hy:y∈c.its)(e:x.id=y.id):x=y:=by
 have hi:=h.its.idx.ids;rw [Kf]at hi;exact GI hi hx hy e
variable{p:Int}{M1:List AA}{ids:List Int}
theorem H9.next_it(h:H9 c d cs p W' M1 ids tl)(hc:c.okb)(hx:x∈c.its)(hn:x.id∉ids):x∈d.its:=by
 obtain ⟨y,hy,B⟩:=h.i2 x hx fun g=>absurd g hn;obtain ⟨J,m,G⟩:=h.i1 y hy;have I:=Jj hc m hx (by rw [<-(Gz G.core).2.1,(Gz B).2.1])
 subst I;rcases G.how with⟨rfl,_⟩|⟨⟨g,_⟩,_⟩
 · exact hy
 · exact absurd g hn
theorem vB(h:H9 c d cs p W' M1 ids tl)(hc:c.okb)(hx:x∈c.its)(J:¬x.base<p):H9 c d cs p W' M1 (ids++[x.id]) tl:=by
 have g:∀z∈c.its,z.base<p->(z.id∈ids++[x.id]↔z.id∈ids):=fun z hz B=>by
  rw [B9,BT];refine ⟨fun m=>m.elim id fun h2=>?_,.inl⟩;rw [Jj hc hz hx h2]at B;exact absurd B J
 refine ⟨h.okb,h.cp,h.pos,h.win,h.M,h.ns,h.cap,h.next,h.PL,h.MR,fun y hy=>?_,fun z hz K=>h.i2 z hz fun m h2=>K ((g z hz h2).2 m) h2,fun k=>?_,h.t2⟩
 · obtain ⟨z,hz,I⟩:=h.i1 y hy
   refine ⟨z,hz,I.core,?_⟩;rcases I.how with⟨e,m⟩|⟨m,h2⟩
   · exact .inl ⟨e,fun G=>m ⟨(g z hz G.2).1 G.1,G.2⟩⟩
   · exact .inr ⟨⟨(g z hz m.2).2 m.1,m.2⟩,h2⟩
 · rw [h.t1]
   constructor;· rintro ⟨z,hz,a,b,e⟩;exact ⟨z,hz,a,(g z hz e).2 b,e⟩
   · rintro ⟨z,hz,a,b,e⟩;exact ⟨z,hz,a,(g z hz e).1 b,e⟩
theorem uz(hc:c.okb)(t1:∀k,k∈tl↔∃x∈c.its,x.key=k/\x.id∈ids/\x.base<p)(t2:tl.Nodup)(hx:x∈c.its)(G:x.base<p)(hn:x.id∉ids):(∀k,k∈tl++[x.key]↔∃y∈c.its,y.key=k/\y.id∈ids++[x.id]/\y.base<p)/\(tl++[x.key]).Nodup:=by
 constructor
 · intro k
   rw [B9,BT,t1];constructor
   · rintro (⟨y,hy,a,b,e⟩|rfl)
     · exact ⟨y,hy,a,Dg _ b,e⟩
     · exact ⟨x,hx,rfl,by simp,G⟩
   · rintro ⟨y,hy,rfl,b,e⟩
     rcases B9.1 b with b|b
     · exact .inl ⟨y,hy,rfl,b,e⟩
     · rw [Jj hc hy hx (BT.1 b)];exact .inr rfl
 · rw [H3]
   refine ⟨t2,by simp,fun a B b g=>?_⟩;obtain rfl:=BT.1 g;intro I;obtain ⟨y,hy,m,h2,_⟩:=(t1 a).1 B;rw [GI hc.its.keys hy hx (m.trans I)]at h2;exact hn h2
theorem xW{next:Int}{esQ:Array MapEntry}{ckQ:Nat}{lmQ:List (Int×Value)}{lv:Value}{ML:List AA}{esI:Array MapEntry}{ckI:Nat}{lmI:List (ByteArray×Value)}{esK:Array MapEntry}{ckK:Nat}{lmK:List (Int×Value)}{SI:List AA}(h:GY its next esQ ckQ lmQ lv ML esI ckI lmI esK ckK lmK SI)(hn:(SI.map (·.1)).Nodup)(hx:x∈its)(p:Int)(cs:List Chg)(wq:Option Addr)(wc:Nat):
 GY (its.map fun y=>if y.id=x.id then x.upd p cs wq wc else y) next esQ ckQ lmQ lv ML esI ckI lmI esK ckK lmK (IQ x.b (x.upd p cs wq wc).obj SI):=by
 have m:∀y∈its,y.id=x.id->y=x:=fun y hy e=>by
  have hi:=h.idx.ids;rw [Kf]at hi;exact GI hi hy hx e
 have g:∀y∈its,(if y.id=x.id then x.upd p cs wq wc else y).key=y.key/\(if y.id=x.id then x.upd p cs wq wc else y).iq=y.iq/\(if y.id=x.id then x.upd p cs wq wc else y).b=y.b/\(if y.id=x.id then x.upd p cs wq wc else y).id=y.id/\(if y.id=x.id then x.upd p cs wq wc else y).q=y.q:=fun y hy=>by
  by_cases e:y.id=x.id
  · rw [m y hy e,AM rfl];exact ⟨rfl,rfl,rfl,rfl,rfl⟩
  · rw [AK e];exact ⟨rfl,rfl,rfl,rfl,rfl⟩
 have e1:((its.map fun y=>if y.id=x.id then x.upd p cs wq wc else y).map ItM.iq)=its.map ItM.iq:=by
  rw [Kf];exact Vc fun y hy=>(g y hy).2.1
 have e2:((its.map fun y=>if y.id=x.id then x.upd p cs wq wc else y).map ItM.key)=its.map ItM.key:=by
  rw [Kf];exact Vc fun y hy=>(g y hy).1
 refine ⟨by rw [e1];exact h.idx,by rw [e1];exact h.ist,h.im,fun q=>?_,h.km,fun q=>?_,by rw [e2];exact h.keys,fun y hy=>?_,h.nx,by rw [B4];exact h.len,fun y hy=>?_,fun y hy=>?_⟩
 · rw [h.imem]
   constructor;· rintro ⟨y,hy,rfl⟩;exact ⟨_,DP hy,by rw [(g y hy).1,(g y hy).2.2.1]⟩
   · rintro ⟨z,hz,rfl⟩
     obtain ⟨y,hy,rfl⟩:=Bm.1 hz;exact ⟨y,hy,by rw [(g y hy).1,(g y hy).2.2.1]⟩
 · rw [h.kmem]
   constructor;· rintro ⟨y,hy,rfl⟩;exact ⟨_,DP hy,by rw [(g y hy).1,(g y hy).2.2.2.1]⟩
   · rintro ⟨z,hz,rfl⟩
     obtain ⟨y,hy,rfl⟩:=Bm.1 hz;exact ⟨y,hy,by rw [(g y hy).1,(g y hy).2.2.2.1]⟩
 · obtain ⟨z,hz,rfl⟩:=Bm.1 hy
   rw [(g z hz).2.2.2.1];exact h.ids z hz
 · obtain ⟨z,hz,rfl⟩:=Bm.1 hy
   rw [(g z hz).2.2.2.2];exact h.q z hz
 · obtain ⟨z,hz,rfl⟩:=Bm.1 hy
   by_cases e:z.id=x.id
   · simp only [AM e]
     exact Pg (h.sub x hx)
   · simp only [AK e]
     refine Bm.2 ⟨z.ch,h.sub z hz,AK fun e2=>?_⟩;have B:=GI hn (h.sub z hz) (h.sub x hx) e2
     unfold ItM.ch ItM.obj at B;simp only [j1,Obj.cells.injEq,p5,lf,Value.int.injEq,V2,eI]at B;exact e (by simp_all)
theorem yF(h:H9 c d cs p W' M1 ids tl)(hc:c.okb)(hn:(d.SI.map (·.1)).Nodup)(hx:x∈c.its)(hb:x.base<p)(G:x.id∉ids)(O:(BX x.q x.res cs).2.2=true)(hr:Db s (.slice wq (BX x.q x.res cs).1.rows.length wc) (BX x.q x.res cs).1.rows):
 H9 c {d with SI:=IQ x.b (x.upd p cs wq wc).obj d.SI,MR:=s++d.MR,its:=d.its.map fun y=>if y.id=x.id then x.upd p cs wq wc else y} cs p W' M1 (ids++[x.id]) (tl++[x.key]):=by
 have g:=h.next_it hc hx G;have B:=xW h.okb.its hn g p cs wq wc
 have K:(x.upd p cs wq wc).core=x.core:=rfl;obtain ⟨X,Z⟩:=uz hc h.t1 h.t2 hx hb G;have e2:((d.its.map fun y=>if y.id=x.id then x.upd p cs wq wc else y).map ItM.key)=d.its.map ItM.key:=by
  rw [Kf];refine Vc fun y hy=>?_;show(if y.id=x.id then x.upd p cs wq wc else y).key=y.key
  split;· rename_i e;rw [Jj h.okb hy g e];rfl
  · rfl
 refine ⟨⟨h.okb.pos,h.okb.win,h.okb.wl,h.okb.wp,h.okb.pool,fun k=>by rw [e2];exact h.okb.pk k,B,fun y hy=>?_⟩,h.cp,h.pos,h.win,h.M,h.ns,h.cap,h.next,h.PL,fun q I=>G2 _ (h.MR q I),fun y hy=>?_,fun z hz hk=>?_,X,Z⟩
 · obtain ⟨z,hz,rfl⟩:=Bm.1 hy
   split;· rename_i e;rw [<-Jj h.okb hz g e];exact h.okb.tns z hz
   · exact h.okb.tns z hz
 · obtain ⟨z,hz,rfl⟩:=Bm.1 hy
   by_cases e:z.id=x.id
   · rw [AM e]
     exact ⟨x,hx,K,.inr ⟨⟨by simp,hb⟩,O,V,V,hr.mono fun q I=>Dg _ I⟩⟩
   · rw [AK e]
     obtain ⟨w,hw,U⟩:=h.i1 z hz;have af:w.id≠x.id:=fun m=>e (by rw [(Gz U.core).2.1,m])
     refine ⟨w,hw,U.core,?_⟩;have hm:w.id∈ids++[x.id]↔w.id∈ids:=by rw [B9,BT];exact ⟨fun m=>m.elim id fun h2=>absurd h2 af,.inl⟩
     rcases U.how with⟨a,b⟩|⟨a,b,e1,e3,e4⟩
     · exact .inl ⟨a,fun h3=>b ⟨hm.1 h3.1,h3.2⟩⟩
     · exact .inr ⟨⟨hm.2 a.1,a.2⟩,b,e1,e3,e4.mono fun q I=>G2 _ I⟩
 · by_cases e:z.id=x.id
   · obtain rfl:=Jj hc hz hx e
     exact ⟨_,Bm.2 ⟨z,g,AM V⟩,V⟩
   · obtain ⟨y,hy,J⟩:=h.i2 z hz fun m h2=>hk (Dg _ m) h2
     exact ⟨y,Bm.2 ⟨y,hy,AK (by rw [(Gz J).2.1];exact e)⟩,J⟩
variable{d2:CZ}
theorem yH(h:H9 c d cs p W' M1 ids tl)(hc:c.okb)(hx:x∈c.its)(hb:x.base<p)(K:x.id∉ids)(B:(BX x.q x.res cs).2.2=false)
 (g:d2.okb)(h2:d.like d2)(I:d2.next=d.next)(J:d2.M=d.M/\d2.MR=d.MR)(h6:d2.its=d.its.filter fun y=>y.key≠x.key)(h7:∀e∈d2.PL,e∈d.PL):H9 c d2 cs p W' M1 (ids++[x.id]) (tl++[x.key]):=by
 obtain ⟨U,X⟩:=uz hc h.t1 h.t2 hx hb K;have m:∀y,y∈d2.its↔y∈d.its/\y.key≠x.key:=fun y=>by rw [h6,FA];simp
 refine ⟨g,h2.cp.trans h.cp,h2.pos.trans h.pos,h2.win.trans h.win,J.1.trans h.M,h2.ns.trans h.ns,h2.cap.trans h.cap,I.trans h.next,fun e he=>h.PL e (h7 e he),fun q hq=>by rw [J.2];exact h.MR q hq,fun y hy=>?_,fun z hz hk=>?_,U,X⟩
 · obtain ⟨af,ax⟩:=(m y).1 hy
   obtain ⟨w,hw,O⟩:=h.i1 y af;have Z:w.id≠x.id:=fun e=>ax (by rw [Ie O.core,Jj hc hw hx e])
   refine ⟨w,hw,O.core,?_⟩;have m:w.id∈ids++[x.id]↔w.id∈ids:=by rw [B9,BT];exact ⟨fun g=>g.elim id fun h2=>absurd h2 Z,.inl⟩
   rcases O.how with⟨a,b⟩|⟨a,b,e1,e3,e4⟩
   · exact .inl ⟨a,fun I=>b ⟨m.1 I.1,I.2⟩⟩
   · exact .inr ⟨⟨m.2 a.1,a.2⟩,b,e1,e3,by rw [J.2];exact e4⟩
 · by_cases e:z.id=x.id
   · obtain rfl:=Jj hc hz hx e
     rw [hk B0 hb]at B;cases B
   · obtain ⟨y,hy,G⟩:=h.i2 z hz fun g h2=>hk (Dg _ g) h2
     refine ⟨y,(m y).2 ⟨hy,fun h9=>e ?_⟩,G⟩;rw [Ie G]at h9;rw [GI hc.its.keys hz hx h9]
theorem yI(h:H9 c d r.cs r.p W' M1 ids tl)(hc:c.ok)(hr:EJ r.p r.cs)(hp:r.p=c.pos+1){r':BN}(X:r'.pc=r.pc)(hW:J8 c.win W' r')(hM:∀q∈c.M,q∈d.M)(G:∀x∈c.its,x.id∈ids↔UJ r.cs x)(hy:y∈d.its)(cO:r.p -64<=y.base):y.ok d.M d.MR r.p W':=by
 obtain ⟨x,hx,hs⟩:=h.i1 y hy;have g:=hc.all x hx
 obtain ⟨c1,c2,c3,c4,c5,c6,c7,c8⟩:=Gz hs.core;have B:∀ch∈r.cs,ch.ok:=fun ch af=>by
  obtain ⟨i,hi⟩:=GW af;exact hr.all i ch hi
 have J:r'.p=r.p:=congrArg Prod.fst X;have K:r'.cs=r.cs:=congrArg Prod.snd X
 have I:Db d.MR (.slice y.wq y.res.rows.length y.wc) y.res.rows:=by
  rcases hs.how with⟨rfl,_⟩|⟨_,_,_,_,h5⟩
  · exact g.rw.mono h.MR
  · exact h5
 obtain ⟨r0,O,m⟩:=g.run;by_cases hb:x.base<r.p
 · obtain ⟨Z,U⟩:=jk hW g.reach A1 A1
   rw [<-hp]at Z U;refine ⟨by rw [c3];exact g.q,by rw [c5];exact g.base,by rw [c4];exact g.tn,by rw [c6,c7,c8];exact g.rp.mono hM,by rw [c8];exact g.rl,by rw [c8];exact g.fit,I,by rw [c5];exact U,r0,by rw [c3,c8];exact O,?_⟩;rw [c3,c5,Z,Ld,m,I3];have hl:=OE g.reach
   have cu:=hc.pos;have bn:=g.base
   unfold FY FY;rw [J,K];rcases hs.how with⟨rfl,ax⟩|⟨⟨hin,_⟩,hok,e1,e2,_⟩
   · have hq:¬r.cs.any (Dh y.q)=true:=fun h9=>ax ⟨(G y hx).2 ((Na B).1 h9),hb⟩
     rw [Qy hq,AM ⟨rfl,by rw [hl];omega,by rw [hl];omega⟩];rfl
   · have hq:r.cs.any (Dh x.q)=true:=(Na B).2 ((G x hx).1 hin)
     rw [AM ⟨hok,by rw [hl];omega,by rw [hl];omega⟩,(MO hok).2,AM hq,e1,e2]
 · have bg:y=x:=by
    rcases hs.how with⟨e,_⟩|⟨⟨_,h9⟩,_⟩
    · exact e
    · exact absurd h9 hb
   subst bg;rw [LQ A1]at m;exact ⟨g.q,g.base,g.tn,g.rp.mono hM,g.rl,g.fit,I,by omega,r0,O,by rw [LQ A1];exact m⟩
theorem Ox{α:Type} [DecidableEq α]:∀{a b:List α},a.Nodup->(∀x∈a,x∈b)->a.length<=b.length
 |[],_,_,_=>C0 _
 |x::a,b,hn,hs=>by
  obtain ⟨hx,hn⟩:=Hj.1 hn;have h2:=Ox (a:=a) (b:=b.erase x) hn fun y hy=>by
   have g:y≠x:=fun e=>hx (e▸hy);exact (List.mem_erase_of_ne g).2 (hs y (EV _ hy))
  have m:=na (hs x (E4 ..));have B:=List.length_pos_of_mem (hs x (E4 ..))
  rw [DG];omega
theorem oM(h:c.okb)(U:J8 c.win W r)(Z:r.p=c.pos+1)(O:EJ r.p r.cs)(K:∀q∈c.M,q∈M1)(J:Ck M1 (.slice r.q r.cs.length r.cap) r.cs):W.length<=64/\∀(i:Nat) (g:BN),W[i]?=some g->g.p=r.p -(W.length:Int)+1+(i:Int)/\Ck M1 (.slice g.q g.cs.length g.cap) g.cs/\EJ g.p g.cs:=by
 have B:∀(i:Nat) (g:BN),(c.win++[r])[i]?=some g->g.p=c.pos -(c.win.length:Int)+1+(i:Int)/\Ck M1 (.slice g.q g.cs.length g.cap) g.cs/\EJ g.p g.cs:=fun i g m=>by
  rcases E0 i c.win.length with h1|h1
  · rw [cC h1]at m
    exact WV h K i g m
  · rw [SM h1]at m
    have h2:i -c.win.length=0:=by
     have:=(BE.1 m).1;simp at this;omega
    rw [h2]at m;have I:r=g:=by simpa using m
    subst I;exact ⟨by omega,J,O⟩
 have G:(c.win++[r]).length=c.win.length+1:=by rw [B7];rfl
 rcases U with⟨rfl,X⟩|⟨rfl,X⟩
 · refine ⟨by omega,fun i g m=>?_⟩
   obtain ⟨a,b,e⟩:=B i g m;exact ⟨by rw [G];omega,b,e⟩
 · refine ⟨by rw [C2];omega,fun i g m=>?_⟩
   rw [NO]at m;obtain ⟨a,b,e⟩:=B (1+i) g m;exact ⟨by rw [C2,G];omega,b,e⟩
theorem vD(h:c.okb){sW:List AA}(J:J8 c.win W r)(g:Bc 2 50 (.slice wq W.length wc) W.length (Du W) sW)(O:r.p=c.pos+1)(m:EJ r.p r.cs)(I:∀q∈c.M,q∈M1)(G:Ck M1 (.slice r.q r.cs.length r.cap) r.cs){lv2:Value}{ML2:List AA}(hst:WQ (c.its.map ItM.iq) lv2 ML2):
 H9 c {c with pos:=r.p,wq:=wq,wc:=wc,win:=W,sW:=sW,lv:=lv2,ML:=ML2,M:=M1} r.cs r.p W M1 [] []:=by
 have B:=oM h J O m I G;have U:=m.pos
 exact ⟨⟨⟨by show 0<=r.p;omega,by show r.p<=10000;omega⟩,g,B.1,B.2,h.pool,h.pk,{h.its with ist:=hst},h.tns⟩,V,V,V,V,V,V,V,fun e K=>K,fun q X=>X,fun y hy=>⟨y,hy,V,.inl ⟨V,fun h=>absurd h.1 B0⟩⟩,fun x hx _=>⟨x,hx,V⟩,fun k=>by simp,lr⟩
structure H8(c d:CZ)(p:Int)(cs:List Chg)(q2:Option Addr)(cap2:Nat)(zs:List ByteArray):Prop where
 ok:d.ok
 cp:d.cp=c.cp
 pos:d.pos=p
 win:J8 c.win d.win ⟨p,q2,cap2,cs⟩
 ns:d.ns=c.ns
 cap:d.z.cap=c.z.cap
 next:d.next=c.next
 PL:∀e∈d.PL,e∈c.PL
 i1:∀y∈d.its,p -64<=y.base/\∃x∈c.its,y.core=x.core/\((¬(UJ cs x/\x.base<p)/\y.res=x.res/\y.since=x.since)\/((UJ cs x/\x.base<p)/\(BX x.q x.res cs).2.2=true/\y.since=p))
 i2:∀x∈c.its,p -64<=x.base->(UJ cs x->x.base<p->(BX x.q x.res cs).2.2=true)->∃y∈d.its,y.core=x.core
 z1:∀k,k∈zs↔∃x∈c.its,x.key=k/\UJ cs x/\x.base<p
 z2:zs.Nodup
 z3:zs.Pairwise fun x y=>x.data.toList<=y.data.toList
theorem xg(hn:((its.map ItM.iq).map (·.1)).Nodup){g:List Int}(h:∀i,i∈g↔JS (its.map ItM.iq) cs i)(hx:x∈its):x.id∈g↔UJ cs x:=by
 rw [h];constructor
 · rintro ⟨y,hy,m,hc⟩
   obtain ⟨w,B,rfl⟩:=Bm.1 hy;rw [Kf]at hn;have:=GI hn B hx m
   subst this;exact hc
 · intro hc
   exact ⟨x.iq,DP hx,V,hc⟩
structure JP(d d2:CZ)(pre:List ByteArray):Prop where
 okb:d2.okb
 like:d.like d2
 next:d2.next=d.next
 M:d2.M=d.M/\d2.MR=d.MR
 mi:d2.mi=d.mi
 PL:∀e∈d2.PL,e∈d.PL
 its:∀y,y∈d2.its↔y∈d.its/\y.key∉pre
theorem Rq(h:d.okb):JP d d []:=⟨h,⟨rfl,rfl,rfl,rfl,rfl⟩,rfl,⟨rfl,rfl⟩,rfl,fun e g=>g,fun y=>by simp⟩
theorem cK{pre:List ByteArray}{k:ByteArray}(h:JP d d2 pre)(J:d.okb)(I:bD d (pre++[k])):∃x∈d2.its,x.key=k:=by
 obtain ⟨zs,m,B,g⟩:=I;have hn:(zs.filter (JC d)).Nodup:=(m.nodup_iff.2 J.its.keys).sublist TX
 have K:k∈zs:=(FA.1 (by rw [g];simp:k∈zs.filter (JC d))).1;obtain ⟨x,hx,rfl⟩:=Bm.1 (m.mem_iff.1 K);refine ⟨x,(h.its x).2 ⟨hx,fun G=>?_⟩,V⟩;rw [g,Cd,H3]at hn;exact hn.2.2 _ G _ B0 V
theorem Rp{g:CZ}{pre:List ByteArray}(h:JP d d2 pre)(B:g.okb)(h2:d2.like g)(G:g.next=d2.next)(m:g.M=d2.M/\g.MR=d2.MR)(I:g.mi=d2.mi)(J:g.its=d2.its.filter fun y=>y.key≠x.key)(K:∀e∈g.PL,e∈d2.PL):JP d g (pre++[x.key]):=by
 refine ⟨B,h.like.trans h2,G.trans h.next,⟨m.1.trans h.M.1,m.2.trans h.M.2⟩,I.trans h.mi,fun e O=>h.PL e (K e O),fun y=>?_⟩;rw [J,FA,h.its,B9,BT];simp only [Fl,ne_eq,not_or];exact ⟨fun⟨⟨a,b⟩,e⟩=>⟨a,b,e⟩,fun⟨a,b,e⟩=>⟨⟨a,b⟩,e⟩⟩
theorem vC{q2:Option Addr}{cap2:Nat}{zi:List Int}{zs ys:List ByteArray}(hc:c.ok)(hR:EJ p cs)(hp:p=c.pos+1)(hW:J8 c.win W ⟨p,q2,cap2,cs⟩)(h:H9 c d cs p W M1 zi tl)(hM:∀q∈c.M,q∈M1)(ax:∀i,i∈zi↔JS (c.its.map ItM.iq) cs i)(B:JP d d2 ys)(U:WL d ys)(hz:zs.Perm tl)(bg:zs.Pairwise fun x y=>x.data.toList<=y.data.toList):H8 c d2 p cs q2 cap2 zs:=by
 have g:∀x∈c.its,x.id∈zi↔UJ cs x:=fun x hx=>xg hc.its.idx.ids ax hx;have m:∀y,y∈d2.its↔y∈d.its/\p -64<=y.base:=fun y=>by
  rw [B.its];constructor
  · rintro ⟨hy,hn⟩
    refine ⟨hy,cA fun O=>hn ?_⟩;obtain ⟨ks,X,rfl⟩:=U;refine FA.2 ⟨X.mem_iff.2 (DP hy),(Pj h.okb.its.keys hy).2 ?_⟩;rw [h.pos];omega
  · rintro ⟨hy,hb⟩
    refine ⟨hy,fun O=>?_⟩;obtain ⟨ks,X,rfl⟩:=U;have:=(Pj h.okb.its.keys hy).1 (FA.1 O).2
    rw [h.pos]at this;omega
 have G:d2.pos=p:=B.like.pos.trans h.pos;have I:d2.win=W:=B.like.win.trans h.win
 refine ⟨⟨B.okb,fun y hy=>?_⟩,B.like.cp.trans h.cp,G,by rw [I];exact hW,B.like.ns.trans h.ns,B.like.cap.trans h.cap,B.next.trans h.next,fun e he=>h.PL e (B.PL e he),fun y hy=>?_,fun x hx hb hk=>?_,fun k=>?_,hz.nodup_iff.2 h.t2,bg⟩
 · obtain ⟨J,K⟩:=(m y).1 hy
   rw [G,I,B.M.1,B.M.2];exact yI (r:=⟨p,q2,cap2,cs⟩) h hc hR hp rfl hW (fun q hq=>by rw [h.M];exact hM q hq) g J K
 · obtain ⟨J,K⟩:=(m y).1 hy
   obtain ⟨x,hx,hs⟩:=h.i1 y J;refine ⟨K,x,hx,hs.core,?_⟩;rcases hs.how with⟨rfl,af⟩|⟨⟨hin,hb⟩,hok,_,hsi,_⟩
   · exact .inl ⟨fun O=>af ⟨(g y hx).2 O.1,O.2⟩,rfl,rfl⟩
   · exact .inr ⟨⟨(g x hx).1 hin,hb⟩,hok,hsi⟩
 · obtain ⟨y,hy,Z⟩:=h.i2 x hx fun h1 h2=>hk ((g x hx).1 h1) h2
   exact ⟨y,(m y).2 ⟨hy,by rw [(Gz Z).2.2.2.2.1];exact hb⟩,Z⟩
 · rw [hz.mem_iff,h.t1]
   constructor;· rintro ⟨x,hx,a,b,e⟩;exact ⟨x,hx,a,(g x hx).1 b,e⟩
   · rintro ⟨x,hx,a,b,e⟩;exact ⟨x,hx,a,(g x hx).2 b,e⟩
theorem iE(h:H9 c d cs p W' M1 ids tl)(hc:c.ok)(hC:Ck ME (.slice qa cs.length cap) cs)(O:cs.length<=1000)(hx:x∈c.its)(hb:x.base<p)(G:x.id∉ids)(hT:Row 9 tv (tl.map Value.string) st)(U:tl.length<=1000000)(K J I:Nat):
 Ba prog 42 #[.string x.key,.pointer (some ⟨x.b,0,none⟩),I5 K,I5 J,I5 I] [[(K,.cells #[tv] 45 (0,0))],[(J,.cells #[I4 p,.slice qa cs.length cap] 50 (0,0))],[(I,.cells #[.pointer (some ⟨c.cp,0,none⟩)] 37 (0,0))],st,[(c.cp,.cells d.A62 108 (0,0))],d.sW,d.z.S,[(d.mb,.map d.esP d.ckP)],d.su,[(d.ip,.cells #[.map (some d.mq),d.lv] 163 (0,0))],[(d.mq,.map d.esQ d.ckQ)],d.ML,[(d.mi,.map d.esI d.ckI)],[(d.mkb,.map d.esK d.ckK)],d.SI,d.M,d.MR,ME] (fun v H'=>v=undef/\∃(d2:CZ) (m:Value) (g:List AA),H9 c d2 cs p W' M1 (ids++[x.id]) (tl++[x.key])/\Row 9 m ((tl++[x.key]).map Value.string) g/\H'=[[(K,.cells #[m] 45 (0,0))],[(J,.cells #[I4 p,.slice qa cs.length cap] 50 (0,0))],[(I,.cells #[.pointer (some ⟨c.cp,0,none⟩)] 37 (0,0))],g,[(c.cp,.cells d2.A62 108 (0,0))],d2.sW,d2.z.S,[(d2.mb,.map d2.esP d2.ckP)],d2.su,[(d2.ip,.cells #[.map (some d2.mq),d2.lv] 163 (0,0))],[(d2.mq,.map d2.esQ d2.ckQ)],d2.ML,[(d2.mi,.map d2.esI d2.ckI)],[(d2.mkb,.map d2.esK d2.ckK)],d2.SI,d2.M,d2.MR,ME]):=by
 rw [<-h.cp];have X:=h.next_it hc.tookb hx G
 have hl:x.live d.MR:=by
  have B:=(hc.all x hx).live hc.tookb;exact ⟨B.q,B.rw.mono h.MR,B.wn,B.wv⟩
 cases hok:(BX x.q x.res cs).2.2 with
 |true=>
  refine (nz h.okb X hl p hC O hok hT U K J I).mono ?_;rintro v H' ⟨B,wq,wc,m,g,s,h2,Z,h4,rfl⟩;exact ⟨B,_,m,g,yF h hc.tookb h4 hx hb G hok Z,h2,V⟩
 |false=>
  refine (o5 h.okb X hl p hC O hok hT U K J I).mono ?_;rintro v H' ⟨B,d2,m,g,h2,Z,h4,h5,_,h6,h7,h8,rfl⟩;exact ⟨B,d2,m,g,yH h hc.tookb hx hb G hok h2 Z h4 h5 h6 h7,h8,by rw [Z.cp]⟩
end Go.Proofs.YtfhjaegddfehhaaGreatDoor
