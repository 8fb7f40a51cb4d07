/- Put. -/
import Derived.Test.YtfhjaegddfehhabGreatDoorCa6
set_option linter.unusedVariables false
set_option linter.unusedSimpArgs false
namespace Go.Proofs.YtfhjaegddfehhabGreatDoor
open Go.Proofs.Tryz
open Go Go.RowKit Gw
set_option maxRecDepth 100000
attribute [local irreducible] Gw.At Gw.Nx Gw.Ops
variable{q:QM}{base:Int}
theorem Nr{r:CB}{l:List BP}(h:(BD q r base l).2.2=true):GK q base 0 (r,base) l=some ((BD q r base l).1,(BD q r base l).2.1):=M0 h
theorem Wz{c:CZ}(h:c.okb){m:List A9}(Z:∀q∈c.M,q∈m):∀(i:Nat) (r:BP),c.win[i]?=some r->r.p=c.pos -(c.win.length:Int)+1+(i:Int)/\Cf m (.slice r.q r.cs.length r.cap) r.cs/\EM r.p r.cs:=fun i r hr=>by
 obtain ⟨J,⟨p,cap,e,X,U⟩,O⟩:=h.wp i r hr;refine ⟨J,⟨p,cap,e,X,fun j x hx=>?_⟩,O⟩;obtain ⟨g,off,cur,T,zz,B,G,I⟩:=U j x hx;exact ⟨g,off,cur,T,zz,B,Z _ G,I⟩
variable{its:List ItM}
theorem RB{K:Bk}(h:∀y∈its,y.key≠K):(its.filter fun y=>y.key≠K)=its:=mT.2 fun y hy=>by simpa using h y hy
theorem ru{PL:List Bp}(m:∀k,k∈PL.map (·.key)↔k∈its.map ItM.key)(e:Bp)(x:ItM)(g:e.key=x.key):∀k,k∈(PL++[e]).map (·.key)↔k∈(its++[x]).map ItM.key:=by
 intro k;rw [C2,C2,Bm,Bm,m k,Mp,Mp,g]
def IP(b:Nat)(id:Int)(q:QM)(tn base:Int)(rq:B6)(rc:Nat)(L:List RP)(R:CB×Int×Bool)(wq:B6)(wc:Nat):ItM:=⟨b,id,q,tn,base,rq,rc,L,R.1,wq,wc,R.2.1⟩
variable{c:CZ}{wq:B6}{wc:Nat}{L:List RP}{r0:CB}
theorem Ti{b:Nat}{id:Int}(Z:BF q){tn:Int}(ht:0<=tn/\tn<=1000000)(X:0<=base/\base<=10000){rq:B6}{rc:Nat}(G:L.length<=1000000)(m:∀x∈L,x.fits)(I:Ea q L=some r0)(J:(c.pos -base).toNat<=c.win.length)(B:(BD q r0 base (DC c.pos base c.win)).2.2=true){O g:List A9}
 (U:FW O (.slice rq L.length rc) L)(h2:DW g (.slice wq (BD q r0 base (DC c.pos base c.win)).1.rows.length wc) (BD q r0 base (DC c.pos base c.win)).1.rows):(IP b id q tn base rq rc L (BD q r0 base (DC c.pos base c.win)) wq wc).ok O g c.pos c.win:=
 ⟨Z,X,ht,U,G,m,h2,J,r0,I,Nr B⟩
theorem UF(p:B6)(n c:Nat)(v f:A3)(hv:v.oneCell'=true/\v.cells=#[v])(B:f.oneCell'=true/\f.cells=#[f])(hn:n<=1000000):BB prog 30 #[.agg #[.slice p n c,v,f]] [] (I4 (1+(n:Int))):=by
 refine Se func30 ntmps30 [0] ?_;intro u R;refine A0<|Ze (Bx #[_,_,_])<|AG fun g=>A4 Y<|A0<|Zh 0 CH V rfl CI Y<|Zl Fm Y<|Zv (AY BE Y)<|Ya (m:=1) Y Y<|A4 Y<|AJ<|AO V results30 Y (by exact ⟨V,V⟩)
variable{k cg:Nat}{pg:B6}{ME:List A9}
theorem xh(h:c.ok)(hq:BF q)(hk:k<c.ns)(af:k<=1000000)(base:Int)(Z:0<=base/\base<=10000)(X:FW ME (.slice pg L.length cg) L)(I:L.length<=1000000)(B:∀x∈L,x.fits)(J:Ea q L=some r0)(O:¬(c.pos -base).toNat<=c.win.length)(G:AK)(U:Nat×Nat):BZ prog 7 #[.pointer (some ⟨c.cp,0,none⟩),.agg #[I4 q.kd,I4 q.tb,I4 q.cl,I4 q.lo,I4 q.hi,I4 q.bq,I4 q.ot,I4 (k:Int),I4 base,.slice pg L.length cg]] [[(c.cp,.cells c.BA1 87 (0,0))],c.sW,c.M,ME,[(1,.cells (Lib.pow10Tab.map fun z=>Value.int .u64 z).toArray G U)]] (fun w H'=>w= .bool false/\H'=[[(c.cp,.cells c.BA1 87 (0,0))],c.sW,c.M,ME,[(1,.cells (Lib.pow10Tab.map fun z=>Value.int .u64 z).toArray G U)]]):=by
 refine Se func7 ntmps7 [0,1] ?_;intro u R;refine A0<|Ze (Bx #[I4 q.kd,I4 q.tb,I4 q.cl,I4 q.lo,I4 q.hi,I4 q.bq,I4 q.ot,I4 (k:Int),I4 base,.slice pg L.length cg])<|AG fun be=>A4 Y<|Zq<|A0<|Zm Y<|Zv (Be Lz Y Y)<|A5<|AU Y (fun m=>by cases m)<|fun m=>AC<|Zx<|A0<|Zm Y<|Zo Wh (AA (cs:=#[I4 q.kd,I4 q.tb,I4 q.cl,I4 q.lo,I4 q.hi,I4 q.bq,I4 q.ot,I4 (k:Int),I4 base,.slice pg L.length cg]) S5 HH Y Wn (BK V))<|Zc [_,_] Y call28 Y V (xm h hq (k:Int) base Z X I B J O G U) ?_;rintro _ _ ⟨_,⟨rfl,rfl⟩,rfl⟩;refine Zm Y<|Zd Y V<|Zd Y V<|Zd Y V<|Za Y<|Za Y<|AN Y<|Zn [0,3,5,6,7] ?_;refine Zx<|Zq<|A0<|Zm Y<|Zv (Br Y)<|A5<|AU Y (fun g=>?_) (fun g=>?_);·
  refine A0<|A4 Y<|AJ<|Zt<|AO V results7 Y (by exact ⟨V,V⟩)
 cases g
theorem rT(h:c.ok)(hq:BF q)(hk:k<c.ns)(bn:k<=1000000)(base:Int)(hb:0<=base/\base<=10000)(Z:FW ME (.slice pg L.length cg) L)(J:L.length<=1000000)(B:∀x∈L,x.fits)(O:Ea q L=some r0)(U:(c.pos -base).toNat<=c.win.length)(G:(BD q r0 base (DC c.pos base c.win)).2.2=false)(I:AK)(X:Nat×Nat):BZ prog 7 #[.pointer (some ⟨c.cp,0,none⟩),.agg #[I4 q.kd,I4 q.tb,I4 q.cl,I4 q.lo,I4 q.hi,I4 q.bq,I4 q.ot,I4 (k:Int),I4 base,.slice pg L.length cg]] [[(c.cp,.cells c.BA1 87 (0,0))],c.sW,c.M,ME,[(1,.cells (Lib.pow10Tab.map fun z=>Value.int .u64 z).toArray I X)]] (fun w H'=>w= .bool false/\H'=[[(c.cp,.cells c.BA1 87 (0,0))],c.sW,c.M,ME,[(1,.cells (Lib.pow10Tab.map fun z=>Value.int .u64 z).toArray I X)]]):=by
 refine Se func7 ntmps7 [0,1] ?_;intro u R;refine A0<|Ze (Bx #[I4 q.kd,I4 q.tb,I4 q.cl,I4 q.lo,I4 q.hi,I4 q.bq,I4 q.ot,I4 (k:Int),I4 base,.slice pg L.length cg])<|AG fun be=>A4 Y<|Zq<|A0<|Zm Y<|Zv (Be Lz Y Y)<|A5<|AU Y (fun m=>by cases m)<|fun m=>AC<|Zx<|A0<|Zm Y<|Zo Wh (AA (cs:=#[I4 q.kd,I4 q.tb,I4 q.cl,I4 q.lo,I4 q.hi,I4 q.bq,I4 q.ot,I4 (k:Int),I4 base,.slice pg L.length cg]) S5 HH Y Wn (BK V))<|Zc [_,_] Y call28 Y V (Rm h hq (k:Int) base hb Z J B O U I X) ?_;rintro _ _ ⟨_,⟨b,rq,rc,wq,wc,s1,s2,rfl,af,ax,rfl⟩,rfl⟩;rw [G];refine Zm Y<|Zd Y V<|Zd Y V<|Zd Y V<|Za Y<|Za Y<|AN Y<|Zn [0,3,5,6,7] ?_;refine Zx<|Zq<|A0<|Zm Y<|Zv (Br Y)<|A5<|AU Y (fun g=>?_) (fun g=>?_);·
  refine A0<|A4 Y<|AJ<|Zt<|AO V results7 Y (by exact ⟨V,V⟩)
 cases g
variable{x:ItM}
theorem rR(h:c.ok)(hq:BF q)(hk:k<c.ns)(cO:k<=1000000)(base:Int)(hb:0<=base/\base<=10000)(hL:FW ME (.slice pg L.length cg) L)(O:L.length<=1000000)(B:∀x∈L,x.fits)(Z:Ea q L=some r0)(af:(c.pos -base).toNat<=c.win.length)(G:(BD q r0 base (DC c.pos base c.win)).2.2=true)(hx:x∈c.its)(ax:x.key=str (CJ q))(d9:base<=x.base)(J:AK)(zp:Nat×Nat):BZ prog 7 #[.pointer (some ⟨c.cp,0,none⟩),.agg #[I4 q.kd,I4 q.tb,I4 q.cl,I4 q.lo,I4 q.hi,I4 q.bq,I4 q.ot,I4 (k:Int),I4 base,.slice pg L.length cg]] [[(c.cp,.cells c.BA1 87 (0,0))],c.sW,c.M,[(c.mi,.map c.esI c.ckI)],c.SI,ME,[(1,.cells (Lib.pow10Tab.map fun z=>Value.int .u64 z).toArray J zp)]] (fun w H'=>w= .bool true/\H'=[[(c.cp,.cells c.BA1 87 (0,0))],c.sW,c.M,[(c.mi,.map c.esI c.ckI)],c.SI,ME,[(1,.cells (Lib.pow10Tab.map fun z=>Value.int .u64 z).toArray J zp)]]):=by
 have X:=h.its.get hx;rw [ax]at X;have U:(x.b,Obj.cells x.BA0 93 (0,0))∈c.SI:=h.its.sub x hx
 refine Se func7 ntmps7 [0,1] ?_;intro u R;refine A0<|Ze (Bx #[I4 q.kd,I4 q.tb,I4 q.cl,I4 q.lo,I4 q.hi,I4 q.bq,I4 q.ot,I4 (k:Int),I4 base,.slice pg L.length cg])<|AG fun be=>A4 Y<|Zq<|A0<|Zm Y<|Zv (Be Lz Y Y)<|A5<|AU Y (fun m=>by cases m)<|fun m=>AC<|Zx<|A0<|Zm Y<|Zo Wh (AA (cs:=#[I4 q.kd,I4 q.tb,I4 q.cl,I4 q.lo,I4 q.hi,I4 q.bq,I4 q.ot,I4 (k:Int),I4 base,.slice pg L.length cg]) S5 HH Y Wn (BK V))<|Zc [_,_] Y call28 Y V (Rm h hq (k:Int) base hb hL O B Z af J zp) ?_;rintro _ _ ⟨_,⟨b,rq,rc,wq,wc,s1,s2,rfl,bn,cu,rfl⟩,rfl⟩;rw [G];refine Zm Y<|Zd Y V<|Zd Y V<|Zd Y V<|Za Y<|Za Y<|AN Y<|Zn [0,3,5,6,7] ?_;refine Zx<|Zq<|A0<|Zm Y<|Zv (Br Y)<|A5<|AU Y (fun g=>by cases g)<|fun g=>AC<|Zx<|A0<|Zm Y<|Zp Y rfl<|Zh 4 FG rfl rfl PB Y<|Zl OK Y<|Zm Y<|Zo Wh (EC (Dl H4 (D:=fun _=>True)) OS To h.its.im (fun _ _=>trivial) (trivial) (⟨by rw [X];first|done|rfl,by rw [X];first|done|rfl⟩) Y Y)<|Zm Y<|Zd Y rfl<|Zd Y rfl<|Za Y<|AN Y<|Zn [0,3,5,6,8,9] ?_;refine Zx<|Zq<|AQ<|Zq<|Az (n:=12) (0::1::3::7::15::31::63::3::131::511::1023::2047::[]) 0 AE AE V<|A2 0 V (AP Y)<|A2 1 V (AP Y)<|Ch (t:=36) Y (fun I=>?_) (fun I=>?_);·
  rw [I];refine B3 2 V (AP Y)<|B3 3 V (Ap Y V)<|B3 4 V (AB (off:=0) Hi V rfl HH Y)<|B3 5 V (AB (off:=8) G4 V rfl A6 Y)<|Xc (D':=127) 6 Y V rfl V (FR Wo (U)) (BO AF Y As) ?_;refine B3 7 V (AB (off:=8) G4 V rfl A6 Y)<|DQ 8 V Wh (BO AF Y As)<|B3 9 V (He Y Y)<|A2 10 V (AV Y Y)<|A2 11 V (Aw Y)<|Ag<|Zx<|Aq Y (fun h3=>?_) (fun h3=>?_);·
   refine A0<|AN Y<|Zn [4] ?_;refine Zx<|AJ<|Ac<|Zt<|AO V results7 Y (by exact ⟨V,V⟩)
  exfalso;omega
 rw [I];cases I
set_option maxHeartbeats 1000000 in
theorem rQ(h:c.ok)(B:BF q)(hk:k<c.ns)(sj:k<=1000000)(base:Int)(hb:0<=base/\base<=10000)(hL:FW ME (.slice pg L.length cg) L)(kv:L.length<=1000000)(cu:∀x∈L,x.fits)(gm:Ea q L=some r0)(pz:(c.pos -base).toNat<=c.win.length)(G:(BD q r0 base (DC c.pos base c.win)).2.2=true)(qj:c.next<1000000000)(ax:∀y∈c.its,y.key≠str (CJ q))(o9:c.its.length<500)(gy:(1+((BD q r0 base (DC c.pos base c.win)).1.rows.length:Int))<=c.z.fr)(Tp:AK)(zp:Nat×Nat):BZ prog 7 #[.pointer (some ⟨c.cp,0,none⟩),.agg #[I4 q.kd,I4 q.tb,I4 q.cl,I4 q.lo,I4 q.hi,I4 q.bq,I4 q.ot,I4 (k:Int),I4 base,.slice pg L.length cg]] [[(c.cp,.cells #[I4 c.pos,.slice c.wq c.win.length c.wc,.pointer (some ⟨c.z.r,0,none⟩),.pointer (some ⟨c.ip,0,none⟩),.map (some c.mi),.map (some c.mkb),I4 c.next] 87 (0,0))],c.sW,c.z.S,[(c.mb,.map c.esP c.ckP)],c.su,[(c.ip,.cells #[.map (some c.mq),c.lv] 163 (0,0))],[(c.mq,.map c.esQ c.ckQ)],c.ML,[(c.mi,.map c.esI c.ckI)],[(c.mkb,.map c.esK c.ckK)],c.SI,c.M,c.MR,ME,[(1,.cells (Lib.pow10Tab.map fun z=>Value.int .u64 z).toArray Tp zp)]] (fun w H'=>w= .bool true/\∃(d:CZ) (b:Nat) (rq wq:B6) (rc wc:Nat) (s:List A9),d.ok/\c.like d/\d.next=c.next+1/\d.M=s++c.M/\d.its=c.its++[(IP b (c.next+1) q (k:Int) base rq rc L (BD q r0 base (DC c.pos base c.win)) wq wc)]/\(∀e∈d.PL,e∈c.PL\/e.sz=(1+((BD q r0 base (DC c.pos base c.win)).1.rows.length:Int)))/\H'=[[(d.cp,.cells #[I4 d.pos,.slice d.wq d.win.length d.wc,.pointer (some ⟨d.z.r,0,none⟩),.pointer (some ⟨d.ip,0,none⟩),.map (some d.mi),.map (some d.mkb),I4 d.next] 87 (0,0))],d.sW,d.z.S,[(d.mb,.map d.esP d.ckP)],d.su,[(d.ip,.cells #[.map (some d.mq),d.lv] 163 (0,0))],[(d.mq,.map d.esQ d.ckQ)],d.ML,[(d.mi,.map d.esI d.ckI)],[(d.mkb,.map d.esK d.ckK)],d.SI,d.M,d.MR,ME,[(1,.cells (Lib.pow10Tab.map fun z=>Value.int .u64 z).toArray Tp zp)]]):=by
 have hg:=h.its.none ax;have p8:=h.its.len_eq.length_eq
 rw [B8,B8]at p8;have qo:(BD q r0 base (DC c.pos base c.win)).1.rows.length<=1000000:=by
  obtain ⟨_,qw,qx⟩:=Lp gm;have sJ:=h.wl
  have sw:(DC c.pos base c.win).length<=64:=by unfold DC;rw [CD];omega
  have h9:=Ot _ 0 (r0,base) _ 1000000000000000000 200 (Nr G) (fun y hy=>by have:=Py h.tookb (r:=y) (KB hy);omega) qx AW qw;have r9:(BD q r0 base (DC c.pos base c.win)).1.rows.length<=_:=h9.2
  omega
 refine Se func7 ntmps7 [0,1] ?_;intro u R;refine A0<|Ze (Bx #[I4 q.kd,I4 q.tb,I4 q.cl,I4 q.lo,I4 q.hi,I4 q.bq,I4 q.ot,I4 (k:Int),I4 base,.slice pg L.length cg])<|AG fun be=>A4 Y<|Zq<|A0<|Zm Y<|Zv (Be Lz Y Y)<|A5<|AU Y (fun l9=>by cases l9)<|fun l9=>AC<|Zx<|A0<|Zm Y<|Zo Wh (AA (cs:=#[I4 q.kd,I4 q.tb,I4 q.cl,I4 q.lo,I4 q.hi,I4 q.bq,I4 q.ot,I4 (k:Int),I4 base,.slice pg L.length cg]) S5 HH Y Wn (BK V))<|Zc [_,_] Y call28 Y V (Rm h B (k:Int) base hb hL kv cu gm pz Tp zp) ?_;rintro _ _ ⟨_,⟨b,rq,rc,wq,wc,s1,s2,rfl,qa,qb,rfl⟩,rfl⟩;rw [G];refine Zm Y<|Zd Y V<|Zd Y V<|Zd Y V<|Za Y<|Za Y<|AN Y<|Zn [0,3,5,6,7] ?_;refine Zx<|Zq<|A0<|Zm Y<|Zv (Br Y)<|A5<|AU Y (fun l5=>by cases l5)<|fun l5=>AC<|Zx<|A0<|Zm Y<|Zp Y rfl<|Zh 4 FG rfl rfl PB Y<|Zl OK Y<|Zm Y<|Zo Wh (EC (Dl H4 (D:=fun _=>True)) OS To h.its.im (fun _ _=>trivial) (trivial) (⟨by rw [hg];first|done|rfl,by rw [hg];first|done|rfl⟩) Y Y)<|Zm Y<|Zd Y rfl<|Zd Y rfl<|Za Y<|AN Y<|Zn [0,3,5,6,8,9] ?_;refine Zx<|Zq<|AQ<|Zq<|Az (n:=12) (0::1::3::7::15::31::63::3::131::511::1023::2047::[]) 0 AE AE V<|A2 0 V (AP Y)<|A2 1 V (AP Y)<|Ch (t:=36) Y (fun g1=>?_) (fun g1=>?_);·
  rw [g1];cases g1
 rw [g1];refine AM 2 V<|AM 3 V<|AM 4 V<|AM 5 V<|AM 6 V<|AM 7 V<|AM 8 V<|AM 9 V<|A2 10 V (AL Y Y)<|A2 11 V (Aw Y)<|Ag<|Zx<|D9 Y<|A0<|Zm Y<|AN Y<|Zn [0,5,6,8,46] ?_;refine Zx<|AU Y (fun h4=>by cases h4)<|fun h4=>A0<|Zm Y<|Zp Y V<|Zh 4 FG V rfl PB Y<|Zl OK Y<|Zo Wh (QU OS h.its.im Y)<|Zv (G6 (n:=500) Y Y)<|A4 Y<|Aq Y (fun h5=>by omega)<|fun h5=>AC<|A8<|Zx<|Zq<|FB (s:=c.z.S) Wo (fun hd=>?_);rw [Bg.keys]at hd;refine Az (n:=21) (0::1::3::7::0::16::48::112::240::0::0::1024::3072::7168::15360::32767::65535::131071::131071::262143::1048575::[]) 49152 AE AE V<|A2 0 V (AP Y)<|A2 1 V (Ap Y V)<|A2 2 V (AB (off:=2) FG V rfl dy Y)<|B9 3 V ID Y<|A2 4 V (AP Y)<|A2 5 V (Ap Y V)<|A2 6 V (AB (off:=0) Hi V rfl HH Y)<|A2 7 V (AB (off:=7) G4 V rfl A6 Y)<|B9 8 V AF Y<|A2 9 V (AP Y)<|A2 10 V (AP Y)<|A2 11 V (Ap Y V)<|A2 12 V (AB (off:=11) Hi V rfl B2 Y)<|Fk 13 V Wh (AA (cs:=#[_,_,_]) C6 B2 Y B1 (by exact (by apply HX.1;rfl)))<|Yz 14 15360 32767 [13,8,3] [false,true,true] [(8,(_,_)),(3,(_,_))] V Y V rfl V rfl (Zu [_] Y call30 Y V (UF wq (BD q r0 base (DC c.pos base c.win)).1.rows.length wc (I4 (BD q r0 base (DC c.pos base c.win)).1.val) (.bool (BD q r0 base (DC c.pos base c.win)).1.fnd) ⟨V,V⟩ ⟨V,V⟩ qo))<|D4<|BT<|Zz (l:=[15]) ?_;have p9:∀e∈c.PL,e.key≠str (CJ q):=fun e he hk=>by
  obtain ⟨y,hy,qz⟩:=C3.1 ((h.pk e.key).1 (DS he));exact ax y hy (qz.trans hk)
 refine B5 [false,false] [] V rfl (Zw [_,_,_,_] Y call29 Y V (xe h.pool hd hk A1 gy (K:=str (CJ q)) p9)) ?_ Bw Ah;rintro _ _ ⟨_,⟨rfl,z2,ep2,cp2,lp2,su2,bp,ql,d9,pq,rfl⟩,rfl⟩;refine BT<|A2 16 V (AP Y)<|A2 17 V (C8 Y V)<|A2 18 V (C8 Y V)<|A2 19 V (Aw Y)<|A2 20 V (Aw Y)<|Ag<|Zn [0,5,6,10,11] ?_;refine Zx<|Zq<|A0<|Zm Y<|Zv (Br Y)<|A5<|AU Y (fun l8=>by cases l8)<|fun l8=>AC<|Zx<|Zq<|Zq<|BX<|Zg<|Zm Y<|Zm Y<|Ze (Ai (vs:=[_]) (cs:=[_]) DA Fo Hs Y V rfl V rfl V)<|AG fun ga=>Ze (Eb (by_:=16) (news:=[_]) DA (V:Tryz.prog.info? 9=some Tryz.t9) V rfl V rfl Y (Gb 9) Y Wo Wh As V GP AW AW AW) ?_;rintro _ _ ⟨sq,q9,rfl⟩;obtain ⟨gq,cq,rfl⟩:=q9.form;rcases q9 with⟨_,h0,_⟩|⟨gq2,capq,curq,zq,hvq,rfl,hleq,hcmq,hcsq,htkq,hfrq⟩
 · cases h0
 injection hvq with hv1 hv2 hv3
 subst hv1 hv3;have o8:curq[0]?=some (.string (str (CJ q))):=by
  have h:=congrArg (fun l=>l[0]?) htkq;simpa using h
 refine Zv (AY DA Y)<|Zm Y<|A5<|AQ<|Zb [90,0,5,6,88,89] ?_;refine BA (e0:=[(90,_)]) (fun m e H=>∃(i:Nat) (bn:A3) (cO:List A9) (Z:Array MapEntry) (O:Nat) (j5:List (Int×A3)) (U:Array MapEntry) (I:Nat) (ic:List (Bk×A3)) (X:Array MapEntry) (J:Nat) (j3:List (Int×A3)),m=1 -i/\(i<=1/\GZ (if i=0 then c.its else c.its) c.next Z O j5 bn cO U I ic X J j3 c.SI)/\e=[(90,I4 (i:Int))]/\H=[[(c.ip,.cells #[.map (some c.mq),bn] 163 (0,0))],[(c.mq,.map Z O)],[(c.mi,.map U I)],[(c.mkb,.map X J)]]) (by exact ⟨0,c.lv,c.ML,c.esQ,c.ckQ,c.lmQ,c.esI,c.ckI,c.lmI,c.esK,c.ckK,c.lmK,V,⟨by decide,h.its⟩,V,V⟩) Wp ?_;rintro _ _ _ ⟨i,bn,cO,Z,O,j5,U,I,ic,X,J,j3,rfl,⟨hi,g⟩,rfl,rfl⟩;refine Zq<|BX<|Zg<|Zv (Au Y Y)<|A5<|Zq<|Aq Y (fun af=>?_) (fun af=>?_);·
  obtain rfl:i=0:=by simp at af;omega
  rw [Ax rfl]at g;refine AC<|Zx<|Zq<|AQ<|Zq<|BX<|Zg<|BV (BU DA Fo Y Y (by first|omega|decide|(simp;done)|(simp at af⊢;omega)))<|Zl HK Y (hv:=by exact o8)<|A4 Y<|Zg<|Zm Y<|Zm Y<|Xr [_,_] Y call31 Y rfl (WN g ax)<|Z0<|A8<|Zx<|BX<|Zg<|Ya (n:=1) Y Y<|Zm Y<|Z0<|Zn [90,0,5,6,88,89] ?_;refine Ab (e':=[(90,_)]) (by exact ⟨1,bn,cO,Z,O,j5,U,I,ic,X,J,j3,rfl,⟨by decide,by rw [An AW];exact g⟩,rfl,rfl⟩)
 obtain rfl:i=1:=by simp at af;omega
 rw [An AW]at g;refine Ay<|Zt<|Zt<|AR<|Zx<|A0<|Zm Y<|Zm Y<|Zm Y<|Zc [_,_,_] Y call32 Y V (NS g (x:=(IP b (c.next+1) q (k:Int) base rq rc L (BD q r0 base (DC c.pos base c.win)) wq wc)) ax V qj o9 B) ?_;rintro _ _ ⟨_,⟨rfl,eq5,cq5,lq5,ei5,ci5,li5,ek5,ck5,lk5,ek,rfl⟩,rfl⟩;refine A5<|Zq<|CP (s1:=s2) (s2:=c.MR) Wo Wo ?_;refine CP (s1:=s1) (s2:=c.M) Wo Wo ?_;refine Zg<|A4 Y<|AJ<|AO V results7 Y (by
  refine ⟨rfl,({c with z:=z2,PL:=c.PL++[⟨bp,str (CJ q),(k:Int),(1+((BD q r0 base (DC c.pos base c.win)).1.rows.length:Int))⟩],esP:=ep2,ckP:=cp2,lmP:=lp2,su:=su2,next:=c.next+1,its:=c.its++[(IP b (c.next+1) q (k:Int) base rq rc L (BD q r0 base (DC c.pos base c.win)) wq wc)],esQ:=eq5,ckQ:=cq5,lmQ:=lq5,lv:= .pointer none,ML:=[],esI:=ei5,ckI:=ci5,lmI:=li5,esK:=ek5,ckK:=ck5,lmK:=lk5,SI:=c.SI++[(IP b (c.next+1) q (k:Int) base rq rc L (BD q r0 base (DC c.pos base c.win)) wq wc).ch],M:=s1++c.M,MR:=s2++c.MR}:CZ),b,rq,wq,rc,wc,s1,⟨⟨h.pos,h.win,h.wl,Wz h.tookb (fun q B=>by simp [B]),pq,ru h.pk _ _ rfl,ek,fun y hy=>?_⟩,fun y hy=>?_⟩,⟨rfl,rfl,rfl,rfl,d9⟩,rfl,rfl,rfl,fun e he=>(by rcases Bm.1 he with h9|h9;exact .inl h9;exact .inr (by rw [C1.1 h9])),?_⟩
  · rcases Bm.1 hy with hy|hy
    · exact h.tns y hy
    · rw [C1.1 hy];show _<_;exact (by simp only [IP];omega)
  · rcases Bm.1 hy with hy|hy
    · exact (h.all y hy).mono (fun q B=>by simp [B]) (fun q B=>by simp [B])
    · rw [C1.1 hy];exact Ti B ⟨by omega,by omega⟩ hb kv cu gm pz G (qa.mono fun q B=>by simp [B]) (qb.mono fun q B=>by simp [B])
  · simp only [ql];rfl)
set_option maxHeartbeats 1000000 in
theorem ll(h:c.ok)(B:BF q)(hk:k<c.ns)(zk:k<=1000000)(base:Int)(hb:0<=base/\base<=10000)(hL:FW ME (.slice pg L.length cg) L)(l9:L.length<=1000000)(X:∀x∈L,x.fits)(j3:Ea q L=some r0)(qb:(c.pos -base).toNat<=c.win.length)(I:(BD q r0 base (DC c.pos base c.win)).2.2=true)(vw:c.next<1000000000)(hx:x∈c.its)(O:x.key=str (CJ q))(zt:x.base<base)(wo:(1+((BD q r0 base (DC c.pos base c.win)).1.rows.length:Int))<=c.z.fr)(Tp:AK)(zp:Nat×Nat):BZ prog 7 #[.pointer (some ⟨c.cp,0,none⟩),.agg #[I4 q.kd,I4 q.tb,I4 q.cl,I4 q.lo,I4 q.hi,I4 q.bq,I4 q.ot,I4 (k:Int),I4 base,.slice pg L.length cg]] [[(c.cp,.cells #[I4 c.pos,.slice c.wq c.win.length c.wc,.pointer (some ⟨c.z.r,0,none⟩),.pointer (some ⟨c.ip,0,none⟩),.map (some c.mi),.map (some c.mkb),I4 c.next] 87 (0,0))],c.sW,c.z.S,[(c.mb,.map c.esP c.ckP)],c.su,[(c.ip,.cells #[.map (some c.mq),c.lv] 163 (0,0))],[(c.mq,.map c.esQ c.ckQ)],c.ML,[(c.mi,.map c.esI c.ckI)],[(c.mkb,.map c.esK c.ckK)],c.SI,c.M,c.MR,ME,[(1,.cells (Lib.pow10Tab.map fun z=>Value.int .u64 z).toArray Tp zp)]] (fun w H'=>w= .bool true/\∃(d:CZ) (b:Nat) (rq wq:B6) (rc wc:Nat) (s:List A9),d.ok/\c.like d/\d.next=c.next+1/\d.M=s++c.M/\d.its=(c.its.filter fun y=>y.key≠str (CJ q))++[(IP b (c.next+1) q x.tn base rq rc L (BD q r0 base (DC c.pos base c.win)) wq wc)]/\(∀e∈d.PL,e∈c.PL\/e.sz=(1+((BD q r0 base (DC c.pos base c.win)).1.rows.length:Int)))/\H'=[[(d.cp,.cells #[I4 d.pos,.slice d.wq d.win.length d.wc,.pointer (some ⟨d.z.r,0,none⟩),.pointer (some ⟨d.ip,0,none⟩),.map (some d.mi),.map (some d.mkb),I4 d.next] 87 (0,0))],d.sW,d.z.S,[(d.mb,.map d.esP d.ckP)],d.su,[(d.ip,.cells #[.map (some d.mq),d.lv] 163 (0,0))],[(d.mq,.map d.esQ d.ckQ)],d.ML,[(d.mi,.map d.esI d.ckI)],[(d.mkb,.map d.esK d.ckK)],d.SI,d.M,d.MR,ME,[(1,.cells (Lib.pow10Tab.map fun z=>Value.int .u64 z).toArray Tp zp)]]):=by
 have hg:=h.its.get hx;rw [O]at hg;have p9:(x.b,Obj.cells #[I4 x.q.kd,I4 x.q.tb,I4 x.q.cl,I4 x.q.lo,I4 x.q.hi,I4 x.q.bq,I4 x.q.ot,I4 x.tn,I4 x.base,.slice x.rq x.L.length x.rc,I4 x.id,.slice x.wq x.res.rows.length x.wc,I4 x.res.val,.bool x.res.fnd,I4 x.since] 93 (0,0))∈c.SI:=h.its.sub x hx
 have ql:=h.all x hx;have x9:=h.tns x hx
 obtain ⟨k2,vo⟩:∃k2:Nat,x.tn=(k2:Int):=⟨x.tn.toNat,by have:=ql.tn;omega⟩;obtain ⟨y,hy,kv⟩:=C3.1 ((h.pk x.key).2 (DS hx));obtain ⟨L1,L2,ek⟩:=Q6 hy;have G:=h.pool
 rw [ek]at G;rw [O]at kv;have zf:=h.pool.size hy
 have q9:∀z∈(c.its.filter fun y=>y.key≠str (CJ q)),z.key≠str (CJ q):=fun z hz=>by simpa using(FF.1 hz).2
 have j5:(c.its.filter fun y=>y.key≠str (CJ q)).length<500:=by
  have h1:=h.its.len;have h2:(c.its.filter fun y=>y.key≠str (CJ q)).length<c.its.length:=by
   rcases E4 (c.its.filter fun y=>y.key≠str (CJ q)).length c.its.length with h3|h3
   · exact h3
   · have h4:=Up.eq_of_length (Nat.le_antisymm (ON (fun y=>decide (y.key≠str (CJ q))) c.its) h3)
     exact absurd O (q9 x (by rw [h4];exact hx))
  omega
 have w9:(BD q r0 base (DC c.pos base c.win)).1.rows.length<=1000000:=by
  obtain ⟨_,wh,wz⟩:=Lp j3;have zm:=h.wl
  have zl:(DC c.pos base c.win).length<=64:=by unfold DC;rw [CD];omega
  have U:=Ot _ 0 (r0,base) _ 1000000000000000000 200 (Nr I) (fun y hy=>by have:=Py h.tookb (r:=y) (KB hy);omega) wz AW wh;have zi:(BD q r0 base (DC c.pos base c.win)).1.rows.length<=_:=U.2
  omega
 refine Se func7 ntmps7 [0,1] ?_;intro u R;refine A0<|Ze (Bx #[I4 q.kd,I4 q.tb,I4 q.cl,I4 q.lo,I4 q.hi,I4 q.bq,I4 q.ot,I4 (k:Int),I4 base,.slice pg L.length cg])<|AG fun be=>A4 Y<|Zq<|A0<|Zm Y<|Zv (Be Lz Y Y)<|A5<|AU Y (fun p8=>by cases p8)<|fun p8=>AC<|Zx<|A0<|Zm Y<|Zo Wh (AA (cs:=#[I4 q.kd,I4 q.tb,I4 q.cl,I4 q.lo,I4 q.hi,I4 q.bq,I4 q.ot,I4 (k:Int),I4 base,.slice pg L.length cg]) S5 HH Y Wn (BK V))<|Zc [_,_] Y call28 Y V (Rm h B (k:Int) base hb hL l9 X j3 qb Tp zp) ?_;rintro _ _ ⟨_,⟨b,rq,rc,wq,wc,s1,s2,rfl,sO,ve,rfl⟩,rfl⟩;rw [I];refine Zm Y<|Zd Y V<|Zd Y V<|Zd Y V<|Za Y<|Za Y<|AN Y<|Zn [0,3,5,6,7] ?_;refine Zx<|Zq<|A0<|Zm Y<|Zv (Br Y)<|A5<|AU Y (fun o8=>by cases o8)<|fun o8=>AC<|Zx<|A0<|Zm Y<|Zp Y rfl<|Zh 4 FG rfl rfl PB Y<|Zl OK Y<|Zm Y<|Zo Wh (EC (Dl H4 (D:=fun _=>True)) OS To h.its.im (fun _ _=>trivial) (trivial) (⟨by rw [hg];first|done|rfl,by rw [hg];first|done|rfl⟩) Y Y)<|Zm Y<|Zd Y rfl<|Zd Y rfl<|Za Y<|AN Y<|Zn [0,3,5,6,8,9] ?_;refine Zx<|Zq<|AQ<|Zq<|Az (n:=12) (0::1::3::7::15::31::63::3::131::511::1023::2047::[]) 0 AE AE V<|A2 0 V (AP Y)<|A2 1 V (AP Y)<|Ch (t:=36) Y (fun g1=>?_) (fun g1=>?_);·
  rw [g1];refine B3 2 V (AP Y)<|B3 3 V (Ap Y V)<|B3 4 V (AB (off:=0) Hi V rfl HH Y)<|B3 5 V (AB (off:=8) G4 V rfl A6 Y)<|Xc (D':=127) 6 Y V rfl V (FR Wo (p9)) (BO AF Y As) ?_;refine B3 7 V (AB (off:=8) G4 V rfl A6 Y)<|DQ 8 V Wh (BO AF Y As)<|B3 9 V (He Y Y)<|A2 10 V (AV Y Y)<|A2 11 V (Aw Y)<|Ag<|Zx<|Aq Y (fun h3=>by omega)<|fun h3=>A0<|Zm Y<|AN Y<|Zn [0,5,6,8,46] ?_;refine Zx<|AU Y (fun h4=>?_) (fun h4=>?_);·
   refine Zg<|Zm Y<|Zm Y<|Zp Y V<|Zh 0 Hi V rfl HH Y<|Zh 7 G4 V rfl A6 Y<|CG (Gd Wo (p9)) (BO AF Y As) V rfl<|Zp Y V<|Zh 0 Hi V rfl HH Y<|Zh 7 G4 V rfl A6 Y<|Xe (Zs A6 Y Y V (hi:=by(simp;done)))<|Z0<|A8<|Zx<|Zq<|FB (s:=c.z.S) Wo (fun hd=>?_);rw [Bg.keys]at hd;refine Az (n:=21) (0::1::3::7::0::16::48::112::240::0::0::1024::3072::7168::15360::32767::65535::131071::131071::262143::1048575::[]) 49152 AE AE V<|A2 0 V (AP Y)<|A2 1 V (Ap Y V)<|A2 2 V (AB (off:=2) FG V rfl dy Y)<|B9 3 V ID Y<|A2 4 V (AP Y)<|A2 5 V (Ap Y V)<|A2 6 V (AB (off:=0) Hi V rfl HH Y)<|A2 7 V (AB (off:=7) G4 V rfl A6 Y)<|B9 8 V AF Y<|A2 9 V (AP Y)<|A2 10 V (AP Y)<|A2 11 V (Ap Y V)<|A2 12 V (AB (off:=11) Hi V rfl B2 Y)<|Fk 13 V Wh (AA (cs:=#[_,_,_]) C6 B2 Y B1 (by exact (by apply HX.1;rfl)))<|Yz 14 15360 32767 [13,8,3] [false,true,true] [(8,(_,_)),(3,(_,_))] V Y V rfl V rfl (Zu [_] Y call30 Y V (UF wq (BD q r0 base (DC c.pos base c.win)).1.rows.length wc (I4 (BD q r0 base (DC c.pos base c.win)).1.val) (.bool (BD q r0 base (DC c.pos base c.win)).1.fnd) ⟨V,V⟩ ⟨V,V⟩ w9))<|D4<|BT<|Zz (l:=[15]) ?_;have Z:=xc G hd (k:=k2) A1 (sz:=(1+((BD q r0 base (DC c.pos base c.win)).1.rows.length:Int))) A1 A1
   rw [<-vo,kv]at Z;refine B5 [false,false] [] V rfl (Zw [_,_,_,_] Y call29 Y V (Z)) ?_ Bw Ah;rintro _ _ ⟨_,⟨rfl,z2,ep2,cp2,lp2,su2,bp,vz,gm,qa,rfl⟩,rfl⟩;refine BT<|A2 16 V (AP Y)<|A2 17 V (C8 Y V)<|A2 18 V (C8 Y V)<|A2 19 V (Aw Y)<|A2 20 V (Aw Y)<|Ag<|Zn [0,5,6,10,11] ?_;refine Zx<|Zq<|A0<|Zm Y<|Zv (Br Y)<|A5<|AU Y (fun o9=>by cases o9)<|fun o9=>AC<|Zx<|Zq<|Zq<|BX<|Zg<|Zm Y<|Zm Y<|Ze (Ai (vs:=[_]) (cs:=[_]) DA Fo Hs Y V rfl V rfl V)<|AG fun ga=>Ze (Eb (by_:=16) (news:=[_]) DA (V:Tryz.prog.info? 9=some Tryz.t9) V rfl V rfl Y (Gb 9) Y Wo Wh As V GP AW AW AW) ?_;rintro _ _ ⟨sq,qj,rfl⟩;obtain ⟨gq,cq,rfl⟩:=qj.form;rcases qj with⟨_,h0,_⟩|⟨gq2,capq,curq,zq,hvq,rfl,hleq,hcmq,hcsq,htkq,hfrq⟩
   · cases h0
   injection hvq with hv1 hv2 hv3
   subst hv1 hv3;have pq:curq[0]?=some (.string (str (CJ q))):=by
    have h:=congrArg (fun l=>l[0]?) htkq;simpa using h
   refine Zv (AY DA Y)<|Zm Y<|A5<|AQ<|Zb [90,0,5,6,88,89] ?_;refine BA (e0:=[(90,_)]) (fun m e H=>∃(i:Nat) (l5:A3) (l8:List A9) (d9:Array MapEntry) (bn:Nat) (qx:List (Int×A3)) (cu:Array MapEntry) (af:Nat) (qo:List (Bk×A3)) (cO:Array MapEntry) (ax:Nat) (qw:List (Int×A3)),m=1 -i/\(i<=1/\GZ (if i=0 then c.its else(c.its.filter fun y=>y.key≠str (CJ q))) c.next d9 bn qx l5 l8 cu af qo cO ax qw c.SI)/\e=[(90,I4 (i:Int))]/\H=[[(c.ip,.cells #[.map (some c.mq),l5] 163 (0,0))],[(c.mq,.map d9 bn)],[(c.mi,.map cu af)],[(c.mkb,.map cO ax)]]) (by exact ⟨0,c.lv,c.ML,c.esQ,c.ckQ,c.lmQ,c.esI,c.ckI,c.lmI,c.esK,c.ckK,c.lmK,V,⟨by decide,h.its⟩,V,V⟩) Wp ?_;rintro _ _ _ ⟨i,l5,l8,d9,bn,qx,cu,af,qo,cO,ax,qw,rfl,⟨hi,g⟩,rfl,rfl⟩;refine Zq<|BX<|Zg<|Zv (Au Y Y)<|A5<|Zq<|Aq Y (fun J=>?_) (fun J=>?_);·
    obtain rfl:i=0:=by simp at J;omega
    rw [Ax rfl]at g;refine AC<|Zx<|Zq<|AQ<|Zq<|BX<|Zg<|BV (BU DA Fo Y Y (by first|omega|decide|(simp;done)|(simp at J⊢;omega)))<|Zl HK Y (hv:=by exact pq)<|A4 Y<|Zg<|Zm Y<|Zm Y ?_;have pz:=WO (cp:=c.cp) (r:=c.z.r) (ip:=c.ip) (mi:=c.mi) (mk:=c.mkb) (mq:=c.mq) (pos:=c.pos) (wv:= .slice c.wq c.win.length c.wc) g hx
    rw [O]at pz;refine Zc [_,_] Y call31 Y V (pz) ?_;rintro _ _ ⟨_,⟨rfl,sM,sj,yt,sw,qz,y5,sJ,r9,y9,ic,rfl⟩,rfl⟩;refine Z0<|A8<|Zx<|BX<|Zg<|Ya (n:=1) Y Y<|Zm Y<|Z0<|Zn [90,0,5,6,88,89] ?_;refine Ab (e':=[(90,_)]) (by exact ⟨1,_,[],sM,sj,yt,sw,qz,y5,sJ,r9,y9,rfl,⟨by decide,by rw [An AW];exact ic⟩,rfl,rfl⟩)
   obtain rfl:i=1:=by simp at J;omega
   rw [An AW]at g;refine Ay<|Zt<|Zt<|AR<|Zx<|A0<|Zm Y<|Zm Y<|Zm Y<|Zc [_,_,_] Y call32 Y V (NS g (x:=(IP b (c.next+1) q x.tn base rq rc L (BD q r0 base (DC c.pos base c.win)) wq wc)) q9 V vw j5 B) ?_;rintro _ _ ⟨_,⟨rfl,eq5,cq5,lq5,ei5,ci5,li5,ek5,ck5,lk5,gy,rfl⟩,rfl⟩;refine A5<|Zq<|CP (s1:=s2) (s2:=c.MR) Wo Wo ?_;refine CP (s1:=s1) (s2:=c.M) Wo Wo ?_;refine Zg<|A4 Y<|AJ<|AO V results7 Y (by
    refine ⟨rfl,({c with z:=z2,PL:=L1++L2++[⟨bp,str (CJ q),x.tn,(1+((BD q r0 base (DC c.pos base c.win)).1.rows.length:Int))⟩],esP:=ep2,ckP:=cp2,lmP:=lp2,su:=su2,next:=c.next+1,its:=(c.its.filter fun y=>y.key≠str (CJ q))++[(IP b (c.next+1) q x.tn base rq rc L (BD q r0 base (DC c.pos base c.win)) wq wc)],esQ:=eq5,ckQ:=cq5,lmQ:=lq5,lv:= .pointer none,ML:=[],esI:=ei5,ckI:=ci5,lmI:=li5,esK:=ek5,ckK:=ck5,lmK:=lk5,SI:=c.SI++[(IP b (c.next+1) q x.tn base rq rc L (BD q r0 base (DC c.pos base c.win)) wq wc).ch],M:=s1++c.M,MR:=s2++c.MR}:CZ),b,rq,wq,rc,wc,s1,⟨⟨h.pos,h.win,h.wl,Wz h.tookb (fun q B=>by simp [B]),qa,ru (Vj h.pk ek h.pool.keys kv) _ _ rfl,gy,fun y hy=>?_⟩,fun y hy=>?_⟩,⟨rfl,rfl,rfl,rfl,gm⟩,rfl,rfl,rfl,fun e he=>(by rcases Bm.1 he with U|U;exact .inl (by rw [ek];rcases Bm.1 U with U|U<;>simp [U]);exact .inr (by rw [C1.1 U])),?_⟩
    · rcases Bm.1 hy with hy|hy
      · exact h.tns y (FF.1 hy).1
      · rw [C1.1 hy];show _<_;exact x9
    · rcases Bm.1 hy with hy|hy
      · exact (h.all y (FF.1 hy).1).mono (fun q B=>by simp [B]) (fun q B=>by simp [B])
      · rw [C1.1 hy];exact Ti B ql.tn hb l9 X j3 qb I (sO.mono fun q B=>by simp [B]) (ve.mono fun q B=>by simp [B])
    · simp only [vz];rfl)
  cases h4
 rw [g1];cases g1
variable{s:List A9}
theorem Q0{b:Nat}{o o':Obj}(h:(b,o)∈s):(b,o')∈IU b o' s:=C3.2 ⟨_,h,Ax rfl⟩
theorem VJ(b:Nat)(o o':Obj)(s:List A9):IU b o' (IU b o s)=IU b o' s:=by
 unfold IU;rw [LN];refine W7 fun p _=>?_;show(if(if p.1=b then(b,o)else p).1=b then(b,o')else(if p.1=b then(b,o)else p))=if p.1=b then(b,o')else p
 by_cases h:p.1=b
 · simp only [Ax h,Hj]
 · simp only [An h]
def ItM.upd(x:ItM)(p:Int)(cs:List Chg)(wq:B6)(wc:Nat):ItM:={x with res:=(Ba x.q x.res cs).1,wq:=wq,wc:=wc,since:=p}
structure ItM.live(MR:List A9)(x:ItM):Prop where
 q:BF x.q
 rw:DW MR (.slice x.wq x.res.rows.length x.wc) x.res.rows
 wn:x.res.rows.length<=10000000
 wv:-2000000000000000000<=x.res.val/\x.res.val<=2000000000000000000
theorem ItM.ok.live(h:c.okb)(hx:x.ok c.M c.MR c.pos c.win):x.live c.MR:=by
 obtain ⟨r0,m,g⟩:=hx.run;obtain ⟨_,B,G⟩:=Lp m;have X:=h.wl
 have U:(DC c.pos x.base c.win).length<=64:=by unfold DC;rw [CD];omega
 have I:=Ot _ 0 (r0,x.base) _ 1000000000000000000 200 g (fun y hy=>by have:=Py h (r:=y) (KB hy);omega) G AW B;have J:x.res.rows.length<=_:=I.2
 have O:_<=x.res.val/\x.res.val<=_:=I.1;exact ⟨hx.q,hx.rw,by omega,by omega,by omega⟩
variable{d:CZ}{qa:B6}{cap:Nat}{cs:List Chg}{tl:List Bk}{tv:A3}{st:List A9}
set_option maxHeartbeats 1000000 in
theorem pK(h:d.okb)(hx:x∈d.its)(U:x.live d.MR)(p:Int)(hC:Cf ME (.slice qa cs.length cap) cs)(af:cs.length<=1000)(X:(Ba x.q x.res cs).2.2=true)(hT:Row 9 tv (tl.map Value.string) st)(ic:tl.length<=1000000)(bt br bc:Nat):BZ prog 47 #[.string x.key,.pointer (some ⟨x.b,0,none⟩),I5 bt,I5 br,I5 bc] [[(bt,.cells #[tv] 45 (0,0))],[(br,.cells #[I4 p,.slice qa cs.length cap] 50 (0,0))],[(bc,.cells #[.pointer (some ⟨d.cp,0,none⟩)] 27 (0,0))],st,[(d.cp,.cells d.BA1 87 (0,0))],d.sW,d.z.S,[(d.mb,.map d.esP d.ckP)],d.su,[(d.ip,.cells #[.map (some d.mq),d.lv] 163 (0,0))],[(d.mq,.map d.esQ d.ckQ)],d.ML,[(d.mi,.map d.esI d.ckI)],[(d.mkb,.map d.esK d.ckK)],d.SI,d.M,d.MR,ME] (fun v H'=>v=undef/\∃wq wc d9 cO s,Row 9 d9 ((tl++[x.key]).map Value.string) cO/\DW s (.slice wq (Ba x.q x.res cs).1.rows.length wc) (Ba x.q x.res cs).1.rows/\(d.SI.map (·.1)).Nodup/\H'=[[(bt,.cells #[d9] 45 (0,0))],[(br,.cells #[I4 p,.slice qa cs.length cap] 50 (0,0))],[(bc,.cells #[.pointer (some ⟨d.cp,0,none⟩)] 27 (0,0))],cO,[(d.cp,.cells d.BA1 87 (0,0))],d.sW,d.z.S,[(d.mb,.map d.esP d.ckP)],d.su,[(d.ip,.cells #[.map (some d.mq),d.lv] 163 (0,0))],[(d.mq,.map d.esQ d.ckQ)],d.ML,[(d.mi,.map d.esI d.ckI)],[(d.mkb,.map d.esK d.ckK)],IU x.b (x.upd p cs wq wc).obj d.SI,d.M,s++d.MR,ME]):=by
 have gy:=mL;have B:(x.b,Obj.cells x.BA0 93 (0,0))∈d.SI:=h.its.sub x hx
 obtain ⟨gt,ct,rfl⟩:=hT.form;refine Se func47 ntmps47 [0,1,2,3,4] ?_;intro u R;refine Zq<|FB (s:=d.SI) Wo (fun ax=>?_);refine Zg<|Zl I3 Y<|Zm Y<|Ze (Ai (vs:=[_]) (cs:=[_]) DA Fo Hs Y V rfl V rfl V)<|AG fun gb=>Ze (Eb (by_:=16) (news:=[_]) DA (V:Tryz.prog.info? 9=some Tryz.t9) V rfl V rfl Y hT Y Wo Wh As V GP AW (by(simp only [B8];omega)) (by(simp only [B8];omega))) ?_;rintro _ _ ⟨cu,O,rfl⟩;obtain ⟨gq,gm,rfl⟩:=O.form;refine Xe (Zs HI Y Y V)<|A5<|Zq<|Az (n:=19) (0::1::3::7::15::0::32::96::224::0::1023::2047::4095::4095::4095::0::40959::114687::262143::[]) 99328 AE AE V<|A2 0 V (AP Y)<|A2 1 V (Ap Y V)<|A2 2 V (AB (off:=0) Hi V rfl HH Y)<|A2 3 V (Ar (off:=0) G4 V rfl CN Y)<|Ce (D':=31) 4 V rfl V (FR Wo (B)) (AA (cs:=#[_,_,_,_,_,_,_]) F2 CN Y B1 (by exact (by apply HX.1;rfl))) ?_;refine A2 5 V (AP Y)<|A2 6 V (Ap Y V)<|A2 7 V (AB (off:=11) Hi V rfl B2 Y)<|Ce (D':=511) 8 V rfl V (FR Wo (B)) (AA (cs:=#[_,_,_]) C6 B2 Y B1 (by exact (by apply HX.1;rfl))) ?_;refine Fk 9 V Wh (AA (cs:=#[_,_]) HP F1 Y B1 (BK V))<|Zz (l:=[10,15])<|B5 [false,false,false] [] V rfl (Zw [_,_,_] Y call48 Y V (JS x.q U.q p qa cap cs hC af U.rw U.wn U.wv)) ?_ Bw ?_;·
  rintro _ _ ⟨_,⟨ek,s3,rfl,g,rfl⟩,rfl⟩;refine ⟨Aa,?_⟩;obtain ⟨G,m,rfl⟩:=g.form;rw [X];refine A2 11 V (AP Y)<|A2 12 V (C8 Y V)<|A2 13 V (C8 Y V)<|A2 14 V (C8 Y V)<|Zz (l:=[15])<|B5 [] [] V rfl (Al Gk #[_,_,_]) ?_ (fun _ _ h=>h.elim) Ah;rintro _ _ ⟨bn,rfl,rfl⟩;refine BT<|Yw 16 131071 V (Xw B2 #[.slice G (Ba x.q x.res cs).1.rows.length m,I4 (Ba x.q x.res cs).1.val,.bool (Ba x.q x.res cs).1.fnd])<|D4<|A2 17 V (Aw Y)<|A2 18 V (Aw Y)<|Ag<|Zn [0,1,3,4,7,9] ?_;refine Zx<|Zq<|A0<|Zm Y<|Zv (Br Y)<|A5<|AU Y (fun I=>by cases I)<|fun I=>AC<|Zx ?_;have Z:=Mj g
  have J:(x.b,Obj.cells #[I4 x.q.kd,I4 x.q.tb,I4 x.q.cl,I4 x.q.lo,I4 x.q.hi,I4 x.q.bq,I4 x.q.ot,I4 x.tn,I4 x.base,.slice x.rq x.L.length x.rc,I4 x.id,.slice G (Ba x.q x.res cs).1.rows.length m,I4 (Ba x.q x.res cs).1.val,.bool (Ba x.q x.res cs).1.fnd,I4 x.since] 93 (0,0))∈IU x.b (.cells #[I4 x.q.kd,I4 x.q.tb,I4 x.q.cl,I4 x.q.lo,I4 x.q.hi,I4 x.q.bq,I4 x.q.ot,I4 x.tn,I4 x.base,.slice x.rq x.L.length x.rc,I4 x.id,.slice G (Ba x.q x.res cs).1.rows.length m,I4 (Ba x.q x.res cs).1.val,.bool (Ba x.q x.res cs).1.fnd,I4 x.since] 93 (0,0)) d.SI:=Q0 B;refine CP (s1:=s3) (s2:=d.MR) Wo Wo ?_;refine Az (n:=11) (0::0::0::0::8::5::37::101::255::511::1023::[]) 1152 AE AE rfl<|A2 0 rfl (AP Y)<|A2 1 rfl (AP Y)<|Fk 2 rfl Wh (AA (cs:=#[_,_,_]) C6 B2 Y B1 (BK rfl))<|A2 3 rfl (AB (off:=0) Ge rfl rfl A6 Y)<|B9 4 rfl AF Y<|A2 5 rfl (Ap Y rfl)<|A2 6 rfl (AB (off:=11) Hi rfl rfl B2 Y)<|Zz (l:=[7])<|B5 [true,false] [(4,(_,_))] rfl rfl (OV B2 Y Y HT Wo (B) (by exact congrArg (fun a=>IU x.b (Obj.cells a 93 (0,0)) d.SI) (rfl:_=(#[I4 x.q.kd,I4 x.q.tb,I4 x.q.cl,I4 x.q.lo,I4 x.q.hi,I4 x.q.bq,I4 x.q.ot,I4 x.tn,I4 x.base,.slice x.rq x.L.length x.rc,I4 x.id,.slice G (Ba x.q x.res cs).1.rows.length m,I4 (Ba x.q x.res cs).1.val,.bool (Ba x.q x.res cs).1.fnd,I4 x.since]:AH))) Fc B1 (by exact BC _)) ?_ (fun _ _ h=>h.elim) Ah;rintro _ _ ⟨rfl,rfl⟩;refine BT<|A2 8 V (Ap Y V)<|A2 9 V (AB (off:=14) Hi V rfl A6 Y)<|Zz (l:=[10])<|B5 [false] [] V rfl (Gr A6 Y Y V Wo (J) (by exact (VJ _ _ _ _).trans (congrArg (fun a=>IU x.b (Obj.cells a 93 (0,0)) d.SI) (V:_=(#[I4 x.q.kd,I4 x.q.tb,I4 x.q.cl,I4 x.q.lo,I4 x.q.hi,I4 x.q.bq,I4 x.q.ot,I4 x.tn,I4 x.base,.slice x.rq x.L.length x.rc,I4 x.id,.slice G (Ba x.q x.res cs).1.rows.length m,I4 (Ba x.q x.res cs).1.val,.bool (Ba x.q x.res cs).1.fnd,I4 p]:AH)))) B1 (by exact BC _)) ?_ (fun _ _ h=>h.elim) Ah;rintro _ _ ⟨rfl,rfl⟩
  refine BT<|Ag<|Cw rfl results47 (by exact ⟨rfl,G,m,_,cu,s3,(by rw [C2];exact O),DY g Z,ax,rfl⟩)
 refine B5 [true,true,true] [(9,(_,_)),(8,(_,_)),(4,(_,_))] V rfl (Al Gk #[_,_,_]) ?_ (fun _ _ h=>h.elim) Ah;rintro _ _ ⟨bn,rfl,rfl⟩;refine ⟨Zk (FL (by simp [*]) (FL (by simp [*]) (Aa))),?_⟩;refine Zz (l:=[10])<|B5 [false,false,false] [] V rfl (Zw [_,_,_] Y call48 Y V (JS x.q U.q p qa cap cs hC af U.rw U.wn U.wv)) ?_ Bw Ah;rintro _ _ ⟨_,⟨ek,s3,rfl,g,rfl⟩,rfl⟩;refine ⟨Aa,?_⟩;obtain ⟨G,m,rfl⟩:=g.form;rw [X];refine A2 11 V (AP Y)<|A2 12 V (C8 Y V)<|A2 13 V (C8 Y V)<|A2 14 V (C8 Y V)<|Zz (l:=[16])<|B5 [] [] V rfl (Xw B2 #[.slice G (Ba x.q x.res cs).1.rows.length m,I4 (Ba x.q x.res cs).1.val,.bool (Ba x.q x.res cs).1.fnd]) ?_ (fun _ _ h=>h.elim) Ah;rintro _ _ ⟨rfl,rfl⟩;refine BT<|A2 17 V (Aw Y)<|A2 18 V (Aw Y)<|Ag<|Zn [0,1,3,4,7,9] ?_;refine Zx<|Zq<|A0<|Zm Y<|Zv (Br Y)<|A5<|AU Y (fun I=>by cases I)<|fun I=>AC<|Zx ?_;have Z:=Mj g
 have J:(x.b,Obj.cells #[I4 x.q.kd,I4 x.q.tb,I4 x.q.cl,I4 x.q.lo,I4 x.q.hi,I4 x.q.bq,I4 x.q.ot,I4 x.tn,I4 x.base,.slice x.rq x.L.length x.rc,I4 x.id,.slice G (Ba x.q x.res cs).1.rows.length m,I4 (Ba x.q x.res cs).1.val,.bool (Ba x.q x.res cs).1.fnd,I4 x.since] 93 (0,0))∈IU x.b (.cells #[I4 x.q.kd,I4 x.q.tb,I4 x.q.cl,I4 x.q.lo,I4 x.q.hi,I4 x.q.bq,I4 x.q.ot,I4 x.tn,I4 x.base,.slice x.rq x.L.length x.rc,I4 x.id,.slice G (Ba x.q x.res cs).1.rows.length m,I4 (Ba x.q x.res cs).1.val,.bool (Ba x.q x.res cs).1.fnd,I4 x.since] 93 (0,0)) d.SI:=Q0 B;refine CP (s1:=s3) (s2:=d.MR) Wo Wo ?_;refine Az (n:=11) (0::0::0::0::8::5::37::101::255::511::1023::[]) 1152 AE AE rfl<|A2 0 rfl (AP Y)<|A2 1 rfl (AP Y)<|Fk 2 rfl Wh (AA (cs:=#[_,_,_]) C6 B2 Y B1 (BK rfl))<|A2 3 rfl (AB (off:=0) Ge rfl rfl A6 Y)<|B9 4 rfl AF Y<|A2 5 rfl (Ap Y rfl)<|A2 6 rfl (AB (off:=11) Hi rfl rfl B2 Y)<|Zz (l:=[7])<|B5 [true,false] [(4,(_,_))] rfl rfl (OV B2 Y Y HT Wo (B) (by exact congrArg (fun a=>IU x.b (Obj.cells a 93 (0,0)) d.SI) (rfl:_=(#[I4 x.q.kd,I4 x.q.tb,I4 x.q.cl,I4 x.q.lo,I4 x.q.hi,I4 x.q.bq,I4 x.q.ot,I4 x.tn,I4 x.base,.slice x.rq x.L.length x.rc,I4 x.id,.slice G (Ba x.q x.res cs).1.rows.length m,I4 (Ba x.q x.res cs).1.val,.bool (Ba x.q x.res cs).1.fnd,I4 x.since]:AH))) Fc B1 (by exact BC _)) ?_ (fun _ _ h=>h.elim) Ah;rintro _ _ ⟨rfl,rfl⟩;refine BT<|A2 8 V (Ap Y V)<|A2 9 V (AB (off:=14) Hi V rfl A6 Y)<|Zz (l:=[10])<|B5 [false] [] V rfl (Gr A6 Y Y V Wo (J) (by exact (VJ _ _ _ _).trans (congrArg (fun a=>IU x.b (Obj.cells a 93 (0,0)) d.SI) (V:_=(#[I4 x.q.kd,I4 x.q.tb,I4 x.q.cl,I4 x.q.lo,I4 x.q.hi,I4 x.q.bq,I4 x.q.ot,I4 x.tn,I4 x.base,.slice x.rq x.L.length x.rc,I4 x.id,.slice G (Ba x.q x.res cs).1.rows.length m,I4 (Ba x.q x.res cs).1.val,.bool (Ba x.q x.res cs).1.fnd,I4 p]:AH)))) B1 (by exact BC _)) ?_ (fun _ _ h=>h.elim) Ah;rintro _ _ ⟨rfl,rfl⟩;refine BT<|Ag<|Cw rfl results47 (by exact ⟨rfl,G,m,_,cu,s3,(by rw [C2];exact O),DY g Z,ax,rfl⟩)
set_option maxHeartbeats 1000000 in
theorem pM(h:d.okb)(hx:x∈d.its)(G:x.live d.MR)(p:Int)(hC:Cf ME (.slice qa cs.length cap) cs)(cO:cs.length<=1000)(I:(Ba x.q x.res cs).2.2=false)(hT:Row 9 tv (tl.map Value.string) st)(ic:tl.length<=1000000)(bt br bc:Nat):BZ prog 47 #[.string x.key,.pointer (some ⟨x.b,0,none⟩),I5 bt,I5 br,I5 bc] [[(bt,.cells #[tv] 45 (0,0))],[(br,.cells #[I4 p,.slice qa cs.length cap] 50 (0,0))],[(bc,.cells #[.pointer (some ⟨d.cp,0,none⟩)] 27 (0,0))],st,[(d.cp,.cells d.BA1 87 (0,0))],d.sW,d.z.S,[(d.mb,.map d.esP d.ckP)],d.su,[(d.ip,.cells #[.map (some d.mq),d.lv] 163 (0,0))],[(d.mq,.map d.esQ d.ckQ)],d.ML,[(d.mi,.map d.esI d.ckI)],[(d.mkb,.map d.esK d.ckK)],d.SI,d.M,d.MR,ME] (fun v H'=>v=undef/\∃(d2:CZ) (tv':A3) (st':List A9),d2.okb/\d.like d2/\d2.next=d.next/\(d2.M=d.M/\d2.MR=d.MR)/\d2.SI=d.SI/\d2.its=(d.its.filter fun y=>y.key≠x.key)/\(∀e∈d2.PL,e∈d.PL)/\Row 9 tv' ((tl++[x.key]).map Value.string) st'/\H'=[[(bt,.cells #[tv'] 45 (0,0))],[(br,.cells #[I4 p,.slice qa cs.length cap] 50 (0,0))],[(bc,.cells #[.pointer (some ⟨d.cp,0,none⟩)] 27 (0,0))],st',[(d2.cp,.cells d2.BA1 87 (0,0))],d2.sW,d2.z.S,[(d2.mb,.map d2.esP d2.ckP)],d2.su,[(d2.ip,.cells #[.map (some d2.mq),d2.lv] 163 (0,0))],[(d2.mq,.map d2.esQ d2.ckQ)],d2.ML,[(d2.mi,.map d2.esI d2.ckI)],[(d2.mkb,.map d2.esK d2.ckK)],d2.SI,d2.M,d2.MR,ME]):=by
 have gy:=mL;have cu:(x.b,Obj.cells x.BA0 93 (0,0))∈d.SI:=h.its.sub x hx
 obtain ⟨gt,ct,rfl⟩:=hT.form;refine Se func47 ntmps47 [0,1,2,3,4] ?_;intro u R;refine A0<|Zl I3 Y<|Zm Y<|Ze (Ai (vs:=[_]) (cs:=[_]) DA Fo Hs Y V rfl V rfl V)<|AG fun gb=>Ze (Eb (by_:=16) (news:=[_]) DA (V:Tryz.prog.info? 9=some Tryz.t9) V rfl V rfl Y hT Y Wo Wh As V GP AW (by(simp only [B8];omega)) (by(simp only [B8];omega))) ?_;rintro _ _ ⟨d9,B,rfl⟩;obtain ⟨gq,gm,rfl⟩:=B.form;refine Xe (Zs HI Y Y V)<|A5<|Zq<|Az (n:=19) (0::1::3::7::15::0::32::96::224::0::1023::2047::4095::4095::4095::0::40959::114687::262143::[]) 99328 AE AE V<|A2 0 V (AP Y)<|A2 1 V (Ap Y V)<|A2 2 V (AB (off:=0) Hi V rfl HH Y)<|A2 3 V (Ar (off:=0) G4 V rfl CN Y)<|Ce (D':=31) 4 V rfl V (FR Wo (cu)) (AA (cs:=#[_,_,_,_,_,_,_]) F2 CN Y B1 (by exact (by apply HX.1;rfl))) ?_;refine A2 5 V (AP Y)<|A2 6 V (Ap Y V)<|A2 7 V (AB (off:=11) Hi V rfl B2 Y)<|Ce (D':=511) 8 V rfl V (FR Wo (cu)) (AA (cs:=#[_,_,_]) C6 B2 Y B1 (by exact (by apply HX.1;rfl))) ?_;refine Fk 9 V Wh (AA (cs:=#[_,_]) HP F1 Y B1 (BK V))<|Zz (l:=[10,15])<|B5 [false,false,false] [] V rfl (Zw [_,_,_] Y call48 Y V (JS x.q G.q p qa cap cs hC cO G.rw G.wn G.wv)) ?_ Bw ?_;·
  rintro _ _ ⟨_,⟨ek,s3,rfl,g,rfl⟩,rfl⟩;refine ⟨Aa,?_⟩;obtain ⟨w3,c3,rfl⟩:=g.form;rw [I];refine A2 11 V (AP Y)<|A2 12 V (C8 Y V)<|A2 13 V (C8 Y V)<|A2 14 V (C8 Y V)<|Zz (l:=[15])<|B5 [] [] V rfl (Al Gk #[_,_,_]) ?_ (fun _ _ h=>h.elim) Ah;rintro _ _ ⟨bn,rfl,rfl⟩;refine BT<|Yw 16 131071 V (Xw B2 #[.slice w3 (Ba x.q x.res cs).1.rows.length c3,I4 (Ba x.q x.res cs).1.val,.bool (Ba x.q x.res cs).1.fnd])<|D4<|A2 17 V (Aw Y)<|A2 18 V (Aw Y)<|Ag<|Zn [0,1,3,4,7,9] ?_;refine Zx<|Zq<|A0<|Zm Y<|Zv (Br Y)<|A5<|AU Y (fun m=>?_) (fun m=>?_);·
   refine A0<|Zl L7 Y<|Zm Y<|Zc [_,_] Y call13 Y V (UJ h hx) ?_;rintro _ _ ⟨_,⟨rfl,d2,J,O,U,X,Z,_,af,ax,rfl⟩,rfl⟩;refine A5<|AJ<|Zt<|Cw rfl results47 (by exact ⟨rfl,d2,_,d9,J,O,U,X,Z,af,ax,(by rw [C2];exact B),rfl⟩)
  cases m
 refine B5 [true,true,true] [(9,(_,_)),(8,(_,_)),(4,(_,_))] V rfl (Al Gk #[_,_,_]) ?_ (fun _ _ h=>h.elim) Ah;rintro _ _ ⟨bn,rfl,rfl⟩;refine ⟨Zk (FL (by simp [*]) (FL (by simp [*]) (Aa))),?_⟩;refine Zz (l:=[10])<|B5 [false,false,false] [] V rfl (Zw [_,_,_] Y call48 Y V (JS x.q G.q p qa cap cs hC cO G.rw G.wn G.wv)) ?_ Bw Ah;rintro _ _ ⟨_,⟨ek,s3,rfl,g,rfl⟩,rfl⟩;refine ⟨Aa,?_⟩;obtain ⟨w3,c3,rfl⟩:=g.form;rw [I];refine A2 11 V (AP Y)<|A2 12 V (C8 Y V)<|A2 13 V (C8 Y V)<|A2 14 V (C8 Y V)<|Zz (l:=[16])<|B5 [] [] V rfl (Xw B2 #[.slice w3 (Ba x.q x.res cs).1.rows.length c3,I4 (Ba x.q x.res cs).1.val,.bool (Ba x.q x.res cs).1.fnd]) ?_ (fun _ _ h=>h.elim) Ah;rintro _ _ ⟨rfl,rfl⟩;refine BT<|A2 17 V (Aw Y)<|A2 18 V (Aw Y)<|Ag<|Zn [0,1,3,4,7,9] ?_;refine Zx<|Zq<|A0<|Zm Y<|Zv (Br Y)<|A5<|AU Y (fun m=>?_) (fun m=>?_);·
  refine A0<|Zl L7 Y<|Zm Y<|Zc [_,_] Y call13 Y V (UJ h hx) ?_;rintro _ _ ⟨_,⟨rfl,d2,J,O,U,X,Z,_,af,ax,rfl⟩,rfl⟩;refine A5<|AJ<|Zt<|Cw rfl results47 (by exact ⟨rfl,d2,_,d9,J,O,U,X,Z,af,ax,(by rw [C2];exact B),rfl⟩)
 cases m
theorem bO{P:Program}{f:FuncId}{args:AH}{A B g:List A9}{Q:A3->List A9->Prop}(G:s.Perm (A++(B++g)))(h:BZ P f args [A,B] (fun r H'=>∃m,Q r m/\H'=[A,B,m])):BZ P f args [s] (fun r H'=>∃m,Q r m/\H'=[s,m]):=fun u R w J=>by
 have I:Sat u ([A,B]++([g]++R)) w:=J.perm (by
  simp only [RM,Ln,CA];have:=G.append_right R.flatten
  simpa only [D3]using this)
 refine (h u ([g]++R) w I).mono ?_;rintro e O (⟨v,H',rfl,⟨m,hq,rfl⟩,hsat⟩|⟨_,_,_,h,_⟩)
 · refine .inl ⟨v,_,rfl,⟨m,hq,rfl⟩,hsat.perm ?_⟩
   simp only [RM,Ln,CA];have e1:(A++(B++(m++(g++R.flatten)))).Perm ((A++(B++g))++(m++R.flatten)):=by
    simp only [D3];refine PJ A (PJ B ?_);rw [<-D3,<-D3];exact Ly.append_right _
   exact e1.trans (G.symm.append_right _)
 · exact h.elim
theorem sy{a b:A9}(hn:(s.map (·.1)).Nodup)(J:a∈s)(O:b∈s)(m:a.1≠b.1):∃g,s.Perm ([a]++([b]++g)):=by
 obtain ⟨X,Y,rfl⟩:=cT J;have B:b∈X++Y:=by
  rcases Bm.1 O with h|h
  · exact E7 _ h
  · rcases DB.1 h with h|h
    · exact absurd (by rw [h]) m
    · exact GB _ h
 obtain ⟨G,I,h2⟩:=cT B;refine ⟨G++I,SJ.trans (List.Perm.cons a ?_)⟩;rw [h2];exact SJ
noncomputable def JH(c:CZ)(k:Bk):Bool:=@decide (∃x∈c.its,x.key=k/\x.base<c.pos -64) (Classical.propDecidable _)
def vd(c:CZ)(pre:List Bk)(s:List A9):Prop:=∃d:CZ,d.okb/\d.cp=c.cp/\d.mi=c.mi/\d.pos=c.pos/\(∀y,y∈d.its↔y∈c.its/\y.key∉pre)/\(d.cp,Obj.cells d.BA1 87 (0,0))∈s/\(d.mi,Obj.map d.esI d.ckI)∈s/\∀q∈d.SI,q∈s
def dE(c:CZ)(p:List Bk):Prop:=∃zs:List Bk,zs.Perm (c.its.map ItM.key)/\∃post,zs.filter (JH c)=p++post
def Wj(c:CZ)(ys:List Bk):Prop:=∃zs:List Bk,zs.Perm (c.its.map ItM.key)/\ys=zs.filter (JH c)
theorem Q5(B:(c.its.map ItM.key).Nodup)(hx:x∈c.its):JH c x.key=true↔x.base<c.pos -64:=by
 unfold JH;rw [@decide_eq_true_eq _ (Classical.propDecidable _)];constructor
 · rintro ⟨y,hy,m,g⟩
   rwa [GL B hy hx m]at g
 · intro h;exact ⟨x,hx,rfl,h⟩
theorem bA{α:Type}{l:List α}{f:α->Bool}{i:Nat}{x:α}(h:l[i]?=some x):(l.take (i+1)).filter f=(l.take i).filter f++(if f x=true then [x]else [])/\∃g,l.filter f=(l.take i).filter f++(if f x=true then [x]else [])++g:=by
 have e:(l.take (i+1)).filter f=(l.take i).filter f++(if f x=true then [x]else []):=by
  rw [Bn h,IH];congr 1;by_cases m:f x=true;· rw [Ax m,List.filter_cons_of_pos m];rfl
  · rw [An m,lz m];rfl
 refine ⟨e,(l.drop (i+1)).filter f,?_⟩;rw [<-e,<-IH,K1]
theorem dW{l:List Bk}(hn:l.Nodup){i:Nat}{x:Bk}(h:l[i]?=some x)(f:Bk->Bool):x∉(l.take i).filter f:=fun G=>by
 have g:=(FF.1 G).1;have h2:l=l.take i++x::l.drop (i+1):=by
  obtain ⟨m,B⟩:=C4.1 h;rw [<-B,<-S8 m,K1]
 rw [h2,HA]at hn;exact hn.2.2 x g x (EV ..) V
theorem vU(h:c.okb)(hn:(s.map (·.1)).Nodup)(g:(c.cp,Obj.cells c.BA1 87 (0,0))∈s)(h2:(c.mi,Obj.map c.esI c.ckI)∈s):BZ prog 15 #[.pointer (some ⟨c.cp,0,none⟩)] [s] (fun r H'=>∃m,(∃zs:List Bk,zs.Perm (c.its.map ItM.key)/\(zs.Pairwise fun x y=>x.data.toList<=y.data.toList)/\Row 9 r (zs.map Value.string) m)/\H'=[s,m]):=by
 have G:c.cp≠c.mi:=fun O=>by
  have B:=GL hn g h2 O;injection B with _ B
  cases B
 obtain ⟨I,U⟩:=sy hn g h2 G;refine bO U ((OG h).mono ?_);rintro r H' ⟨zs,m,g,h2,J,rfl⟩;exact ⟨m,⟨zs,g,h2,J⟩,V⟩
theorem di(c:CZ):BZ prog 50 #[.pointer (some ⟨c.cp,0,none⟩)] [] (fun r H'=>∃g,r= .func (.func 106) #[] #[I5 g]/\H'=[[(g,.cells #[.pointer (some ⟨c.cp,0,none⟩)] 27 (0,0))]]):=by
 refine Se func50 ntmps50 [0] ?_;intro u R;refine A0<|Ze (Bx #[_])<|AG fun g=>A4 Y<|A0<|Zv (Bh (vs:=[]) (us:=[_]) Y Y)<|A4 Y<|AJ<|AO V results50 Y (by exact ⟨g,V,V⟩)
set_option maxHeartbeats 1000000 in
theorem dw(h:c.okb)(bc:Nat):Kg prog 106 #[I5 bc] [[(bc,.cells #[.pointer (some ⟨c.cp,0,none⟩)] 27 (0,0))]] (vd c) (fun x:Bk=>#[.string x]) (dE c) (Wj c):=by
 intro l J hA hy s O;obtain ⟨d0,ax,U,pg,pq,cu,gy,j3,pz⟩:=hA _ _ O;have X:(d0.its.map ItM.key).Perm (c.its.map ItM.key):=(S7 ax.its.keys h.its.keys).2 fun a=>by
  simp only [C3,cu,RR,ie,fL]
 have q9:=h.its.len;have cO:=h.its.keys
 refine Se func106 ntmps106 [0,1] ?_;intro u R;refine Zq<|FB (s:=s) Wo (fun o8=>?_);rw [<-U];refine Zg<|Zl L7 Y ?_;refine Zc [_] Y call15 Y V (vU ax o8 gy j3) ?_;rintro _ _ ⟨_,⟨sk,⟨zs,g,qj,af⟩,rfl⟩,rfl⟩;replace g:=g.trans X;have p8:=g.length_eq
 rw [B8]at p8;have p9:zs.Nodup:=g.nodup_iff.2 cO
 obtain ⟨pk,ck,rfl⟩:=af.form;simp only [B8];rw [B8]at af;refine Zv (AY DA Y)<|Zm Y<|A5<|AQ<|Zb [8,0,1,6,7] ?_;refine BA (e0:=[(8,_)]) (fun m e H=>∃(i:Nat) (s:List A9),m=zs.length -i/\(i<=zs.length/\J ((zs.take i).filter (JH c)) s)/\e=[(8,I4 (i:Int))]/\H=[s]) (by exact ⟨0,s,V,⟨C5 _,O⟩,V,V⟩) Wp ?_;rintro _ _ _ ⟨i,s,rfl,⟨hi,O⟩,rfl,rfl⟩;refine A0<|Zv (Au Y Y)<|A5<|Zq<|Aq Y (fun Z=>?_) (fun Z=>?_);·
  obtain ⟨k,hk⟩:∃k,zs[i]?=some k:=⟨_,B7 A1⟩;obtain ⟨x,hx,rfl⟩:=C3.1 (g.mem_iff.1 (Dg hk));obtain ⟨bn,gq,G⟩:=bA (f:=JH c) hk;have l9:=dW p9 hk (JH c)
  obtain ⟨d,hd,l5,qa,d9,l8,hC,hM,hS⟩:=hA _ _ O;have gm:x∈d.its:=(l8 x).2 ⟨hx,l9⟩
  have hg:=hd.its.get gm;have j5:(x.b,Obj.cells x.BA0 93 (0,0))∈s:=hS _ (hd.its.sub x gm)
  have ek:=Q5 cO hx;rw [show d.cp=d0.cp from l5.trans U.symm]at hC;have qb:zs[i]?=some x.key:=hk
  rcases af with⟨_,h0,_⟩|⟨gk,capk,curk,zk,hvk,rfl,hlek,hcmk,hcsk,htkk,hfrk⟩
  · simp at h0;subst h0;simp at Z
  injection hvk with hv1 hv2 hv3
  subst hv1 hv3;have kv:curk[i]?=some (.string x.key):=by
   have h:=congrArg (fun l=>l[i]?) htkk;simp only [HJ,B8,Ax Z,E0,hk]at h;simpa using h
  refine AC<|Zx<|Zq<|AQ<|A0<|BV (BU DA Fo Y Y (by first|omega|(simp;omega)))<|Zl HK Y (hv:=by exact kv) ?_;refine A4 Y<|Zq<|Az (n:=22) (0::1::3::7::0::31::63::127::255::511::0::1024::3072::7168::15360::32767::65535::131071::131071::524287::1048575::2097151::[]) 524288 AE AE V<|B9 0 V L7 Y ?_;refine A2 1 V (Ap Y V)<|A2 2 V (AB (off:=4) FG V rfl PB Y)<|Ce (D':=15) 3 V rfl V (FR Wo (hC)) (BO OK Y As) ?_;refine A2 4 rfl (AP Y)<|Ce (D':=63) 5 rfl rfl rfl (FR Wo (hM)) (Df (Dl H4 (D:=fun _=>True)) OS To hd.its.im (fun _ _=>trivial) (trivial) (by rw [hg];first|done|rfl) Y Y) ?_;refine A2 6 V (Ap Y V)<|A2 7 V (AB (off:=0) Hi V rfl HH Y)<|A2 8 V (Ar (off:=8) G4 V rfl A6 Y)<|Ce (D':=1023) 9 V rfl V (FR Wo (j5)) (BO AF Y As) ?_;refine B9 10 V L7 Y ?_;refine A2 11 V (Ap Y V)<|A2 12 V (AB (off:=0) FG V rfl A6 Y)<|Ce (D':=16383) 13 V rfl V (FR Wo (hC)) (BO AF Y As) ?_
  (refine Dr (D':=32767) 14 (GN Y Y (IntWalk.i64_in _ ?_)) ?_;(focus (have:=hd.pos;omega)))
  refine A2 15 V (Dw Y Y)<|A2 16 V (AP Y)<|D8 (t:=28) Y (fun B=>?_) (fun B=>?_);·
   rw [DE B];have I:JH c x.key=true:=ek.2 (by rw [<-d9];exact B)
   rw [Ax I]at G;have o9:=hy _ x.key s ⟨zs,g,gq,G⟩ O
   refine B3 17 V (AP Y)<|B3 18 V (AP Y)<|Yw 19 1048575 V (Ga (vs:=[_]) Y Y (o9) Wp) ?_;rintro _ _ ⟨_,⟨s',rfl,rfl,ic⟩,rfl⟩;refine B3 20 V (Br Y)<|A2 21 V (AV Y Y)<|Ag<|Zn [0,1,6,7,8,33] ?_;refine Zx<|AU Y (fun hb=>by cases hb)<|fun hb=>AC<|A8<|Zx<|Zg<|Ya (n:=1) Y Y<|Zm Y<|Z0<|Zn [8,0,1,6,7] ?_;refine Ab (e':=[(8,_)]) (by exact ⟨i+1,s',rfl,⟨by omega,by rw [bn,Ax I];exact ic⟩,rfl,rfl⟩)
  rw [Cd B];have I:¬JH c x.key=true:=fun h9=>B (by rw [d9];exact ek.1 h9)
  refine AM 17 V<|AM 18 V<|AM 19 V<|AM 20 V<|A2 21 V (AL Y Y)<|Ag<|Zn [0,1,6,7,8,33] ?_;refine Zx<|D9 Y<|AC<|A8<|Zx<|Zg<|Ya (n:=1) Y Y<|Zm Y<|Z0<|Zn [8,0,1,6,7] ?_;refine Ab (e':=[(8,_)]) (by exact ⟨i+1,s,rfl,⟨by omega,by rw [bn,An I,DG];exact O⟩,rfl,rfl⟩)
 obtain rfl:i=zs.length:=by omega
 rw [GS]at O;refine Ay<|Zt<|Zt<|AR<|Cw V results106 (by exact ⟨_,s,⟨zs,g,V⟩,V,O⟩)
def ItM.core(x:ItM):ItM:={x with res:=CB.none,wq:=none,wc:=0,since:=0}
variable{y:ItM}
theorem H7(h:y.core=x.core):y.b=x.b/\y.id=x.id/\y.q=x.q/\y.tn=x.tn/\y.base=x.base/\y.rq=x.rq/\y.rc=x.rc/\y.L=x.L:=by
 obtain ⟨b,id,q,tn,base,rq,rc,L,res,wq,wc,since⟩:=x;obtain ⟨b',G,q',O,m,J,I,Z,B,X,U,g⟩:=y;unfold ItM.core at h;simp only [ItM.mk.injEq]at h;exact ⟨h.1,h.2.1,h.2.2.1,h.2.2.2.1,h.2.2.2.2.1,h.2.2.2.2.2.1,h.2.2.2.2.2.2.1,h.2.2.2.2.2.2.2.1⟩
theorem Ii(h:y.core=x.core):y.key=x.key:=by unfold ItM.key;rw [(H7 h).2.2.1]
theorem WV{α:Type}(W:List α)(r:α){n:Nat}(h:n<=W.length):(W++[r]).drop n=W.drop n++[r]:=iu h
def Jt(W W':List BP)(r:BP):Prop:=(W'=W++[r]/\W.length<64)\/(W'=(W++[r]).drop 1/\W.length=64)
variable{W' W:List BP}{r:BP}
theorem kr{pos:Int}(g:Jt W W' r)(B:(pos -base).toNat<=W.length)(G:base<=pos)(I:pos+1 -64<=base):DC (pos+1) base W'=DC pos base W++[r]/\(pos+1 -base).toNat<=W'.length:=by
 have e:(pos+1 -base).toNat=(pos -base).toNat+1:=by omega
 unfold DC;rcases g with⟨rfl,m⟩|⟨rfl,m⟩
 · rw [BW,Fl,e,show W.length+1 -((pos -base).toNat+1)=W.length -(pos -base).toNat by omega,WV _ _ A1]
   exact ⟨V,by omega⟩
 · rw [CD,BW,Fl,e,bj,show 1+(W.length+1 -1 -((pos -base).toNat+1))=W.length -(pos -base).toNat by omega,WV _ _ A1]
   exact ⟨V,by omega⟩
theorem Lf{pos:Int}(h:pos<=base):DC pos base W=[]:=by
 unfold DC;rw [show(pos -base).toNat=0 by omega,SU,k8]
def VB(cs:List Chg)(x:ItM):Prop:=∃ch∈cs,Cq x.q ch=true
theorem S9(g:∀c∈cs,c.ok):cs.any (Dk q)=true↔∃ch∈cs,Cq q ch=true:=by
 rw [n4];constructor
 · rintro ⟨c,hc,h⟩
   unfold Dk at h;rw [Ft]at h;exact ⟨c,hc,h.2⟩
 · rintro ⟨c,hc,h⟩
   refine ⟨c,hc,?_⟩;unfold Dk;rw [DE (g c hc),h];rfl
theorem dB:∀{cs:List Chg} {r:CB},¬cs.any (Dk q)=true->Ba q r cs=(r,false,true):=fun{cs r} h=>by
 have g:∀{cs:List Chg},(∀c∈cs,Dk q c=false)->Hu q r cs=some r:=fun{cs}=>by
  induction cs with
  |nil=>intro _;rfl
  |cons c cs ih=>
   intro h;have h2:D7 q c r=(r,true):=by unfold D7;rw [h c (EV ..)];rfl
   unfold Hu;rw [h2];exact ih fun d B=>h d (FA _ B)
 have m:∀c∈cs,Dk q c=false:=fun c hc=>by
  cases h4:Dk q c with
  |false=>rfl
  |true=>exact absurd (n4.2 ⟨c,hc,h4⟩) h
 unfold Ba;rw [g m];show(r,cs.any (Dk q),true)=_
 rw [pT]at h;rw [h]
structure yW(cs:List Chg)(p:Int)(ids:List Int)(MR:List A9)(x y:ItM):Prop where
 core:y.core=x.core
 how:(y=x/\¬(x.id∈ids/\x.base<p))\/((x.id∈ids/\x.base<p)/\(Ba x.q x.res cs).2.2=true/\y.res=(Ba x.q x.res cs).1/\y.since=p/\DW MR (.slice y.wq y.res.rows.length y.wc) y.res.rows)
structure HY(c d:CZ)(cs:List Chg)(p:Int)(W':List BP)(M1:List A9)(ids:List Int)(tl:List Bk):Prop where
 okb:d.okb
 cp:d.cp=c.cp
 pos:d.pos=p
 win:d.win=W'
 M:d.M=M1
 ns:d.ns=c.ns
 cap:d.z.cap=c.z.cap
 next:d.next=c.next
 PL:∀e∈d.PL,e∈c.PL
 MR:∀q∈c.MR,q∈d.MR
 i1:∀y∈d.its,∃x∈c.its,yW cs p ids d.MR x y
 i2:∀x∈c.its,(x.id∈ids->x.base<p->(Ba x.q x.res cs).2.2=true)->∃y∈d.its,y.core=x.core
 t1:∀k,k∈tl↔∃x∈c.its,x.key=k/\x.id∈ids/\x.base<p
 t2:tl.Nodup
theorem Jn(h:c.okb)(hx:x∈c.its)(hy:y∈c.its)(e:x.id=y.id):x=y:=by
 have hi:=h.its.idx.ids;rw [LN]at hi;exact GL hi hx hy e
variable{p:Int}{M1:List A9}{ids:List Int}
theorem HY.next_it(h:HY c d cs p W' M1 ids tl)(hc:c.okb)(hx:x∈c.its)(hn:x.id∉ids):x∈d.its:=by
 obtain ⟨y,hy,B⟩:=h.i2 x hx fun g=>absurd g hn;obtain ⟨J,m,G⟩:=h.i1 y hy;have I:=Jn hc m hx (by rw [<-(H7 G.core).2.1,(H7 B).2.1])
 subst I;rcases G.how with⟨rfl,_⟩|⟨⟨g,_⟩,_⟩
 · exact hy
 · exact absurd g hn
theorem wJ(h:HY c d cs p W' M1 ids tl)(hc:c.okb)(hx:x∈c.its)(J:¬x.base<p):HY c d cs p W' M1 (ids++[x.id]) tl:=by
 have g:∀z∈c.its,z.base<p->(z.id∈ids++[x.id]↔z.id∈ids):=fun z hz B=>by
  rw [Bm,C1];refine ⟨fun m=>m.elim id fun h2=>?_,.inl⟩;rw [Jn hc hz hx h2]at B;exact absurd B J
 refine ⟨h.okb,h.cp,h.pos,h.win,h.M,h.ns,h.cap,h.next,h.PL,h.MR,fun y hy=>?_,fun z hz O=>h.i2 z hz fun m h2=>O ((g z hz h2).2 m) h2,fun k=>?_,h.t2⟩
 · obtain ⟨z,hz,I⟩:=h.i1 y hy
   refine ⟨z,hz,I.core,?_⟩;rcases I.how with⟨e,m⟩|⟨m,h2⟩
   · exact .inl ⟨e,fun G=>m ⟨(g z hz G.2).1 G.1,G.2⟩⟩
   · exact .inr ⟨⟨(g z hz m.2).2 m.1,m.2⟩,h2⟩
 · rw [h.t1]
   constructor;· rintro ⟨z,hz,a,b,e⟩;exact ⟨z,hz,a,(g z hz e).2 b,e⟩
   · rintro ⟨z,hz,a,b,e⟩;exact ⟨z,hz,a,(g z hz e).1 b,e⟩
theorem wI(hc:c.okb)(t1:∀k,k∈tl↔∃x∈c.its,x.key=k/\x.id∈ids/\x.base<p)(t2:tl.Nodup)(hx:x∈c.its)(G:x.base<p)(hn:x.id∉ids):(∀k,k∈tl++[x.key]↔∃y∈c.its,y.key=k/\y.id∈ids++[x.id]/\y.base<p)/\(tl++[x.key]).Nodup:=by
 constructor
 · intro k
   rw [Bm,C1,t1];constructor
   · rintro (⟨y,hy,a,b,e⟩|rfl)
     · exact ⟨y,hy,a,E7 _ b,e⟩
     · exact ⟨x,hx,rfl,by simp,G⟩
   · rintro ⟨y,hy,rfl,b,e⟩
     rcases Bm.1 b with b|b
     · exact .inl ⟨y,hy,rfl,b,e⟩
     · rw [Jn hc hy hx (C1.1 b)];exact .inr rfl
 · rw [HA]
   refine ⟨t2,by simp,fun a B b g=>?_⟩;obtain rfl:=C1.1 g;intro I;obtain ⟨y,hy,m,h2,_⟩:=(t1 a).1 B;rw [GL hc.its.keys hy hx (m.trans I)]at h2;exact hn h2
theorem yQ{next:Int}{esQ:Array MapEntry}{ckQ:Nat}{lmQ:List (Int×A3)}{lv:A3}{ML:List A9}{esI:Array MapEntry}{ckI:Nat}{lmI:List (Bk×A3)}{esK:Array MapEntry}{ckK:Nat}{lmK:List (Int×A3)}{SI:List A9}(h:GZ its next esQ ckQ lmQ lv ML esI ckI lmI esK ckK lmK SI)(hn:(SI.map (·.1)).Nodup)(hx:x∈its)(p:Int)(cs:List Chg)(wq:B6)(wc:Nat):
 GZ (its.map fun y=>if y.id=x.id then x.upd p cs wq wc else y) next esQ ckQ lmQ lv ML esI ckI lmI esK ckK lmK (IU x.b (x.upd p cs wq wc).obj SI):=by
 have m:∀y∈its,y.id=x.id->y=x:=fun y hy e=>by
  have hi:=h.idx.ids;rw [LN]at hi;exact GL hi hy hx e
 have g:∀y∈its,(if y.id=x.id then x.upd p cs wq wc else y).key=y.key/\(if y.id=x.id then x.upd p cs wq wc else y).iq=y.iq/\(if y.id=x.id then x.upd p cs wq wc else y).b=y.b/\(if y.id=x.id then x.upd p cs wq wc else y).id=y.id/\(if y.id=x.id then x.upd p cs wq wc else y).q=y.q:=fun y hy=>by
  by_cases e:y.id=x.id
  · rw [m y hy e,Ax rfl];exact ⟨rfl,rfl,rfl,rfl,rfl⟩
  · rw [An e];exact ⟨rfl,rfl,rfl,rfl,rfl⟩
 have e1:((its.map fun y=>if y.id=x.id then x.upd p cs wq wc else y).map ItM.iq)=its.map ItM.iq:=by
  rw [LN];exact W7 fun y hy=>(g y hy).2.1
 have e2:((its.map fun y=>if y.id=x.id then x.upd p cs wq wc else y).map ItM.key)=its.map ItM.key:=by
  rw [LN];exact W7 fun y hy=>(g y hy).1
 refine ⟨by rw [e1];exact h.idx,by rw [e1];exact h.ist,h.im,fun q=>?_,h.km,fun q=>?_,by rw [e2];exact h.keys,fun y hy=>?_,h.nx,by rw [B8];exact h.len,fun y hy=>?_,fun y hy=>?_⟩
 · rw [h.imem]
   constructor;· rintro ⟨y,hy,rfl⟩;exact ⟨_,DS hy,by rw [(g y hy).1,(g y hy).2.2.1]⟩
   · rintro ⟨z,hz,rfl⟩
     obtain ⟨y,hy,rfl⟩:=C3.1 hz;exact ⟨y,hy,by rw [(g y hy).1,(g y hy).2.2.1]⟩
 · rw [h.kmem]
   constructor;· rintro ⟨y,hy,rfl⟩;exact ⟨_,DS hy,by rw [(g y hy).1,(g y hy).2.2.2.1]⟩
   · rintro ⟨z,hz,rfl⟩
     obtain ⟨y,hy,rfl⟩:=C3.1 hz;exact ⟨y,hy,by rw [(g y hy).1,(g y hy).2.2.2.1]⟩
 · obtain ⟨z,hz,rfl⟩:=C3.1 hy
   rw [(g z hz).2.2.2.1];exact h.ids z hz
 · obtain ⟨z,hz,rfl⟩:=C3.1 hy
   rw [(g z hz).2.2.2.2];exact h.q z hz
 · obtain ⟨z,hz,rfl⟩:=C3.1 hy
   by_cases e:z.id=x.id
   · simp only [Ax e]
     exact Q0 (h.sub x hx)
   · simp only [An e]
     refine C3.2 ⟨z.ch,h.sub z hz,An fun e2=>?_⟩;have B:=GL hn (h.sub z hz) (h.sub x hx) e2
     unfold ItM.ch ItM.obj at B;simp only [kf,Obj.cells.injEq,q6,na,Value.int.injEq,W6,fL]at B;exact e (by simp_all)
theorem A00(h:HY c d cs p W' M1 ids tl)(hc:c.okb)(hn:(d.SI.map (·.1)).Nodup)(hx:x∈c.its)(hb:x.base<p)(G:x.id∉ids)(U:(Ba x.q x.res cs).2.2=true)(hr:DW s (.slice wq (Ba x.q x.res cs).1.rows.length wc) (Ba x.q x.res cs).1.rows):
 HY c {d with SI:=IU x.b (x.upd p cs wq wc).obj d.SI,MR:=s++d.MR,its:=d.its.map fun y=>if y.id=x.id then x.upd p cs wq wc else y} cs p W' M1 (ids++[x.id]) (tl++[x.key]):=by
 have g:=h.next_it hc hx G;have B:=yQ h.okb.its hn g p cs wq wc
 have O:(x.upd p cs wq wc).core=x.core:=rfl;obtain ⟨Z,af⟩:=wI hc h.t1 h.t2 hx hb G;have e2:((d.its.map fun y=>if y.id=x.id then x.upd p cs wq wc else y).map ItM.key)=d.its.map ItM.key:=by
  rw [LN];refine W7 fun y hy=>?_;show(if y.id=x.id then x.upd p cs wq wc else y).key=y.key
  split;· rename_i e;rw [Jn h.okb hy g e];rfl
  · rfl
 refine ⟨⟨h.okb.pos,h.okb.win,h.okb.wl,h.okb.wp,h.okb.pool,fun k=>by rw [e2];exact h.okb.pk k,B,fun y hy=>?_⟩,h.cp,h.pos,h.win,h.M,h.ns,h.cap,h.next,h.PL,fun q I=>GB _ (h.MR q I),fun y hy=>?_,fun z hz hk=>?_,Z,af⟩
 · obtain ⟨z,hz,rfl⟩:=C3.1 hy
   split;· rename_i e;rw [<-Jn h.okb hz g e];exact h.okb.tns z hz
   · exact h.okb.tns z hz
 · obtain ⟨z,hz,rfl⟩:=C3.1 hy
   by_cases e:z.id=x.id
   · rw [Ax e]
     exact ⟨x,hx,O,.inr ⟨⟨by simp,hb⟩,U,V,V,hr.mono fun q I=>E7 _ I⟩⟩
   · rw [An e]
     obtain ⟨w,hw,X⟩:=h.i1 z hz;have ax:w.id≠x.id:=fun m=>e (by rw [(H7 X.core).2.1,m])
     refine ⟨w,hw,X.core,?_⟩;have hm:w.id∈ids++[x.id]↔w.id∈ids:=by rw [Bm,C1];exact ⟨fun m=>m.elim id fun h2=>absurd h2 ax,.inl⟩
     rcases X.how with⟨a,b⟩|⟨a,b,e1,e3,e4⟩
     · exact .inl ⟨a,fun h3=>b ⟨hm.1 h3.1,h3.2⟩⟩
     · exact .inr ⟨⟨hm.2 a.1,a.2⟩,b,e1,e3,e4.mono fun q I=>GB _ I⟩
 · by_cases e:z.id=x.id
   · obtain rfl:=Jn hc hz hx e
     exact ⟨_,C3.2 ⟨z,g,Ax V⟩,V⟩
   · obtain ⟨y,hy,J⟩:=h.i2 z hz fun m h2=>hk (E7 _ m) h2
     exact ⟨y,C3.2 ⟨y,hy,An (by rw [(H7 J).2.1];exact e)⟩,J⟩
variable{d2:CZ}
theorem A02(h:HY c d cs p W' M1 ids tl)(hc:c.okb)(hx:x∈c.its)(hb:x.base<p)(O:x.id∉ids)(B:(Ba x.q x.res cs).2.2=false)
 (g:d2.okb)(h2:d.like d2)(I:d2.next=d.next)(J:d2.M=d.M/\d2.MR=d.MR)(h6:d2.its=d.its.filter fun y=>y.key≠x.key)(h7:∀e∈d2.PL,e∈d.PL):HY c d2 cs p W' M1 (ids++[x.id]) (tl++[x.key]):=by
 obtain ⟨X,Z⟩:=wI hc h.t1 h.t2 hx hb O;have m:∀y,y∈d2.its↔y∈d.its/\y.key≠x.key:=fun y=>by rw [h6,FF];simp
 refine ⟨g,h2.cp.trans h.cp,h2.pos.trans h.pos,h2.win.trans h.win,J.1.trans h.M,h2.ns.trans h.ns,h2.cap.trans h.cap,I.trans h.next,fun e he=>h.PL e (h7 e he),fun q hq=>by rw [J.2];exact h.MR q hq,fun y hy=>?_,fun z hz hk=>?_,X,Z⟩
 · obtain ⟨ax,bn⟩:=(m y).1 hy
   obtain ⟨w,hw,U⟩:=h.i1 y ax;have af:w.id≠x.id:=fun e=>bn (by rw [Ii U.core,Jn hc hw hx e])
   refine ⟨w,hw,U.core,?_⟩;have m:w.id∈ids++[x.id]↔w.id∈ids:=by rw [Bm,C1];exact ⟨fun g=>g.elim id fun h2=>absurd h2 af,.inl⟩
   rcases U.how with⟨a,b⟩|⟨a,b,e1,e3,e4⟩
   · exact .inl ⟨a,fun I=>b ⟨m.1 I.1,I.2⟩⟩
   · exact .inr ⟨⟨m.2 a.1,a.2⟩,b,e1,e3,by rw [J.2];exact e4⟩
 · by_cases e:z.id=x.id
   · obtain rfl:=Jn hc hz hx e
     rw [hk B4 hb]at B;cases B
   · obtain ⟨y,hy,G⟩:=h.i2 z hz fun g h2=>hk (E7 _ g) h2
     refine ⟨y,(m y).2 ⟨hy,fun h9=>e ?_⟩,G⟩;rw [Ii G]at h9;rw [GL hc.its.keys hz hx h9]
theorem A03(h:HY c d r.cs r.p W' M1 ids tl)(hc:c.ok)(hr:EM r.p r.cs)(hp:r.p=c.pos+1){r':BP}(Z:r'.pc=r.pc)(hW:Jt c.win W' r')(hM:∀q∈c.M,q∈d.M)(G:∀x∈c.its,x.id∈ids↔VB r.cs x)(hy:y∈d.its)(ek:r.p -64<=y.base):y.ok d.M d.MR r.p W':=by
 obtain ⟨x,hx,hs⟩:=h.i1 y hy;have g:=hc.all x hx
 obtain ⟨c1,c2,c3,c4,c5,c6,c7,c8⟩:=H7 hs.core;have B:∀ch∈r.cs,ch.ok:=fun ch ax=>by
  obtain ⟨i,hi⟩:=HE ax;exact hr.all i ch hi
 have J:r'.p=r.p:=congrArg Prod.fst Z;have O:r'.cs=r.cs:=congrArg Prod.snd Z
 have I:DW d.MR (.slice y.wq y.res.rows.length y.wc) y.res.rows:=by
  rcases hs.how with⟨rfl,_⟩|⟨_,_,_,_,h5⟩
  · exact g.rw.mono h.MR
  · exact h5
 obtain ⟨r0,U,m⟩:=g.run;by_cases hb:x.base<r.p
 · obtain ⟨af,X⟩:=kr hW g.reach A1 A1
   rw [<-hp]at af X;refine ⟨by rw [c3];exact g.q,by rw [c5];exact g.base,by rw [c4];exact g.tn,by rw [c6,c7,c8];exact g.rp.mono hM,by rw [c8];exact g.rl,by rw [c8];exact g.fit,I,by rw [c5];exact X,r0,by rw [c3,c8];exact U,?_⟩;rw [c3,c5,af,Ou,m,KK];have hl:=OU g.reach
   have d9:=hc.pos;have cO:=g.base
   unfold GK GK;rw [J,O];rcases hs.how with⟨rfl,bn⟩|⟨⟨hin,_⟩,hok,e1,e2,_⟩
   · have hq:¬r.cs.any (Dk y.q)=true:=fun h9=>bn ⟨(G y hx).2 ((S9 B).1 h9),hb⟩
     rw [dB hq,Ax ⟨rfl,by rw [hl];omega,by rw [hl];omega⟩];rfl
   · have hq:r.cs.any (Dk x.q)=true:=(S9 B).2 ((G x hx).1 hin)
     rw [Ax ⟨hok,by rw [hl];omega,by rw [hl];omega⟩,(Me hok).2,Ax hq,e1,e2]
 · have cu:y=x:=by
    rcases hs.how with⟨e,_⟩|⟨⟨_,h9⟩,_⟩
    · exact e
    · exact absurd h9 hb
   subst cu;rw [Lf A1]at m;exact ⟨g.q,g.base,g.tn,g.rp.mono hM,g.rl,g.fit,I,by omega,r0,U,by rw [Lf A1];exact m⟩
theorem PN{α:Type} [DecidableEq α]:∀{a b:List α},a.Nodup->(∀x∈a,x∈b)->a.length<=b.length
 |[],_,_,_=>C5 _
 |x::a,b,hn,hs=>by
  obtain ⟨hx,hn⟩:=Hc.1 hn;have h2:=PN (a:=a) (b:=b.erase x) hn fun y hy=>by
   have g:y≠x:=fun e=>hx (e▸hy);exact (List.mem_erase_of_ne g).2 (hs y (FA _ hy))
  have m:=oT (hs x (EV ..));have B:=List.length_pos_of_mem (hs x (EV ..))
  rw [Dd];omega
theorem qC(h:c.okb)(X:Jt c.win W r)(hp:r.p=c.pos+1)(U:EM r.p r.cs)(O:∀q∈c.M,q∈M1)(J:Cf M1 (.slice r.q r.cs.length r.cap) r.cs):W.length<=64/\∀(i:Nat) (g:BP),W[i]?=some g->g.p=r.p -(W.length:Int)+1+(i:Int)/\Cf M1 (.slice g.q g.cs.length g.cap) g.cs/\EM g.p g.cs:=by
 have B:∀(i:Nat) (g:BP),(c.win++[r])[i]?=some g->g.p=c.pos -(c.win.length:Int)+1+(i:Int)/\Cf M1 (.slice g.q g.cs.length g.cap) g.cs/\EM g.p g.cs:=fun i g m=>by
  rcases E4 i c.win.length with h1|h1
  · rw [cP h1]at m
    exact Wz h O i g m
  · rw [T0 h1]at m
    have h2:i -c.win.length=0:=by
     have:=(C4.1 m).1;simp at this;omega
    rw [h2]at m;have I:r=g:=by simpa using m
    subst I;exact ⟨by omega,J,U⟩
 have G:(c.win++[r]).length=c.win.length+1:=by rw [BW];rfl
 rcases X with⟨rfl,Z⟩|⟨rfl,Z⟩
 · refine ⟨by omega,fun i g m=>?_⟩
   obtain ⟨a,b,e⟩:=B i g m;exact ⟨by rw [G];omega,b,e⟩
 · refine ⟨by rw [CD];omega,fun i g m=>?_⟩
   rw [Q2]at m;obtain ⟨a,b,e⟩:=B (1+i) g m;exact ⟨by rw [CD,G];omega,b,e⟩
theorem wL(h:c.okb){sW:List A9}(J:Jt c.win W r)(g:Bd 2 50 (.slice wq W.length wc) W.length (Du W) sW)(U:r.p=c.pos+1)(m:EM r.p r.cs)(I:∀q∈c.M,q∈M1)(G:Cf M1 (.slice r.q r.cs.length r.cap) r.cs){lv2:A3}{ML2:List A9}(hst:Wt (c.its.map ItM.iq) lv2 ML2):
 HY c {c with pos:=r.p,wq:=wq,wc:=wc,win:=W,sW:=sW,lv:=lv2,ML:=ML2,M:=M1} r.cs r.p W M1 [] []:=by
 have B:=qC h J U m I G;have X:=m.pos
 exact ⟨⟨⟨by show 0<=r.p;omega,by show r.p<=10000;omega⟩,g,B.1,B.2,h.pool,h.pk,{h.its with ist:=hst},h.tns⟩,V,V,V,V,V,V,V,fun e O=>O,fun q Z=>Z,fun y hy=>⟨y,hy,V,.inl ⟨V,fun h=>absurd h.1 B4⟩⟩,fun x hx _=>⟨x,hx,V⟩,fun k=>by simp,nf⟩
structure GH(c d:CZ)(p:Int)(cs:List Chg)(q2:B6)(cap2:Nat)(zs:List Bk):Prop where
 ok:d.ok
 cp:d.cp=c.cp
 pos:d.pos=p
 win:Jt c.win d.win ⟨p,q2,cap2,cs⟩
 ns:d.ns=c.ns
 cap:d.z.cap=c.z.cap
 next:d.next=c.next
 PL:∀e∈d.PL,e∈c.PL
 i1:∀y∈d.its,p -64<=y.base/\∃x∈c.its,y.core=x.core/\((¬(VB cs x/\x.base<p)/\y.res=x.res/\y.since=x.since)\/((VB cs x/\x.base<p)/\(Ba x.q x.res cs).2.2=true/\y.since=p))
 i2:∀x∈c.its,p -64<=x.base->(VB cs x->x.base<p->(Ba x.q x.res cs).2.2=true)->∃y∈d.its,y.core=x.core
 z1:∀k,k∈zs↔∃x∈c.its,x.key=k/\VB cs x/\x.base<p
 z2:zs.Nodup
 z3:zs.Pairwise fun x y=>x.data.toList<=y.data.toList
theorem yX(hn:((its.map ItM.iq).map (·.1)).Nodup){g:List Int}(h:∀i,i∈g↔JW (its.map ItM.iq) cs i)(hx:x∈its):x.id∈g↔VB cs x:=by
 rw [h];constructor
 · rintro ⟨y,hy,m,hc⟩
   obtain ⟨w,B,rfl⟩:=C3.1 hy;rw [LN]at hn;have:=GL hn B hx m
   subst this;exact hc
 · intro hc
   exact ⟨x.iq,DS hx,V,hc⟩
structure JU(d d2:CZ)(pre:List Bk):Prop where
 okb:d2.okb
 like:d.like d2
 next:d2.next=d.next
 M:d2.M=d.M/\d2.MR=d.MR
 mi:d2.mi=d.mi
 PL:∀e∈d2.PL,e∈d.PL
 its:∀y,y∈d2.its↔y∈d.its/\y.key∉pre
theorem SG(h:d.okb):JU d d []:=⟨h,⟨rfl,rfl,rfl,rfl,rfl⟩,rfl,⟨rfl,rfl⟩,rfl,fun e g=>g,fun y=>by simp⟩
theorem dm{pre:List Bk}{k:Bk}(h:JU d d2 pre)(J:d.okb)(I:dE d (pre++[k])):∃x∈d2.its,x.key=k:=by
 obtain ⟨zs,m,B,g⟩:=I;have hn:(zs.filter (JH d)).Nodup:=(m.nodup_iff.2 J.its.keys).sublist Up
 have O:k∈zs:=(FF.1 (by rw [g];simp:k∈zs.filter (JH d))).1;obtain ⟨x,hx,rfl⟩:=C3.1 (m.mem_iff.1 O);refine ⟨x,(h.its x).2 ⟨hx,fun G=>?_⟩,V⟩;rw [g,D3,HA]at hn;exact hn.2.2 _ G _ B4 V
theorem SF{g:CZ}{pre:List Bk}(h:JU d d2 pre)(B:g.okb)(h2:d2.like g)(G:g.next=d2.next)(m:g.M=d2.M/\g.MR=d2.MR)(I:g.mi=d2.mi)(J:g.its=d2.its.filter fun y=>y.key≠x.key)(O:∀e∈g.PL,e∈d2.PL):JU d g (pre++[x.key]):=by
 refine ⟨B,h.like.trans h2,G.trans h.next,⟨m.1.trans h.M.1,m.2.trans h.M.2⟩,I.trans h.mi,fun e U=>h.PL e (O e U),fun y=>?_⟩;rw [J,FF,h.its,Bm,C1];simp only [G3,ne_eq,not_or];exact ⟨fun⟨⟨a,b⟩,e⟩=>⟨a,b,e⟩,fun⟨a,b,e⟩=>⟨⟨a,b⟩,e⟩⟩
theorem wK{q2:B6}{cap2:Nat}{zi:List Int}{zs ys:List Bk}(hc:c.ok)(hR:EM p cs)(hp:p=c.pos+1)(hW:Jt c.win W ⟨p,q2,cap2,cs⟩)(h:HY c d cs p W M1 zi tl)(hM:∀q∈c.M,q∈M1)(bn:∀i,i∈zi↔JW (c.its.map ItM.iq) cs i)(B:JU d d2 ys)(X:Wj d ys)(hz:zs.Perm tl)(cu:zs.Pairwise fun x y=>x.data.toList<=y.data.toList):GH c d2 p cs q2 cap2 zs:=by
 have g:∀x∈c.its,x.id∈zi↔VB cs x:=fun x hx=>yX hc.its.idx.ids bn hx;have m:∀y,y∈d2.its↔y∈d.its/\p -64<=y.base:=fun y=>by
  rw [B.its];constructor
  · rintro ⟨hy,hn⟩
    refine ⟨hy,an fun U=>hn ?_⟩;obtain ⟨ks,Z,rfl⟩:=X;refine FF.2 ⟨Z.mem_iff.2 (DS hy),(Q5 h.okb.its.keys hy).2 ?_⟩;rw [h.pos];omega
  · rintro ⟨hy,hb⟩
    refine ⟨hy,fun U=>?_⟩;obtain ⟨ks,Z,rfl⟩:=X;have:=(Q5 h.okb.its.keys hy).1 (FF.1 U).2
    rw [h.pos]at this;omega
 have G:d2.pos=p:=B.like.pos.trans h.pos;have I:d2.win=W:=B.like.win.trans h.win
 refine ⟨⟨B.okb,fun y hy=>?_⟩,B.like.cp.trans h.cp,G,by rw [I];exact hW,B.like.ns.trans h.ns,B.like.cap.trans h.cap,B.next.trans h.next,fun e he=>h.PL e (B.PL e he),fun y hy=>?_,fun x hx hb hk=>?_,fun k=>?_,hz.nodup_iff.2 h.t2,cu⟩
 · obtain ⟨J,O⟩:=(m y).1 hy
   rw [G,I,B.M.1,B.M.2];exact A03 (r:=⟨p,q2,cap2,cs⟩) h hc hR hp rfl hW (fun q hq=>by rw [h.M];exact hM q hq) g J O
 · obtain ⟨J,O⟩:=(m y).1 hy
   obtain ⟨x,hx,hs⟩:=h.i1 y J;refine ⟨O,x,hx,hs.core,?_⟩;rcases hs.how with⟨rfl,ax⟩|⟨⟨hin,hb⟩,hok,_,hsi,_⟩
   · exact .inl ⟨fun U=>ax ⟨(g y hx).2 U.1,U.2⟩,rfl,rfl⟩
   · exact .inr ⟨⟨(g x hx).1 hin,hb⟩,hok,hsi⟩
 · obtain ⟨y,hy,af⟩:=h.i2 x hx fun h1 h2=>hk ((g x hx).1 h1) h2
   exact ⟨y,(m y).2 ⟨hy,by rw [(H7 af).2.2.2.2.1];exact hb⟩,af⟩
 · rw [hz.mem_iff,h.t1]
   constructor;· rintro ⟨x,hx,a,b,e⟩;exact ⟨x,hx,a,(g x hx).1 b,e⟩
   · rintro ⟨x,hx,a,b,e⟩;exact ⟨x,hx,a,(g x hx).2 b,e⟩
theorem jC(h:HY c d cs p W' M1 ids tl)(hc:c.ok)(hC:Cf ME (.slice qa cs.length cap) cs)(U:cs.length<=1000)(hx:x∈c.its)(hb:x.base<p)(G:x.id∉ids)(hT:Row 9 tv (tl.map Value.string) st)(X:tl.length<=1000000)(O J I:Nat):
 BZ prog 47 #[.string x.key,.pointer (some ⟨x.b,0,none⟩),I5 O,I5 J,I5 I] [[(O,.cells #[tv] 45 (0,0))],[(J,.cells #[I4 p,.slice qa cs.length cap] 50 (0,0))],[(I,.cells #[.pointer (some ⟨c.cp,0,none⟩)] 27 (0,0))],st,[(c.cp,.cells d.BA1 87 (0,0))],d.sW,d.z.S,[(d.mb,.map d.esP d.ckP)],d.su,[(d.ip,.cells #[.map (some d.mq),d.lv] 163 (0,0))],[(d.mq,.map d.esQ d.ckQ)],d.ML,[(d.mi,.map d.esI d.ckI)],[(d.mkb,.map d.esK d.ckK)],d.SI,d.M,d.MR,ME] (fun v H'=>v=undef/\∃(d2:CZ) (m:A3) (g:List A9),HY c d2 cs p W' M1 (ids++[x.id]) (tl++[x.key])/\Row 9 m ((tl++[x.key]).map Value.string) g/\H'=[[(O,.cells #[m] 45 (0,0))],[(J,.cells #[I4 p,.slice qa cs.length cap] 50 (0,0))],[(I,.cells #[.pointer (some ⟨c.cp,0,none⟩)] 27 (0,0))],g,[(c.cp,.cells d2.BA1 87 (0,0))],d2.sW,d2.z.S,[(d2.mb,.map d2.esP d2.ckP)],d2.su,[(d2.ip,.cells #[.map (some d2.mq),d2.lv] 163 (0,0))],[(d2.mq,.map d2.esQ d2.ckQ)],d2.ML,[(d2.mi,.map d2.esI d2.ckI)],[(d2.mkb,.map d2.esK d2.ckK)],d2.SI,d2.M,d2.MR,ME]):=by
 rw [<-h.cp];have Z:=h.next_it hc.tookb hx G
 have hl:x.live d.MR:=by
  have B:=(hc.all x hx).live hc.tookb;exact ⟨B.q,B.rw.mono h.MR,B.wn,B.wv⟩
 cases hok:(Ba x.q x.res cs).2.2 with
 |true=>
  refine (pK h.okb Z hl p hC U hok hT X O J I).mono ?_;rintro v H' ⟨B,wq,wc,m,g,s,h2,h3,h4,rfl⟩;exact ⟨B,_,m,g,A00 h hc.tookb h4 hx hb G hok h3,h2,V⟩
 |false=>
  refine (pM h.okb Z hl p hC U hok hT X O J I).mono ?_;rintro v H' ⟨B,d2,m,g,h2,h3,h4,h5,_,h6,h7,h8,rfl⟩;exact ⟨B,d2,m,g,A02 h hc.tookb hx hb G hok h2 h3 h4 h5 h6 h7,h8,by rw [h3.cp]⟩
end Go.Proofs.YtfhjaegddfehhabGreatDoor
