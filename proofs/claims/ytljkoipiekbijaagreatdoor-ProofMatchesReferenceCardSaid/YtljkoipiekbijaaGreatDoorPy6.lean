/- proof.Make, for all queries. -/
import Derived.Test.YtljkoipiekbijaaGreatDoorPy1
set_option linter.unusedVariables false
set_option linter.unusedSimpArgs false
namespace Go.Proofs.YtljkoipiekbijaaGreatDoor
open Go.Proofs.Tryz
open Go Go.RowKit Gw
set_option maxRecDepth 100000
attribute [local irreducible] Gw.At Gw.Nx Gw.Ops
theorem ul(v:A3)(p:Int)(rs:List AV)(s:List AR)(hv:RO v p rs s)(J:BP rs)(hn:rs.length<=2000)(y:∀r∈rs,r.ok)(t c lo hi:Int)(K:0<=t/\t<=3)(hc:0<=c/\c<=3)(m:lo<=hi)(g:An)(E:Nat×Nat):
 CJ prog 33 #[v,I4 t,I4 c,I4 lo,I4 hi] [[(1,.cells (Dj.map CP).toArray g E)],s] (fun r H'=>∃(z:RPZ) (mem:List AR),z.x=EC rs t.toNat c.toNat lo hi/\z.ok mem/\r= .tuple #[.agg #[I4 z.x.tb,I4 z.x.cl,I4 z.x.lo,I4 z.x.hi,I4 z.x.ct,I4 z.x.fi,.slice z.qr z.x.rows.length z.cr,.slice z.qp z.x.paths.length z.cp,.slice z.qt z.x.roots.length z.ct],I4 0]/\H'=[mem,[(1,.cells (Dj.map CP).toArray g E)],s]):=by
 have h:=dG v p rs s hv J hn y t.toNat c.toNat A0 A0 lo hi m g E;rw [show((t.toNat:Nat):Int)=t by omega,show((c.toNat:Nat):Int)=c by omega]at h;refine h.mono ?_;rintro r H' ⟨O,mem,rfl,I,rfl⟩;obtain ⟨z,G,h2,rfl⟩:=ny I;exact ⟨z,mem,G,h2,V,V⟩
theorem gH(Z:List RPZ):∀u∈Z.flatMap ET,u.oneCell'=true:=by
 intro u g;obtain ⟨z,_,h⟩:=cE.1 g;unfold ET at h;simp only [H4,PJ,R0]at h;rcases h with rfl|rfl|rfl|rfl|rfl|rfl|rfl|rfl|rfl<;>rfl
theorem wV(Z:List RPZ):(Z.flatMap ET).length=Z.length*9:=by
 induction Z with
 |nil=>rfl
 |cons z Z ih=>rw [L0,C7,ih,GB];show 9+_=_;omega
theorem O6(q:QM)(g:0<=q.bq/\q.bq<=3)(r:AV):BB prog 36 #[.agg q.Ax4,.agg r.Ax3] [] (.agg #[I4 q.ot,I4 0,I4 (Bh r q.bq),I4 (Bh r q.bq)]):=by
 refine Se func36 ntmps36 [0,1] ?_;intro u R;refine A2<|Ze (Bx q.Ax4)<|AE fun bq=>Ze (Bx #[_,_,_,_,_])<|AE fun y=>Ze (Al er #[_,_,_,_])<|AE fun m=>A6<|A2<|Zo Wh (A7 (cs:=#[_,_,_,_,_]) C5 AW Y BW (by exact AP V)) ?_;refine Zh 5 CH V rfl A4 Y<|Zl A5 Y ?_;refine Xr [_,_] Y Sf Y V (Gf r q.bq g) ?_;refine AF Y<|A2<|Zh 6 CH V rfl A4 Y<|Zl A5 Y ?_;refine Sk 2 rfl<|Zv (BK (vs:=[(0,_),(1,_),(2,_),(3,_)]) (cs:=#[_,_,_,_]) Y (AY (pl:=#[(0,1),(1,1),(2,1),(3,1)]) er OS (fun _=>by kernel_rfl) rfl))<|Xe (Ao ao Y Y (by(simp [Value.oneCell',Value.cells];done)) Wu (by exact Bj rfl) DO AH (by exact Aw _)) ?_;refine Z0<|Zn [4] ?_;refine Zx<|AC<|Df V results36 Y Wh (Ai isAgg83 ao Wn (AP V)) (by exact ⟨V,V⟩)
theorem x8(v:A3)(p:Int)(rs:List AV)(s:List AR)(hv:RO v p rs s)(hs:BP rs)(hn:rs.length<=2000)(U:∀r∈rs,r.ok)(t y lo hi:Int)(ht:0<=t/\t<=3)(hc:0<=y/\y<=3)(O:lo<=hi)(G:An)(zg:Nat×Nat)(bs I:Nat){Z:List RPZ}{g:C1}{c:Nat}{E:List AR}(W:BS 9 49 (.slice g Z.length c) Z.length (Z.flatMap ET) E)(hZ:Z.length<=1000000):CJ prog 32 #[.agg #[I4 t,I4 y,I4 lo,I4 hi],I5 bs,I5 I] [[(1,.cells (Dj.map CP).toArray G zg)],s,[(bs,.cells #[v] 33 (0,0))],[(I,.cells #[.slice g Z.length c] 40 (0,0))],E] (fun r H'=>r=undef/\∃(z:RPZ) (mem:List AR) (g:C1) (c:Nat) (E:List AR),z.x=EC rs t.toNat y.toNat lo hi/\z.ok mem/\BS 9 49 (.slice g (Z.length+1) c) (Z.length+1) ((Z++[z]).flatMap ET) E/\H'=[mem,E,[(1,.cells (Dj.map CP).toArray G zg)],s,[(bs,.cells #[v] 33 (0,0))],[(I,.cells #[.slice g (Z.length+1) c] 40 (0,0))]]):=by
 have bn:=mL;obtain ⟨sp,mb,es,ck,lm,rfl,bf⟩:=id hv;refine Se func32 ntmps32 [0,1,2] ?_;intro u R;refine A2<|Ze (Bx #[_,_,_,_])<|AE fun bx=>A6<|A2<|Zl isAgg33 Y<|Zh 0 OS V rfl A4 Y<|Zl A5 Y<|Zh 1 OS V rfl A4 Y<|Zl A5 Y<|Zh 2 OS V rfl A4 Y<|Zl A5 Y<|Zh 3 OS V rfl A4 Y<|Zl A5 Y<|Zc [_,_,_,_,_] Y call33 Y V (ul _ p rs s hv hs hn U t y lo hi ht hc O G zg) ?_;rintro _ _ ⟨_,⟨z,mem,af,X,rfl,rfl⟩,rfl⟩;refine Sk 3 V<|Ze (Al N0 #[_,_,_,_,_,_,_,_,_])<|AE fun bp=>Xe (Xw DM #[I4 z.x.tb,I4 z.x.cl,I4 z.x.lo,I4 z.x.hi,I4 z.x.ct,I4 z.x.fi,.slice z.qr z.x.rows.length z.cr,.slice z.qp z.x.paths.length z.cp,.slice z.qt z.x.roots.length z.ct])<|AN Y<|Zn [2,4] ?_;refine Zx<|Zg<|Zl FG Y<|Zo Wh (A7 (cs:=#[_,_,_,_,_,_,_,_,_]) It DM Y BW B5)<|Ze (Ah (vs:=[_]) (cs:=[_,_,_,_,_,_,_,_,_]) Ds DM N0 Y V rfl V rfl V)<|AE fun gb=>Ze (BL (by_:=120) (sz:=9) Ds (V:Tryz.prog.info? 49=some Tryz.t49) V rfl V rfl Y (W) Y (D7 9 gb 1 1 49 (0,0) (ET z) V) Wo Wo (by have:=gH [z];simpa using this) A0 A0) ?_;rintro _ _ ⟨ax,m,rfl⟩;obtain ⟨K,J,rfl⟩:=m.form;refine Xe (Zs E0 Y Y rfl (hi:=by(simp;done)))<|Z0<|Gn rfl results32 (by exact ⟨rfl,z,mem,K,J,ax,af,X,BJ m rfl (by rw [O2];simp),rfl⟩)
set_option maxHeartbeats 1000000 in
theorem qK(v:A3)(p:Int)(rs:List AV)(s:List AR)(hv:RO v p rs s)(hs:BP rs)(hn:rs.length<=2000)(gm:∀r∈rs,r.ok)(q:QM)(hq:BH q)(hl:(Cm rs q).length<=100)(Tg:An)(zg:Nat×Nat):CJ prog 8 #[v,.agg q.Ax4] [[(1,.cells (Dj.map CP).toArray Tg zg)],s] (fun w H'=>∃vo mem,w= .tuple #[vo,I4 0]/\Et mem vo (EQ rs q)/\H'=[mem,[(1,.cells (Dj.map CP).toArray Tg zg)],s]):=by
 have qa:=mL;obtain ⟨sp,mb,es,ck,lm,rfl,pq⟩:=id hv;have cu:=hq.2.1
 have o9:=@Sb rs q.tb q.cl.toNat q.lo q.hi;have mR:0<=q.bq/\q.bq<=3:=by have:=hq.2.2.2;omega
 have o8:0<=q.ot/\q.ot<=3:=by have:=hq.2.2.2;omega
 refine Se func8 ntmps8 [0,1] ?_;intro u R;refine A2<|Ze (Bx #[_])<|AE fun bs=>Ze (Bx q.Ax4)<|AE fun bq=>Za Y<|CT Y<|AQ<|A2<|Zl isAgg33 Y<|Zv (G9 hQ Y Y)<|AF Y<|Af Y (fun bf=>by cases bf)<|fun bf=>A2<|Zo Wh (A7 (cs:=#[_,_,_,_,_,_,_]) DE CN Y BW B5)<|Xr [_] Y call31 Y V (Ld q)<|Zv (Bp Y)<|AF Y<|Af Y (fun bn=>?_) (fun bn=>?_);·
  exfalso;simp [hq]at bn
 refine AB<|A8<|BT<|Ze (Al zeroValue40 #[_])<|AE fun bo=>A6<|A2<|Zv (CV (vs:=[]) (us:=[_,_]) Y Y)<|AN Y<|Zn [2,3,6,7] ?_;refine BT<|Zo Wh (A7 (cs:=#[_,_,_,_,_,_,_]) DE CN Y BW B5)<|Xr [_] Y call34 Y V (yE q hq)<|Ze (Al er #[_,_,_,_])<|AE fun bx=>Xe (Xw ao #[I4 q.tb,I4 q.cl,I4 q.lo,I4 q.hi])<|A6<|A2<|Zl isAgg33 Y<|Zh 0 OS V rfl A4 Y<|Zl A5 Y<|Zh 1 OS V rfl A4 Y<|Zl A5 Y<|Zh 2 OS V rfl A4 Y<|Zl A5 Y<|Zh 3 OS V rfl A4 Y<|Zl A5 Y<|Zc [_,_,_,_,_] Y call35 Y V (ja _ p rs s hv q.tb q.cl q.lo q.hi cu) ?_;rintro _ _ ⟨_,⟨s1,h1,rfl⟩,rfl⟩;rw [show D8 rs q.tb q.cl.toNat q.lo q.hi=Cm rs q from rfl]at h1 o9;obtain ⟨p1,c1,rfl⟩:=h1.form;obtain ⟨p7,p9,e7,⟨q9,pg⟩,l9⟩:=id (Ca h1 A0);injection e7 with e71 e72 e73
 subst e71 e73;refine AN Y<|Zn [3,6,7,8,9] ?_;refine Zx<|C0 Y<|Zv (AJ B0 Y)<|Zv (CW (n:=100) Y Y)<|A6<|Ad Y (fun l8=>by omega)<|fun l8=>B3<|Zq<|Bi<|Zg<|Zm Y<|Zo Wh (A7 (cs:=#[_,_,_,_]) isAgg83 ao Y BW B5)<|Zc [_] Y call32 Y V (x8 _ p rs s hv hs hn gm q.tb q.cl q.lo q.hi hq.1 cu hq.2.2.1.2.1 Tg zg bs bo (Z:=[]) (BX 9 _) (CD _)) ?_;rintro _ _ ⟨_,⟨rfl,z0,GK,g0,c0,af,kv,O,K,rfl⟩,rfl⟩;refine A6<|Zb [3,7,9,6] ?_;refine C9 (e0:=[(3,_),(7,_),(9,_)]) (H0:=[[(bo,.cells #[.slice g0 (([]:List RPZ).length+1) c0] 40 (0,0))],af,GK]) (fun e H=>∃(Z:List RPZ) (g:C1) (c:Nat) (G y:List AR),(Z.map RPZ.x=EQ rs q/\(∀z∈Z,z.ok y)/\BS 9 49 (.slice g Z.length c) Z.length (Z.flatMap ET) G/\Z.length<=1000)/\e=[]/\H=[[(bo,.cells #[.slice g Z.length c] 40 (0,0))],G,y]) Wp ?hx_1 ?hy_1
 case hx_1=>
  refine A2<|Zh 0 CH V rfl A4 Y<|Zl A5 Y<|Zv (Bd Y Y)<|A6<|Ad Y (fun X=>?_) (fun X=>?_);·
   refine B7 Y<|Zv (AJ B0 Y)<|Zm Y<|A6<|AQ<|Zb [43,3,6,7,41,42] ?_;refine Av (e0:=[(43,_)]) (fun m e H=>∃(k:Nat) (Z:List RPZ) (g:C1) (c:Nat) (G y:List AR),m=(Cm rs q).length -k/\(k<=(Cm rs q).length/\Z.map RPZ.x=EC rs q.tb.toNat q.cl.toNat q.lo q.hi::((Cm rs q).take k).map (fun r=>EC rs q.ot.toNat 0 (Bh r q.bq) (Bh r q.bq))/\(∀z∈Z,z.ok y)/\Z.length=k+1/\BS 9 49 (.slice g Z.length c) Z.length (Z.flatMap ET) G)/\e=[(43,I4 (k:Int))]/\H=[[(bo,.cells #[.slice g Z.length c] 40 (0,0))],G,y]) (by exact ⟨0,[z0],g0,c0,af,GK,rfl,⟨CD _,by rw [Hh,NO,RK,kv],fun z hz=>by rw [HA.1 hz];exact O,rfl,K⟩,rfl,rfl⟩) Wp ?_;rintro _ _ _ ⟨k,Z,g,c,G,y,rfl,⟨hk,E,I,ax,J⟩,rfl,rfl⟩;refine A2<|Zv (Ak Y Y)<|A6<|Zq<|Ad Y (fun d9=>?_) (fun d9=>?_);·
    obtain ⟨W,gq⟩:∃W,(Cm rs q)[k]?=some W:=⟨_,Bk d9⟩;obtain ⟨g8,off,cur,T,zz,rfl,lv,pz,cO⟩:=l9 k W gq;refine B3<|Zq<|AQ<|A2<|BN (A9 B0 AW Y Y A0)<|Cj (cs:=[(g8,.cells cur T zz)]) (by simp [lv]) (A7 (cs:=W.Ax3) C5 AW Y A0 cO) V rfl<|Ze (Al DS #[_,_,_,_,_])<|AE fun bx=>Xe (Xw AW W.Ax3)<|A6<|Zg<|Zm Y<|Zo Wh (A7 (cs:=#[_,_,_,_,_,_,_]) DE CN Y BW B5)<|Zo Wh (A7 (cs:=#[_,_,_,_,_]) C5 AW Y BW B5)<|Xr [_,_] Y call36 Y V (O6 q mR W)<|Zc [_] Y call32 Y V (x8 _ p rs s hv hs hn gm q.ot 0 (Bh W q.bq) (Bh W q.bq) o8 A0 (db _) Tg zg bs bo J A0) ?_;rintro _ _ ⟨_,⟨rfl,z5,U,g5,c5,p8,oq,kz,gy,rfl⟩,rfl⟩;refine Z0<|A8<|Zx<|ES (s1:=U) (s2:=y) Wo Wo ?_;refine GP Y Y Y<|DH (e:=[(43,_)]) (h:=by exact ⟨k+1,Z++[z5],g5,c5,p8,U++y,rfl,⟨by omega,by rw [HD,E,Bt gq,HD,RK,oq];rfl,fun z hz=>by rcases GS.1 hz with h9|h9;exact (I z h9).mono (fun c hc=>G2 _ hc);rw [HA.1 h9];exact kz.mono (fun c hc=>HE _ hc),by rw [C7,ax];rfl,by rw [C7];exact gy⟩,rfl,by rw [C7]⟩)
   have ek:k=(Cm rs q).length:=by omega
   subst ek;rw [HJ]at E;refine Az<|Zt<|Zt<|AU<|FF (e:=[]) (h:=by exact ⟨Z,_,_,G,y,⟨by unfold EQ;rw [B2 X];exact E,I,J,by omega⟩,rfl,rfl⟩)
  refine AB<|FF (e:=[]) (h:=by exact ⟨[z0],g0,c0,af,GK,⟨by unfold EQ;rw [Ax X,RK,kv],fun z hz=>by rw [HA.1 hz];exact O,K,by simp⟩,rfl,rfl⟩)
 rintro _ _ ⟨Z,g,c,G,y,⟨E,I,J,ax⟩,rfl,rfl⟩;refine Zq<|ES (s1:=G) (s2:=y) Wo Wo ?_;refine Zg<|Zl FG Y<|Za Y<|AM Y<|Cn rfl results8 Y Y (by exact ⟨.slice g Z.length c,G++y,rfl,by rw [<-E];exact SL J A0 I,rfl⟩)
theorem qL{sp:Nat}{s:List AR}(q:QM)(y:¬BH q):BB prog 8 #[I5 sp,.agg q.Ax4] [] (.tuple #[.slice none 0 0,I4 50]):=by
 refine Se func8 ntmps8 [0,1] ?_;intro u R;refine A2<|Ze (Bx #[_])<|AE fun bs=>Ze (Bx q.Ax4)<|AE fun bq=>Za Y<|CT Y<|AQ<|A2<|Zl isAgg33 Y<|Zv (G9 hQ Y Y)<|AF Y<|Af Y (fun g=>by cases g)<|fun g=>A2<|Zo Wh (A7 (cs:=#[_,_,_,_,_,_,_]) DE CN Y BW B5)<|Xr [_] Y call31 Y V (Ld q)<|Zv (Bp Y)<|AF Y<|Af Y (fun m=>?_) (fun m=>?_);·
  refine A2<|Za Y<|AN Y<|Zn [4,5] ?_;refine Zx<|AC<|AX<|Zt<|Cn V results8 Y Y (by exact ⟨V,V⟩)
 exfalso;simp [y]at m
theorem tK{x:RP}{t cl lo hi:Int}:decide (x.scan=(t,cl,lo,hi)/\Eb x)=((((decide (Eb x)&&decide (x.tb=t))&&decide (x.cl=cl))&&decide (x.lo=lo))&&decide (x.hi=hi)):=by
 rw [gE];unfold RP.scan;simp only [LL,HB,kh];constructor;· rintro ⟨⟨g,h2,m,y⟩,z⟩;exact ⟨⟨⟨⟨z,g⟩,h2⟩,m⟩,y⟩
 · rintro ⟨⟨⟨⟨z,g⟩,h2⟩,m⟩,y⟩;exact ⟨⟨g,h2,m,y⟩,z⟩
variable{M:List AR}
set_option maxHeartbeats 1000000 in
theorem VJ{z:RPZ}(hz:z.ok M)(t cl lo hi:Int):CJ prog 56 #[.agg #[I4 z.x.tb,I4 z.x.cl,I4 z.x.lo,I4 z.x.hi,I4 z.x.ct,I4 z.x.fi,.slice z.qr z.x.rows.length z.cr,.slice z.qp z.x.paths.length z.cp,.slice z.qt z.x.roots.length z.ct],I4 t,I4 cl,I4 lo,I4 hi] [M] (fun w H'=>∃m sr,w= .tuple #[m,.bool (decide (z.x.scan=(t,cl,lo,hi)/\Eb z.x))]/\BS 5 91 m (Ci z.x).length (Aa (Ci z.x)) sr/\H'=[sr,M]):=by
 refine Se func56 ntmps56 [0,1,2,3,4] ?_;intro u R;refine A2<|Ze (Bx #[I4 z.x.tb,I4 z.x.cl,I4 z.x.lo,I4 z.x.hi,I4 z.x.ct,I4 z.x.fi,.slice z.qr z.x.rows.length z.cr,.slice z.qp z.x.paths.length z.cp,.slice z.qt z.x.roots.length z.ct])<|AE fun I=>Za Y<|AF Y<|A2<|Zo Wh (A7 (cs:=#[_,_,_,_,_,_,_,_,_]) It DM Y (by exact B4 _) (by exact AP V)) ?_;refine Zc [_] Y call117 Y V (oU hz.rp) ?_;rintro _ _ ⟨_,⟨m,sr,rfl,g,rfl⟩,rfl⟩;refine Sk 4 V<|CT Y<|Au (n:=28) (0::0::2::6::14::6::62::126::254::510::1022::510::4094::8190::16382::32766::65534::32766::262142::524286::1048574::2097150::4194302::2097150::16777214::33554430::2097151::134217727::[]) 0 AG AG V<|A1 0 V (AA Y)<|A1 1 V (AA Y)<|A1 2 V (AA Y)<|CS (t:=21) Y (fun y=>?_) (fun y=>?_);focus
  rw [Cp y];refine B1 3 V (AL (off:=0) Bm V rfl A4 Y)<|DG 4 V Wh (BZ A5 Y B5) ?_;refine B1 5 V (AA Y)<|B1 6 V (Bd Y Y)<|A1 7 V (Ay Y Y)<|A1 8 V (AA Y)<|CS (t:=27) Y (fun h2=>?_) (fun h2=>?_);focus
   rw [Cp h2];refine B1 9 V (AL (off:=1) Bm V rfl A4 Y)<|DG 10 V Wh (BZ A5 Y B5) ?_;refine B1 11 V (AA Y)<|B1 12 V (Bd Y Y)<|A1 13 V (Ay Y Y)<|A1 14 V (AA Y)<|CS (t:=33) Y (fun E=>?_) (fun E=>?_);focus
    rw [Cp E];refine B1 15 V (AL (off:=2) Bm V rfl A4 Y)<|DG 16 V Wh (BZ A5 Y B5) ?_;refine B1 17 V (AA Y)<|B1 18 V (Bd Y Y)<|A1 19 V (Ay Y Y)<|A1 20 V (AA Y)<|CS (t:=39) Y (fun G=>?_) (fun G=>?_);focus
     rw [Cp G];refine B1 21 V (AL (off:=3) Bm V rfl A4 Y)<|DG 22 V Wh (BZ A5 Y B5) ?_;refine B1 23 V (AA Y)<|B1 24 V (Bd Y Y)<|A1 25 V (Ay Y Y) ?_
    rotate_left
    focus
     rw [CC G];refine AK 21 V<|AK 22 V<|AK 23 V<|AK 24 V<|A1 25 V (BC Y Y) ?_
    all_goals
     refine A1 26 V (Aq Y)<|A1 27 V (Aq Y)<|Am<|Zn [10,11] ?_;refine Zx<|AC<|Cn rfl results56 Y Y (by exact ⟨m,sr,by rw [tK];simp [*],g,rfl⟩)
   focus
    rw [CC E]
  rotate_left
  focus
   rw [CC h2];refine AK 9 V<|AK 10 V<|AK 11 V<|AK 12 V<|A1 13 V (BC Y Y)<|A1 14 V (AA Y) ?_
 rotate_left 2
 focus
  rw [CC y];refine AK 3 V<|AK 4 V<|AK 5 V<|AK 6 V<|A1 7 V (BC Y Y)<|A1 8 V (AA Y)<|AK 9 V<|AK 10 V<|AK 11 V<|AK 12 V<|A1 13 V (BC Y Y)<|A1 14 V (AA Y) ?_
 all_goals
  refine AK 15 V<|AK 16 V<|AK 17 V<|AK 18 V<|A1 19 V (BC Y Y)<|A1 20 V (AA Y)<|AK 21 V<|AK 22 V<|AK 23 V<|AK 24 V<|A1 25 V (BC Y Y)<|A1 26 V (Aq Y)<|A1 27 V (Aq Y)<|Am<|Zn [10,11] ?_;refine Zx<|AC<|Cn rfl results56 Y Y (by exact ⟨m,sr,by rw [tK];simp [*],g,rfl⟩)
def EK:List UInt8:=List.replicate 32 0
def fl1(c:Chg):Int:=if c.had then 1 else 0
def vs1(c:Chg):List Int:=if c.had then [c.o.a,c.o.b,c.o.c]else []
def fl2(c:Chg):Int:=if c.has then fl1 c+2 else fl1 c
def vs2(c:Chg):List Int:=if c.has then vs1 c++[c.n.a,c.n.b,c.n.c]else vs1 c
def OQ(c:Chg):List UInt8:=Cw [c.t,c.k,fl2 c]++Cw (vs2 c)
def Kl(p:Int)(cs:List Chg):List UInt8:=Cw [p,(cs.length:Int)]++cs.flatMap OQ
def iV(n:Int):A3:=I4 n
theorem LF(xs:List Int):Ip (xs.map iV).toArray 0 xs:=fun i n h=>by
 rw [Dd,eK,HL,h];rfl
theorem qf{cur:As}{xs:List Int}(h:cur.toList.take xs.length=xs.map iV):Ip cur 0 xs:=fun i n hi=>by
 have g:=(D3.1 hi).1;rw [Dd,<-Kf];have m:(cur.toList.take xs.length)[i]?=(xs.map iV)[i]?:=by rw [h]
 rw [I3,B2 g,HL,hi]at m;exact m
variable{c:Chg}
theorem xL(h:c.had=true):fl1 c=1:=B2 h
theorem xM(h:c.had=false):fl1 c=0:=Ax (by rw [h];decide)
theorem Uj(h:c.had=true):vs1 c=[c.o.a,c.o.b,c.o.c]:=B2 h
theorem mo(h:c.had=false):vs1 c=[]:=Ax (by rw [h];decide)
theorem xJ(h:c.has=true):fl2 c=fl1 c+2:=B2 h
theorem xK(h:c.has=false):fl2 c=fl1 c:=Ax (by rw [h];decide)
theorem Ui(h:c.has=true):vs2 c=vs1 c++[c.n.a,c.n.b,c.n.c]:=B2 h
theorem Xp(h:c.has=false):vs2 c=vs1 c:=Ax (by rw [h];decide)
theorem fC(c:Chg):0<=fl1 c/\fl1 c<=1:=by unfold fl1;split<;>omega
theorem yf(c:Chg):0<=fl2 c/\fl2 c<=3:=by have:=fC c;unfold fl2;split<;>omega
theorem Pb(h:c.ok):(∀n∈[c.t,c.k,fl2 c],-4611686018427387903<=n/\n<=4611686018427387903)/\(∀n∈vs2 c,-4611686018427387903<=n/\n<=4611686018427387903)/\0<(vs2 c).length/\(vs2 c).length<=6:=by
 obtain ⟨G,h2,_,_⟩:=h;have J:=yf c
 have I:c.had=true->(inV c.o.a/\inV c.o.b/\inV c.o.c)/\(0<=c.t/\c.t<=3)/\(1<=c.k/\c.k<=1000000):=fun g=>by
  have:c.before.ok:=Z1 (fun hn=>h2 (.inl ⟨g,hn⟩));rw [KE g]at this;exact this
 have hn:c.has=true->(inV c.n.a/\inV c.n.b/\inV c.n.c)/\(0<=c.t/\c.t<=3)/\(1<=c.k/\c.k<=1000000):=fun g=>by
  have:c.after.ok:=Z1 (fun hn=>h2 (.inr ⟨g,hn⟩));rw [Hl g]at this;exact this
 have K:(0<=c.t/\c.t<=3)/\(1<=c.k/\c.k<=1000000):=by
  cases g:c.had with
  |true=>exact (I g).2
  |false=>
   cases hs:c.has with
   |true=>exact (hn hs).2
   |false=>exact absurd (.inl ⟨by rw [g];decide,by rw [hs];decide⟩) G
 have m:∀n∈vs1 c,-4611686018427387903<=n/\n<=4611686018427387903:=by
  cases g:c.had with
  |true=>
   obtain ⟨⟨y,z,E⟩,_⟩:=I g;unfold inV at y z E;rw [Uj g];intro n hn;simp only [H4,PJ,R0]at hn;rcases hn with rfl|rfl|rfl<;>omega
  |false=>rw [mo g];intro n hn;cases hn
 refine ⟨fun n hn=>?_,?_,?_,?_⟩
 · simp only [H4,PJ,R0]at hn
   rcases hn with rfl|rfl|rfl<;>omega
 · cases hs:c.has with
   |true=>
    obtain ⟨⟨y,z,E⟩,_⟩:=hn hs;unfold inV at y z E;rw [Ui hs];intro n hn;rcases GS.1 hn with hn|hn
    · exact m n hn
    · simp only [H4,PJ,R0]at hn
      rcases hn with rfl|rfl|rfl<;>omega
   |false=>rw [Xp hs];exact m
 · cases hs:c.has with
   |true=>rw [Ui hs,C7];simp
   |false=>
    rw [Xp hs];cases g:c.had with
    |true=>rw [Uj g];exact Nat.succ_pos _
    |false=>exact absurd (.inl ⟨by rw [g];decide,by rw [hs];decide⟩) G
 · have:(vs1 c).length<=3:=by unfold vs1;split<;>simp
   cases hs:c.has with
   |true=>rw [Ui hs,C7];simp;omega
   |false=>rw [Xp hs];omega
theorem uF(c:Chg):(vs1 c).length<=3:=by unfold vs1;split<;>simp
theorem sD(h:c.ok):(OQ c).length<=81:=by
 obtain ⟨g,h2,m,y⟩:=Pb h;have a:=De _ g
 have b:=De _ h2;unfold OQ;rw [C7];have:[c.t,c.k,fl2 c].length=3:=rfl
 omega
theorem Tp:∀(cs:List Chg),(∀c∈cs,c.ok)->(cs.flatMap OQ).length<=cs.length*81
 |[],_=>CD _
 |c::cs,h=>by
  have a:=Tp cs (fun x hx=>h x (by simp [hx]));have b:=sD (h c C4)
  rw [L0,C7,GB];omega
variable{p:Int}{cs:List Chg}
theorem PT(h:Es p cs):∀n∈[p,(cs.length:Int)],-4611686018427387903<=n/\n<=4611686018427387903:=by
 intro n hn;have g:=h.pos
 have h2:=h.len;simp only [H4,PJ,R0]at hn;rcases hn with rfl|rfl<;>omega
theorem Es.mem(h:Es p cs):∀c∈cs,c.ok:=fun c hc=>by
 obtain ⟨i,hi⟩:=JT hc;exact h.all i c hi
theorem WA(h:Es p cs)(i:Nat):(Cw [p,(cs.length:Int)]++(cs.take i).flatMap OQ).length<=666:=by
 have a:=De _ (PT h);have b:=Tp (cs.take i) (fun c hc=>h.mem c (Ks hc))
 have d:(cs.take i).length<=8:=by rw [CI];have:=h.len;omega
 rw [C7];have:[p,(cs.length:Int)].length=2:=rfl
 omega
theorem OP(h:Es p cs):(Kl p cs).length<=18+cs.length*81:=by
 have a:=De _ (PT h);have b:=Tp cs h.mem
 unfold Kl;rw [C7];have:[p,(cs.length:Int)].length=2:=rfl
 omega
variable{i:Nat}
theorem Tq(A:List UInt8){x:Chg}(hx:cs[i]?=some x):A++(cs.take (i+1)).flatMap OQ=(A++(cs.take i).flatMap OQ)++(Cw [x.t,x.k,fl2 x]++Cw (vs2 x)):=by
 rw [OK,hx];show A++(cs.take i++[x]).flatMap OQ=_
 rw [O2,G0];simp only [L0,jt,HT];rfl
theorem jf(p:Int)(q:C1)(cap:Nat)(cs:List Chg)(M:List AR)(hO:DJ M (.slice q cs.length cap) cs)(E:Es p cs):BB prog 162 #[.agg #[I4 p,.slice q cs.length cap]] [M] (.tuple #[.string (str (Kl p cs)),I4 0]):=by
 have mR:=mL;obtain ⟨p9,cO,e9,o9,hg⟩:=id hO;injection e9 with e91 e92 e93
 subst e91 e93;have X:=PT E
 have d9:=E.len;refine Se func162 ntmps162 [0] ?_;intro u R;refine A2<|Ze (Bx #[_,_])<|AE fun b1=>Za Y<|CT Y<|A2<|Zo Wh (Pa #[_,_] J1 Fk Y)<|Xr [_] Y call139 Y V (Q3 p q cap cs M hO) ?_;rw [Cp E];refine Zv (CR Y)<|A6<|Af Y (fun hv=>by cases hv)<|fun hv=>AB<|BT<|Zh 0 G3 V rfl A4 Y<|Zl A5 Y<|Zh 1 G3 V rfl ID Y<|Zl J0 Y<|Zv (AJ GF Y)<|Ze (Ah (vs:=[_,_]) (cs:=[_,_]) HF A4 K1 Y V rfl V rfl V)<|AE fun gb=>Xr [_] Y call171 Y V (SC gb 0 2 _ _ _ [p,(cs.length:Int)] (LF [p,(cs.length:Int)]) C4 X)<|AN Y<|Zn [1,4] ?_;refine Zx<|Zq<|A2<|Zh 1 G3 V rfl ID Y<|Zl J0 Y<|Zv (AJ GF Y)<|Zm Y<|A6<|AQ<|Zb [4,22,20,21] ?_;refine Av (e0:=[(4,_),(22,_)]) (fun m e H=>∃(i:Nat),m=cs.length -i/\(i<=cs.length)/\e=[(4,.string (str (Cw [p,(cs.length:Int)]++(cs.take i).flatMap OQ))),(22,I4 (i:Int))]/\H=[]) (by exact ⟨0,rfl,CD _,by rw [Hh,jt,HT];rfl,rfl⟩) Wp ?_;rintro _ _ _ ⟨i,rfl,hi,rfl,rfl⟩;refine A2<|Zv (Ak Y Y)<|A6<|Zq<|Ad Y (fun O=>?_) (fun O=>?_);·
  obtain ⟨x,hx⟩:∃x,cs[i]?=some x:=⟨_,Bk O⟩;obtain ⟨g,off,cur,T,zz,rfl,hm,oq,bf⟩:=hg i x hx;obtain ⟨U,W,bn,o8⟩:=Pb (E.all i x hx);have ek:=De _ U
  have gm:=De _ W;have p8:=WA E i
  have lv:[x.t,x.k,fl2 x].length=3:=rfl;have l8:=fC x
  have l9:=uF x;refine B3<|Zq<|AQ<|A2<|BN (A9 GF D2 Y Y Fl)<|Cj (cs:=[(g,.cells cur T zz)]) (by simp [hm]) (A7 (cs:=x.Ax2) G1 D2 Y A0 bf) rfl rfl<|Ze (Al MT #[_,_,_,_,_,_,_,_,_,_])<|AE fun J=>Xe (Xw D2 x.Ax2)<|A6<|Zq<|Bi<|Zg<|Za Y<|AF Y<|Zb [7,8,4,6,20,21,22] ?_;refine C9 (e0:=[(7,_),(8,_)]) (H0:=[[(J,.cells x.Ax2 126 (0,0))],[]]) (fun e H=>∃(v:A3) (I:List AR),(Row 3 v ((vs1 x).map iV) I)/\e=[(7,I4 (fl1 x)),(8,v)]/\H=[[(J,.cells x.Ax2 126 (0,0))],I]) Wp ?hx_2 ?hy_2
  case hx_2=>
   refine A2<|Zh 2 CM V rfl DP Y<|Zl Fc Y<|A6<|Af Y (fun y=>?_) (fun y=>?_);·
    refine Zg<|Zm Y<|Zh 3 CM V rfl Dg Y<|Zv (Fv HS A4 Y)<|Ze (Ob (by_:=8) HF (V:Tryz.prog.info? 3=some Tryz.t3) V rfl V rfl Y (JZ 3) Y (gV (cur:=x.Ax2) (ys:=[iV x.o.a,iV x.o.b,iV x.o.c]) (o:=3) V AH V) Wo Wo (by simp [iV,Value.oneCell']) Of C4) ?_;rintro _ _ ⟨sa,Z,rfl⟩;obtain ⟨ga,ca,rfl⟩:=Z.form;refine Za Y<|AN Y<|FF (e:=[(7,_),(8,_)]) (h:=by exact ⟨_,sa,by rw [Uj y];exact Z,by rw [xL y],rfl⟩)
   refine AB<|FF (e:=[(7,_),(8,_)]) (h:=by exact ⟨.slice none 0 0,[],by rw [mo y];exact JZ _,by rw [xM y],rfl⟩)
  rintro _ _ ⟨v,I,ax,rfl,rfl⟩;refine Zb [7,8,4,6,20,21,22] ?_;refine C9 (e0:=[(7,_),(8,_)]) (H0:=[[(J,.cells x.Ax2 126 (0,0))],I]) (fun e H=>∃(v:A3) (I:List AR),(Row 3 v ((vs2 x).map iV) I)/\e=[(7,I4 (fl2 x)),(8,v)]/\H=[[(J,.cells x.Ax2 126 (0,0))],I]) Wp ?hx_5 ?hy_5
  case hx_5=>
   refine A2<|Zh 6 CM V rfl DP Y<|Zl Fc Y<|A6<|Af Y (fun z=>?_) (fun z=>?_);·
    refine Zg<|Zm Y<|Yi Y Y<|Zm Y<|Zh 7 CM rfl rfl Dg Y<|Zv (Fv HS A4 Y)<|Ze (Ob (by_:=8) HF (rfl:Tryz.prog.info? 3=some Tryz.t3) rfl rfl rfl rfl Y (ax) Y (gV (cur:=x.Ax2) (ys:=[iV x.n.a,iV x.n.b,iV x.n.c]) (o:=7) rfl AH rfl) Wo Wo (by simp [iV,Value.oneCell']) (by rw [C2];simp;omega) (by rw [C2];simp;omega)) ?_;rintro _ _ ⟨sb,af,rfl⟩;obtain ⟨gb,J,rfl⟩:=af.form;refine Za Y<|AN Y<|FF (e:=[(7,_),(8,_)]) (h:=by exact ⟨_,sb,by rw [Ui z,HD];exact af,by rw [xJ z],rfl⟩)
   refine AB<|FF (e:=[(7,_),(8,_)]) (h:=by exact ⟨v,I,by rw [Xp z];exact ax,by rw [xK z],rfl⟩)
  rintro _ _ ⟨v2,pg,cu,rfl,rfl⟩;obtain ⟨gv,cv,K,zv,rfl,rfl,gq,gy,kv,G,kz⟩:=cu.some (by rw [C2];exact bn);rw [C2]at G⊢;refine Zg<|Zm Y<|Zh 0 CM V rfl A4 Y<|Zl A5 Y<|Zh 1 CM V rfl A4 Y<|Zl A5 Y<|Zm Y<|Ze (Ah (vs:=[_,_,_]) (cs:=[_,_,_]) HF A4 K1 Y V rfl V rfl V)<|AE fun gp=>Xr [_] Y call171 Y rfl (SC gp 0 3 _ _ _ [x.t,x.k,fl2 x] (LF [x.t,x.k,fl2 x]) C4 U)<|Zm Y<|Xr [_] Y call171 Y rfl (SC gv 0 cv K _ zv (vs2 x) (qf G) A0 W)<|BN (EH Y Y (by rw [Be,Be];omega))<|BN (EH Y Y (by rw [Ec,Be,Be];have h9:(Cw [x.t,x.k,fl2 x]++Cw (vs2 x)).length=_:=C7;omega))<|AN Y<|Zn [4,20,21,22] ?_;refine A8<|Zx<|GP Y Y Y<|DH (e:=[(4,_),(22,_)]) (h:=by exact ⟨i+1,rfl,by omega,by rw [Tq _ hx,<-Ec (Cw [p,(cs.length:Int)]++(cs.take i).flatMap OQ),<-Ec (Cw [x.t,x.k,fl2 x]) (Cw (vs2 x))],rfl⟩)
 refine Az<|Zt<|Zt<|AU<|BT<|Sk 2 rfl<|AM Y<|Cn rfl results162 Y Y (by exact ⟨by rw [Hx A0];rfl,rfl⟩)
theorem UQ(a b:List D5):Ik (a++b)=Ik a++Ik b:=by unfold Ik;rw [O2]
noncomputable instance(a b:D5):Decidable (a=b):=Classical.propDecidable _
def D5.ok(h:D5):Prop:=(0<=h.p/\h.p<=10000)/\h.ch.length=32/\h.st.length=32
instance(h:D5):Decidable h.ok:=inferInstanceAs(Decidable (_/\_))
theorem ic{x y:D5}:x=y↔x.p=y.p/\x.ch=y.ch/\x.st=y.st:=by
 obtain ⟨a,b,c⟩:=x;obtain ⟨d,e,f⟩:=y;simp only [D5.mk.injEq]
theorem eqH(x y:D5):EqT prog 3 67 (.agg #[I4 x.p,.string (str x.ch),.string (str x.st)]) (.agg #[I4 y.p,.string (str y.ch),.string (str y.st)]) (decide (x=y)):=
 OM Hc AG (.cons AH (Cz A5 rfl) (Cz A5 rfl) (Iy Ge _ _)<| .cons AH (Cz HG rfl) (Cz HG rfl) (j3 HM _ _)<| .cons AH (Cz HG rfl) (Cz HG rfl) (j3 HM _ _)<| .nil) (by
  rw [gE];simp only [ki,List.all_nil,el,HB,id,LL,ic];constructor;· rintro ⟨a,b,c⟩;exact ⟨a,JX b,JX c⟩
  · rintro ⟨a,b,c⟩;exact ⟨a,by rw [b],by rw [c]⟩)
theorem ym{x y:Chg}:x=y↔x.t=y.t/\x.k=y.k/\x.had=y.had/\x.o=y.o/\x.has=y.has/\x.n=y.n:=by
 obtain ⟨a,b,c,d,e,f⟩:=x;obtain ⟨g,m,c',z,e',E⟩:=y;simp only [Chg.mk.injEq]
theorem eqC(x y:Chg):EqT prog 3 126 (.agg x.Ax2) (.agg y.Ax2) (decide (x=y)):=
 OM CM AG (.cons AH (Cz A5 rfl) (Cz A5 rfl) (Iy Ge _ _)<| .cons AH (Cz A5 rfl) (Cz A5 rfl) (Iy Ge _ _)<| .cons AH (Cz Fc rfl) (Cz Fc rfl) (aL MY _ _)<| .cons AH (PE (cs:=#[I4 x.o.a,I4 x.o.b,I4 x.o.c]) Hv Dg rfl (by exact (by decide:(6:Nat)<=10))) (PE (cs:=#[I4 y.o.a,I4 y.o.b,I4 y.o.c]) Hv Dg rfl (by exact (by decide:(6:Nat)<=10))) (aM HS Ge A5 A4 x.o y.o)<| .cons AH (Cz Fc rfl) (Cz Fc rfl) (aL MY _ _)<| .cons AH (PE (cs:=#[I4 x.n.a,I4 x.n.b,I4 x.n.c]) Hv Dg rfl (by exact (by decide:(10:Nat)<=10))) (PE (cs:=#[I4 y.n.a,I4 y.n.b,I4 y.n.c]) Hv Dg rfl (by exact (by decide:(10:Nat)<=10))) (aM HS Ge A5 A4 x.n y.n)<| .nil) (by
  rw [gE];simp only [ki,List.all_nil,el,HB,id,LL,ym])
theorem zf{x y:QM}:x=y↔x.kd=y.kd/\x.tb=y.tb/\x.cl=y.cl/\x.lo=y.lo/\x.hi=y.hi/\x.bq=y.bq/\x.ot=y.ot:=by
 obtain ⟨a,b,c,d,e,f,g⟩:=x;obtain ⟨m,z,c',E,e',G,I⟩:=y;simp only [QM.mk.injEq]
theorem eqQ(x y:QM):EqT prog 3 30 (.agg x.Ax4) (.agg y.Ax4) (decide (x=y)):=
 OM CH AG (.cons AH (Cz A5 rfl) (Cz A5 rfl) (Iy Ge _ _)<| .cons AH (Cz A5 rfl) (Cz A5 rfl) (Iy Ge _ _)<| .cons AH (Cz A5 rfl) (Cz A5 rfl) (Iy Ge _ _)<| .cons AH (Cz A5 rfl) (Cz A5 rfl) (Iy Ge _ _)<| .cons AH (Cz A5 rfl) (Cz A5 rfl) (Iy Ge _ _)<| .cons AH (Cz A5 rfl) (Cz A5 rfl) (Iy Ge _ _)<| .cons AH (Cz A5 rfl) (Cz A5 rfl) (Iy Ge _ _)<| .nil) (by
  rw [gE];simp only [ki,List.all_nil,el,HB,id,LL,zf])
def Bz.key(r:Bz):Int×List Chg:=(r.p,r.cs)
variable{vb va:A3}
theorem ry{a b:List Chg}(ha:DJ M va a)(hb:DJ M vb b):BB prog 138 #[va,vb] [M] (.bool (decide (a=b))):=by
 have gy:=mL;obtain ⟨pa,ca,rfl,gm,U⟩:=ha;obtain ⟨pb,cb,rfl,gq,W⟩:=hb;refine Se func138 ntmps138 [0,1] ?_;intro u R;refine A2<|AF Y<|C0 Y<|Zv (AJ GF Y)<|Zm Y<|Zv (AJ GF Y)<|Zv (Cb Y Y)<|A6<|Ad Y (fun K=>?_) (fun K=>?_);·
  refine A2<|AM Y<|Zt<|AO rfl results138 Y (by exact ⟨Co (fun e=>K (by rw [e])),rfl⟩)
 have X:a.length=b.length:=by omega
 refine B3<|C0 Y<|Zv (AJ GF Y)<|Zm Y<|A6<|AQ<|Zb [13,0,1,12] ?_;refine Av (e0:=[(13,_)]) (fun m e H=>∃(i:Nat),m=a.length -i/\(i<=a.length/\∀j,j<i->a[j]?=b[j]?)/\e=[(13,I4 (i:Int))]/\H=[]) (by exact ⟨0,V,⟨CD _,by intro j hj;omega⟩,V,V⟩) Wp ?_;rintro _ _ _ ⟨i,rfl,⟨hi,g⟩,rfl,rfl⟩;refine A2<|Zv (Ak Y Y)<|A6<|Zq<|Ad Y (fun Z=>?_) (fun Z=>?_);·
  obtain ⟨x,hx⟩:∃x,a[i]?=some x:=⟨_,Bk A0⟩;obtain ⟨y,hy⟩:∃y,b[i]?=some y:=⟨_,Bk A0⟩;obtain ⟨g1,d9,z,T1,bf,rfl,af,cu,I⟩:=U i x hx;obtain ⟨g2,ek,E,T2,bn,rfl,ax,cO,J⟩:=W i y hy;refine B3<|Zq<|AQ<|B7 Y<|CT Y<|Au (n:=9) (0::0::3::7::0::0::48::112::255::[]) 0 AG AG V<|A1 0 V (AA Y)<|A1 1 V (AA Y)<|A1 2 V (A9 GF D2 Y Y A0)<|CX (b:=g1) (x:= .cells z T1 bf) (D':=15) 3 V rfl V (by simp [af]) (A7 (cs:=x.Ax2) G1 D2 Y A0 I) ?_;refine A1 4 V (AA Y)<|A1 5 V (AA Y)<|A1 6 V (A9 GF D2 Y Y A0)<|CX (b:=g2) (x:= .cells E T2 bn) (D':=255) 7 V rfl V (by simp [ax]) (A7 (cs:=y.Ax2) G1 D2 Y A0 J) ?_;refine A1 8 V (dY AG Y Y (eqC x y))<|Am<|Zx<|Af Y (fun G=>?_) (fun G=>?_);·
   have G:¬x=y:=by simpa using G
   refine A2<|AN Y<|Zn [4] ?_;refine Zx<|AC<|AX<|Zt<|Zt<|AX<|Zt<|AO rfl results138 Y (by exact ⟨Co (fun e=>by rw [e,hy]at hx;injection hx with hx;exact G hx.symm),rfl⟩)
  have O:x=y:=by simpa using G
  refine AB<|A8<|Zx<|GP Y Y Y<|HN (by exact ⟨i+1,rfl,⟨by omega,fun j hj=>by rcases FA j i with h9|h9;exact g j h9;obtain rfl:j=i:=A0;rw [hx,hy];exact congrArg some O⟩,rfl,rfl⟩)
 refine Az<|Zt<|Zt<|AU<|BT<|AM Y<|AO V results138 Y (by exact ⟨IV (Iu X (fun j hj=>g j A0)),V⟩)
theorem bT{a b:Bz}(y:DJ M (.slice a.q a.cs.length a.cap) a.cs)(z:DJ M (.slice b.q b.cs.length b.cap) b.cs):BB prog 69 #[.agg #[I4 a.p,.slice a.q a.cs.length a.cap],.agg #[I4 b.p,.slice b.q b.cs.length b.cap]] [M] (.bool (decide (a.key=b.key))):=by
 refine Se func69 ntmps69 [0,1] ?_;intro u R;refine A2<|Ze (Bx #[_,_])<|AE fun E=>Ze (Bx #[_,_])<|AE fun G=>AF Y<|A2<|Zh 0 G3 V rfl A4 Y<|Zl A5 Y<|Zh 0 G3 V rfl A4 Y<|Zl A5 Y<|Zv (Bd Y Y)<|Zm Y<|AZ (t:=10) Y V (fun g=>?_) (fun g=>?_);·
  refine Yf 1 G3 V rfl ID Y<|Yl J0 Y<|Yf 1 G3 V rfl ID Y<|Yl J0 Y<|Xr [_,_] Y call138 Y V (ry y z)<|HR Y Y<|AN Y<|Zn [4] ?_;refine Zx<|AC<|AO V results69 Y (by exact ⟨by exact F4 ⟨fun m=>Prod.ext g m,fun m=>(Prod.ext_iff.1 m).2⟩,V⟩)
 refine Sk 6 V<|AN Y<|Zn [4] ?_;refine Zx<|AC<|AO V results69 Y (by exact ⟨by exact Co (fun e=>g (Prod.ext_iff.1 e).1),V⟩)
theorem fG{a b:List Bz}(ha:DD M va a)(hb:DD M vb b):BB prog 137 #[va,vb,.func (.func 69) #[] #[]] [M] (.bool (decide (a.map Bz.key=b.map Bz.key))):=by
 have lv:=mL;obtain ⟨pa,ca,rfl,l8,W⟩:=ha;obtain ⟨pb,cb,rfl,l9,X⟩:=hb;refine Se func137 ntmps137 [0,1,2] ?_;intro u R;refine A2<|AF Y<|C0 Y<|Zv (AJ G4 Y)<|Zm Y<|Zv (AJ G4 Y)<|Zv (Cb Y Y)<|A6<|Ad Y (fun J=>?_) (fun J=>?_);·
  refine A2<|AM Y<|Zt<|AO V results137 Y (by exact ⟨Co (fun e=>J (by have:=congrArg List.length e;simpa using this)),V⟩)
 have af:a.length=b.length:=by omega
 refine B3<|C0 Y<|Zv (AJ G4 Y)<|Zm Y<|A6<|AQ<|Zb [17,1,2,15,16] ?_;refine Av (e0:=[(17,_)]) (fun m e H=>∃(i:Nat),m=a.length -i/\(i<=a.length/\∀j,j<i->(a.map Bz.key)[j]?=(b.map Bz.key)[j]?)/\e=[(17,I4 (i:Int))]/\H=[]) (by exact ⟨0,V,⟨CD _,by intro j Z;omega⟩,V,V⟩) Wp ?_;rintro _ _ _ ⟨i,rfl,⟨hi,g⟩,rfl,rfl⟩;refine A2<|Zv (Ak Y Y)<|A6<|Zq<|Ad Y (fun ax=>?_) (fun ax=>?_);·
  obtain ⟨x,hx⟩:∃x,a[i]?=some x:=⟨_,Bk A0⟩;obtain ⟨y,hy⟩:∃y,b[i]?=some y:=⟨_,Bk A0⟩;obtain ⟨cu,g1,gy,z,T1,d9,rfl,bf,gm,G⟩:=W i x hx;obtain ⟨cO,g2,kv,E,T2,ek,rfl,bn,gq,I⟩:=X i y hy;refine B3<|Zq<|AQ<|B7 Y<|BN (A9 G4 Fk Y Y A0)<|Cj (cs:=[(g1,.cells z T1 d9)]) (by simp [bf]) (A7 (cs:=#[_,_]) J1 Fk Y A0 G) V rfl<|Ze (Al SP #[_,_])<|AE fun bx=>Za Y<|Xe (Xw Fk #[I4 x.p,.slice x.q x.cs.length x.cap])<|A6<|A2<|Sk 2 V ?_;refine BN (A9 G4 Fk Y Y A0)<|Cj (cs:=[(g2,.cells E T2 ek)]) (by simp [bn]) (A7 (cs:=#[_,_]) J1 Fk Y A0 I) V rfl<|Ze (Al SP #[_,_])<|AE fun kz=>Xe (Xw Fk #[I4 y.p,.slice y.q y.cs.length y.cap])<|Z0<|Zn [1,2,8,9,15,16,17] ?_;refine Zx<|B7 Y<|Zo Wh (Pa #[_,_] J1 Fk Y)<|Zo Wh (Pa #[_,_] J1 Fk Y)<|Xr [_,_] Y call69 Y V (bT cu cO)<|Zv (Bp Y)<|A6<|Ad Y (fun O=>?_) (fun O=>?_);·
   refine A2<|AM Y<|AX<|Zt<|Zt<|AX<|Zt<|AO V results137 Y (by exact ⟨Co (fun e=>by have K:=congrArg (fun l=>l[i]?) e;simp only [HL,hx,hy,N5]at K;injection K with K;exact O K),V⟩)
  have U:x.key=y.key:=Fi.1 O;refine AB<|A8<|Zx<|GP Y Y Y<|HN (by exact ⟨i+1,rfl,⟨by omega,fun j Z=>by rcases FA j i with h9|h9;exact g j h9;obtain rfl:j=i:=A0;rw [HL,HL,hx,hy];exact congrArg some U⟩,rfl,rfl⟩)
 refine Az<|Zt<|Zt<|AU<|BT<|AM Y<|AO rfl results137 Y (by exact ⟨IV (Iu (by simp [af]) (fun j Z=>g j (by rw [C2]at Z;omega))),rfl⟩)
theorem Ud{a b:List Bz}(g:DD M va a)(m:DD M vb b):BB prog 68 #[va,vb,.func (.func 69) #[] #[]] [M] (.bool (decide (a.map Bz.key=b.map Bz.key))):=by
 refine Se func68 ntmps68 [0,1,2] ?_;intro u R;refine A2<|AF Y<|A2<|Sk 3 V<|Xr [_,_,_] Y call137 Y V (fG g m)<|AM Y<|AO V results68 Y (by exact ⟨V,V⟩)
set_option maxHeartbeats 1000000 in
theorem mE{a b:List RP}(ha:Et M va a)(hb:Et M vb b):BB prog 132 #[va,vb,.func (.func 67) #[] #[]] [M] (.bool (decide (a=b))):=by
 have lv:=mL;obtain ⟨pa,ca,rfl,l8,d9⟩:=ha.form;obtain ⟨pb,cb,rfl,l9,ek⟩:=hb.form;refine Se func132 ntmps132 [0,1,2] ?_;intro u R;refine A2<|AF Y<|C0 Y<|Zv (AJ Ds Y)<|Zm Y<|Zv (AJ Ds Y)<|Zv (Cb Y Y)<|A6<|Ad Y (fun J=>?_) (fun J=>?_);·
  refine A2<|AM Y<|Zt<|AO rfl results132 Y (by exact ⟨Co (fun e=>J (by rw [e])),rfl⟩)
 have U:a.length=b.length:=by omega
 refine B3<|C0 Y<|Zv (AJ Ds Y)<|Zm Y<|A6<|AQ<|Zb [17,1,2,15,16] ?_;refine Av (e0:=[(17,_)]) (fun m e H=>∃(i:Nat),m=a.length -i/\(i<=a.length/\∀j,j<i->a[j]?=b[j]?)/\e=[(17,I4 (i:Int))]/\H=[]) (by exact ⟨0,V,⟨CD _,by intro j hj;omega⟩,V,V⟩) Wp ?_;rintro _ _ _ ⟨i,rfl,⟨hi,g⟩,rfl,rfl⟩;refine A2<|Zv (Ak Y Y)<|A6<|Zq<|Ad Y (fun W=>?_) (fun W=>?_);·
  obtain ⟨x9,hx⟩:∃x,a[i]?=some x:=⟨_,Bk A0⟩;obtain ⟨y9,hy⟩:∃y,b[i]?=some y:=⟨_,Bk A0⟩;obtain ⟨x,bf,af,g1,gy,z,T1,cu,rfl,X,gm,G⟩:=ha.at hx;obtain ⟨y,bn,ax,g2,kv,E,T2,cO,rfl,Z,gq,I⟩:=hb.at hy;subst bf bn;refine B3<|Zq<|AQ<|B7 Y<|BN (A9 Ds DM Y Y A0)<|Cj (cs:=[(g1,.cells z T1 cu)]) (by simp [X]) (A7 (cs:=#[_,_,_,_,_,_,_,_,_]) It DM Y A0 G) V rfl<|Ze (Al N0 #[_,_,_,_,_,_,_,_,_])<|AE fun bx=>Za Y<|Xe (Xw DM #[I4 x.x.tb,I4 x.x.cl,I4 x.x.lo,I4 x.x.hi,I4 x.x.ct,I4 x.x.fi,.slice x.qr x.x.rows.length x.cr,.slice x.qp x.x.paths.length x.cp,.slice x.qt x.x.roots.length x.ct])<|A6<|A2<|Sk 2 V ?_;refine BN (A9 Ds DM Y Y A0)<|Cj (cs:=[(g2,.cells E T2 cO)]) (by simp [Z]) (A7 (cs:=#[_,_,_,_,_,_,_,_,_]) It DM Y A0 I) V rfl<|Ze (Al N0 #[_,_,_,_,_,_,_,_,_])<|AE fun kz=>Xe (Xw DM #[I4 y.x.tb,I4 y.x.cl,I4 y.x.lo,I4 y.x.hi,I4 y.x.ct,I4 y.x.fi,.slice y.qr y.x.rows.length y.cr,.slice y.qp y.x.paths.length y.cp,.slice y.qt y.x.roots.length y.ct])<|Z0<|Zn [1,2,8,9,15,16,17] ?_;refine Zx<|B7 Y<|Zo Wh (Pa #[_,_,_,_,_,_,_,_,_] It DM Y)<|Zo Wh (Pa #[_,_,_,_,_,_,_,_,_] It DM Y)<|Xr [_,_] Y call67 Y V (jd af.rp ax.rp)<|Zv (Bp Y)<|A6<|Ad Y (fun K=>?_) (fun K=>?_);·
   refine A2<|AM Y<|AX<|Zt<|Zt<|AX<|Zt<|AO rfl results132 Y (by exact ⟨Co (fun e=>by rw [e,hy]at hx;injection hx with hx;exact K hx.symm),rfl⟩)
  have O:x.x=y.x:=Fi.1 K;refine AB<|A8<|Zx<|GP Y Y Y<|HN (by exact ⟨i+1,rfl,⟨by omega,fun j hj=>by rcases FA j i with h9|h9;exact g j h9;obtain rfl:j=i:=A0;rw [hx,hy];exact congrArg some O⟩,rfl,rfl⟩)
 refine Az<|Zt<|Zt<|AU<|BT<|AM Y<|AO V results132 Y (by exact ⟨IV (Iu U (fun j hj=>g j A0)),V⟩)
theorem Xb{a b:List RP}(g:Et M va a)(m:Et M vb b):BB prog 66 #[va,vb,.func (.func 67) #[] #[]] [M] (.bool (decide (a=b))):=by
 refine Se func66 ntmps66 [0,1,2] ?_;intro u R;refine A2<|AF Y<|A2<|Sk 3 V<|Xr [_,_,_] Y call132 Y V (mE g m)<|AM Y<|AO V results66 Y (by exact ⟨V,V⟩)
theorem j5{p:C1}{n cap:Nat}(h:DJ M (.slice p n cap) cs)(hc:cs[i]?=some c):∃g off cur T zz,p=some ⟨g,off,none⟩/\(g,Obj.cells cur T zz)∈M/\off+i*10+10<=cur.size/\cur.extract (off+i*10) (off+i*10+10)=c.Ax2:=by
 obtain ⟨z,m,e,_,y⟩:=h;injection e with e1 _ _
 subst e1;exact y i c hc
variable{α:Type}
theorem MI{a b:List α}(h:a.take i=b.take i)(g:a.length<=i)(m:b.length<=i):a=b:=by rwa [Hx g,Hx m]at h
theorem WV{a b:List α}{x y:α}(hx:a[i]?=some x)(hy:b[i]?=some y)(h:x≠y):a≠b:=fun e=>h (by rw [e,hy]at hx;injection hx with hx;exact hx.symm)
theorem Px{a b:List α}{x y:α}(h:a.take i=b.take i)(hx:a[i]?=some x)(hy:b[i]?=some y)(e:x=y):a.take (i+1)=b.take (i+1):=by rw [Bt hx,Bt hy,h,e]
set_option maxHeartbeats 1000000 in
theorem uh{z:Int}{g:List Chg}{qa qb:C1}{G I:Nat}(ha:DJ M (.slice qa cs.length G) cs)(hb:DJ M (.slice qb g.length I) g):BB prog 47 #[.agg #[I4 p,.slice qa cs.length G],.agg #[I4 z,.slice qb g.length I]] [M] (.bool (decide (p=z/\cs=g))):=by
 have gq:=mL;obtain ⟨_,_,_,d9,_⟩:=id ha;obtain ⟨_,_,_,ek,_⟩:=id hb;refine Se func47 ntmps47 [0,1] ?_;intro u R;refine A2<|Ze (Bx #[I4 p,.slice qa cs.length G])<|AE fun b1=>Ze (Bx #[I4 z,.slice qb g.length I])<|AE fun b2=>CT Y<|A2<|Zh 0 G3 V rfl A4 Y<|Zl A5 Y ?_;refine Zh 0 G3 V rfl A4 Y<|Zl A5 Y ?_;refine Zv (ED Y Y)<|Zm Y<|AZ (t:=11) Y V (fun k1=>?_) (fun k1=>?_);focus
  have y:¬(p=z/\cs=g):=fun h=>k1 h.1;refine Sk 8 V<|Z0<|Zn [2,3,19] ?_;refine Zx<|BV Y ?_
 rotate_left
 focus
  refine Yf 1 G3 V rfl ID Y<|Yl J0 Y ?_;refine Yg (AJ GF Y)<|Yf 1 G3 V rfl ID Y<|Yl J0 Y ?_;refine Yg (AJ GF Y)<|Yg (Cb Y Y)<|H3 Y Y<|Z0<|Zn [2,3,19] ?_;refine Zx<|Ad Y (fun k2=>?_) (fun k2=>?_);focus
   have y:¬(p=z/\cs=g):=fun h=>k2 (by rw [h.2])
  rotate_left
  have gm:cs.length=g.length:=by omega
  refine B3<|Zq<|A2<|AF Y<|AQ<|Zb [5,2,3] ?_;refine Av (e0:=[(5,_)]) (fun m e H=>∃(i:Nat),m=cs.length -i/\(i<=cs.length/\cs.take i=g.take i)/\e=[(5,I4 (i:Int))]/\H=[]) (by exact ⟨0,V,⟨CD _,V⟩,V,V⟩) Wp ?_;rintro _ _ _ ⟨i,rfl,⟨hi,hT⟩,rfl,rfl⟩;refine C0 Y<|Zh 1 G3 V rfl ID Y<|Zl J0 Y ?_;refine Zv (AJ GF Y)<|Zv (Ak Y Y)<|A6<|Ad Y (fun O=>?_) (fun O=>?_);·
   obtain ⟨c,hc⟩:∃c,cs[i]?=some c:=⟨_,Bk A0⟩;obtain ⟨d,J⟩:∃c,g[i]?=some c:=⟨_,Bk A0⟩;obtain ⟨g1,cu,bf,T1,kz,X,U,gy,af⟩:=j5 ha hc;obtain ⟨g2,cO,bn,T2,l8,Z,W,kv,ax⟩:=j5 hb J;rw [X,Z];refine B3<|Zq<|AQ<|Zq<|Au (n:=11) (0::1::0::7::15::0::32::0::224::480::1023::[]) 0 AG AG V<|A1 0 V (AL (off:=1) G3 V rfl ID Y)<|B6 1 V J0 Y ?_;refine A1 2 V (AA Y)<|A1 3 V (A9 GF D2 Y Y A0)<|CX (D':=31) 4 V rfl V (GK Wo (U)) (A7 (cs:=c.Ax2) G1 D2 Y A0 (by exact af)) ?_;refine A1 5 V (AL (off:=1) G3 V rfl ID Y)<|B6 6 V J0 Y ?_;refine A1 7 V (AA Y)<|A1 8 V (A9 GF D2 Y Y A0)<|CX (D':=1023) 9 V rfl V (GK Wo (W)) (A7 (cs:=d.Ax2) G1 D2 Y A0 (by exact ax)) ?_;refine A1 10 V (dY AG Y Y (eqC c d))<|Am<|Zn [2,3,5,37] ?_;refine Zx<|Af Y (fun k3=>?_) (fun k3=>?_);·
    have y:¬(p=z/\cs=g):=fun h=>WV hc J (by simpa using k3) h.2;refine A2<|AM Y<|AX<|Zt<|Zt<|AX<|Zt<|AO rfl results47 Y (by exact ⟨by rw [CC y],rfl⟩)
   have K:c=d:=by simpa using k3
   refine AB<|A8<|Zx<|Zg<|Zm Y<|Ya (n:=1) Y Y<|AN Y<|HN (by exact ⟨i+1,V,⟨by omega,Px hT hc J K⟩,V,V⟩)
  have E:cs=g:=MI hT A0 A0;refine Az<|Zt<|Zt<|AU<|BT<|AM Y<|AO rfl results47 Y (by exact ⟨by rw [Cp ⟨Fi.1 k1,E⟩],rfl⟩)
 all_goals
  refine A2<|AM Y<|Zt<|AO rfl results47 Y (by exact ⟨by rw [CC y],rfl⟩)
def Ef(h:D5)(r:Bz)(st:Bs):Prop:=Es r.p r.cs/\h.ok/\st.length=32/\r.p=h.p+1
noncomputable instance(h:D5)(r:Bz)(st:Bs):Decidable (Ef h r st):=Classical.propDecidable _
def Fb(h:D5)(r:Bz)(st:Bs):D5:=⟨r.p,OU h.ch (Kl r.p r.cs),st⟩
noncomputable def Eo(h:D5)(r:Bz)(st:Bs):D5×Int:=if Ef h r st then(Fb h r st,0)else(⟨0,[],[]⟩,90)
noncomputable def IY(st:Bs):D5->List Bz->Option D5
 |h,[]=>some h
 |h,r::l=>if Ef h r st then IY st (Fb h r st) l else none
def FW(a:D5)(l:List Bz)(b:D5):Prop:=a.ok/\b.ok/\IY b.st a l=some b
noncomputable instance(a:D5)(l:List Bz)(b:D5):Decidable (FW a l b):=Classical.propDecidable _
theorem Pm(st:Bs):∀(l l2:List Bz) (h:D5),IY st h (l++l2)=(IY st h l).bind fun g=>IY st g l2
 |[],_,_=>rfl
 |r::l,l2,h=>by
  show(if Ef h r st then IY st (Fb h r st) (l++l2)else none)=(if Ef h r st then IY st (Fb h r st) l else none).bind _;split;· exact Pm st l l2 _
  · rfl
variable{l:List Bz}
theorem Ju{st:Bs}{a h:D5}{r:Bz}(m:IY st a (l.take i)=some h)(g:l[i]?=some r):IY st a (l.take (i+1))=if Ef h r st then some (Fb h r st)else none:=by
 rw [Bt g,Pm,m];rfl
theorem Rk{st:Bs}{a:D5}(h:IY st a (l.take i)=none):IY st a l=none:=by
 rw [<-Ln i l,Pm,h];rfl
noncomputable def mG(p:Int)(cs:List Chg):Bs×Int:=if Es p cs then(Kl p cs,0)else([],30)
theorem Wd(p:Int)(q:C1)(cap:Nat)(cs:List Chg)(M:List AR)(m:DJ M (.slice q cs.length cap) cs)(g:¬Es p cs):BB prog 162 #[.agg #[I4 p,.slice q cs.length cap]] [M] (.tuple #[.string (str []),I4 30]):=by
 refine Se func162 ntmps162 [0] ?_;intro u R;refine A2<|Ze (Bx #[_,_])<|AE fun y=>Za Y<|CT Y<|A2<|Zo Wh (Pa #[_,_] J1 Fk Y)<|Xr [_] Y call139 Y V (Q3 p q cap cs M m) ?_;rw [CC g];refine Zv (CR Y)<|A6<|Af Y (fun hv=>?_) (fun hv=>?_);·
  refine A2<|Za Y<|AM Y<|Zt<|Cn V results162 Y Y (by exact ⟨V,V⟩)
 cases hv
theorem mF(p:Int)(q:C1)(cap:Nat)(cs:List Chg)(M:List AR)(g:DJ M (.slice q cs.length cap) cs):BB prog 162 #[.agg #[I4 p,.slice q cs.length cap]] [M] (.tuple #[.string (str (mG p cs).1),I4 (mG p cs).2]):=by
 unfold mG;split;· rename_i h;exact jf p q cap cs M g h
 · rename_i h;exact Wd p q cap cs M g h
theorem yG(h:D5)(r:Bz)(st:List UInt8)(W:DJ M (.slice r.q r.cs.length r.cap) r.cs)(I:An)(K:Nat×Nat):BB prog 120 #[.agg #[I4 h.p,.string (str h.ch),.string (str h.st)],.agg #[I4 r.p,.slice r.q r.cs.length r.cap],.string (str st)] [M,[(1,.cells (Dj.map CP).toArray I K)]] (.tuple #[.agg #[I4 (Eo h r st).1.p,.string (str (Eo h r st).1.ch),.string (str (Eo h r st).1.st)],I4 (Eo h r st).2]):=by
 have Z:=mL;refine Se func120 ntmps120 [0,1,2] ?_;intro u R;refine A2<|Ze (Bx #[_,_,_])<|AE fun b1=>Ze (Bx #[_,_])<|AE fun b2=>Ze (Al Mb #[_,_,_])<|AE fun b3=>AF Y<|A2<|Zo Wh (Pa #[_,_] J1 Fk Y) ?_;refine Xr [_] Y call162 Y V (mF r.p r.q r.cap r.cs M W) ?_;refine Sk 4 V<|AF Y<|C0 Y<|Zv (ED Y Y)<|Zm Y<|AZ (t:=17) Y V (fun z=>?_) (fun z=>?_);focus
  have m:¬Ef h r st:=fun g=>by unfold mG at z;rw [B2 g.1]at z;exact z rfl
  refine Sk 17 V<|Z0<|Zn [2,3,4,6,8,34] ?_;refine Zx<|BV Y ?_
 rotate_left
 focus
  have y:Es r.p r.cs:=Fi.1 fun g=>by unfold mG at z;rw [Ax g]at z;exact z AH
  have X:=OP y;have G:mG r.p r.cs=(Kl r.p r.cs,0):=B2 y
  refine DK Y Wh (Pa #[_,_,_] HK Ek Y) V rfl ?_;refine Xr [_] Y call119 Y V (TQ h.p h.ch h.st) ?_;refine Yg (Bp Y)<|Sk 2 V ?_;refine AZ (t:=22) Y V (fun h2=>?_) (fun h2=>?_);focus
   have m:¬Ef h r st:=fun g=>h2 g.2.1;refine Sk 12 V<|Z0<|Zn [2,3,4,6,8,34] ?_;refine Zx<|BV Y ?_
  rotate_left
  focus
   have h2:=Fi.1 h2;have O:=h2.1
   refine Zf Y Y<|Xr [_] Y call161 Y V (dz st) ?_;refine Yg (Bp Y)<|Sk 2 V ?_;refine AZ (t:=27) Y V (fun E=>?_) (fun E=>?_);focus
    have m:¬Ef h r st:=fun g=>E g.2.2.1;refine Sk 7 V<|Z0<|Zn [2,3,4,6,8,34] ?_;refine Zx<|BV Y ?_
   rotate_left
   focus
    have E:=Fi.1 E;refine Yf 0 G3 V rfl A4 Y<|Yl A5 Y ?_;refine Yf 0 Hc V rfl A4 Y<|Yl A5 Y ?_
    (refine ER Y (Fw Y Y (IntWalk.i64_in _ ?_)) rfl rfl ?_;(focus (omega)))
    refine Yg (ED Y Y)<|H3 Y Y<|Z0<|Zn [2,3,4,6,8,34] ?_;refine Zx<|Ad Y (fun J=>?_) (fun J=>?_);focus
     have m:¬Ef h r st:=fun g=>J g.2.2.2
    rotate_left
    have U:Ef h r st:=⟨y,h2,E,by omega⟩;rw [G];refine B3<|Zq<|Au (n:=10) (0::1::0::4::0::28::0::127::255::511::[]) 288 AG AG V<|A1 0 V (AL (off:=0) G3 V rfl A4 Y)<|B6 1 V A5 Y ?_;refine A1 2 V (AL (off:=1) Hc V rfl F2 Y)<|B6 3 V HG Y ?_;refine A1 4 V (AA Y)<|A1 6 V (AA Y)<|Zz (l:=[5])<|C6 [false,true] [(1,(_,_))] V rfl (Zu [_,_] Y call163 Y V (fO h.ch (Kl r.p r.cs) (by have:=h2.2.1;have:=y.len;omega) I K)) ?_ (fun _ _ h=>h.elim) Ar;rintro _ _ ⟨rfl,rfl⟩;refine CA<|A1 7 rfl (BK (vs:=[(0,_),(1,_),(2,_)]) (cs:=#[_,_,_]) Y (AY (pl:=#[(0,1),(1,1),(2,1)]) Mb Hc (fun _=>by kernel_rfl) rfl))<|Yw 8 511 rfl (Ao Ek Y Y (by(simp [Value.oneCell',Value.cells];done)) Wu (by exact Bj rfl) DO Wb (by exact Aw _))<|DA<|A1 9 rfl (Aq Y)<|Am<|Zx<|AC<|Bo rfl results120 Y Wh (Ai HK Ek Wn (AP rfl)) Y (by exact ⟨by unfold Eo;rw [B2 U];rfl,rfl⟩)
 all_goals
  refine A2<|Zv (BK (vs:=[]) (cs:=#[_,_,_]) Y (AY (pl:=#[(0,1),(1,1),(2,1)]) Mb Hc (fun _=>by kernel_rfl) rfl))<|Xe (Ao Ek Y Y Ft Wu (by exact Bj rfl) DO Wb (by exact Aw _)) ?_;refine AM Y<|Zt<|Bo rfl results120 Y Wh (Ai HK Ek Wn (AP rfl)) Y (by exact ⟨by unfold Eo;rw [Ax m];rfl,rfl⟩)
set_option maxHeartbeats 1000000 in
theorem Vw(a b:D5){lv:A3}(hl:DD M lv l)(Tg:An)(zg:Nat×Nat):BB prog 59 #[.agg #[I4 a.p,.string (str a.ch),.string (str a.st)],lv,.agg #[I4 b.p,.string (str b.ch),.string (str b.st)]] [M,[(1,.cells (Dj.map CP).toArray Tg zg)]] (.bool (decide (FW a l b))):=by
 have ek:=mL;obtain ⟨pl,cl,rfl,⟨d9,cO⟩,hg⟩:=id hl;refine Se func59 ntmps59 [0,1,2] ?_;intro u R;refine A2<|Ze (Bx #[_,_,_])<|AE fun U=>Ze (Bx #[_,_,_])<|AE fun bb=>AF Y<|aa ?_;refine Zb [1,3,5] ?_;refine C9 (e0:=[]) (H0:=[]) (fun e H=>(True)/\e=[(7,.bool (decide (a.ok/\b.ok)))]/\H=[]) Wp ?hx_1 ?hy_1
 case hx_1=>
  refine Zg<|Zo Wh (A7 (cs:=#[_,_,_]) HK Ek Y Wb (by exact AP V)) ?_;refine Xr [_] Y call119 Y V (TQ a.p a.ch a.st) ?_;refine Zm Y<|AZ (t:=14) Y V (fun W=>?_) (fun W=>?_);·
   refine DK Y Wh (A7 (cs:=#[_,_,_]) HK Ek Y Wb (by exact AP V)) V rfl ?_;refine Xr [_] Y call119 Y V (TQ b.p b.ch b.st) ?_;refine HR Y Y<|AN Y<|HC (by exact ⟨trivial,by(rw [show decide (a.ok/\b.ok)=decide b.ok from decide_eq_decide.2 ⟨fun y=>y.2,fun y=>⟨W,y⟩⟩]<;>rfl),V⟩)
  refine Sk 3 V<|AN Y<|HC (by exact ⟨trivial,by(rw [CC (show¬(a.ok/\b.ok) from fun y=>W y.1)]),V⟩)
 rintro _ _ ⟨_,rfl,rfl⟩;refine Zq<|ag<|Zx<|Zb [1,7,3,5] ?_;refine C9 (e0:=[(1,_),(7,_)]) (H0:=[[(U,.cells #[I4 a.p,.string (str a.ch),.string (str a.st)] 67 (0,0))]]) (fun e H=>∃(ok:Bool) (h:D5),((ok=decide (a.ok/\b.ok)/\IY b.st a l=some h)\/(ok=false/\IY b.st a l=none))/\e=[(7,.bool ok)]/\H=[[(U,.cells #[I4 h.p,.string (str h.ch),.string (str h.st)] 67 (0,0))]]) Wp ?hx_4 ?hy_4
 case hx_4=>
  refine B7 Y<|Zv (AJ G4 Y)<|Zm Y<|A6<|AQ<|Zb [7,20,3,5,18,19] ?_;refine Av (e0:=[(7,_),(20,_)]) (fun m e H=>∃(i:Nat) (h:D5),m=l.length -i/\(i<=l.length/\IY b.st a (l.take i)=some h)/\e=[(7,.bool (decide (a.ok/\b.ok))),(20,I4 (i:Int))]/\H=[[(U,.cells #[I4 h.p,.string (str h.ch),.string (str h.st)] 67 (0,0))]]) (by exact ⟨0,a,rfl,⟨CD _,by rw [Hh];rfl⟩,rfl,rfl⟩) Wp ?_;rintro _ _ _ ⟨i,h,rfl,⟨hi,O⟩,rfl,rfl⟩;refine A2<|Zv (Ak Y Y)<|A6<|Zq<|Ad Y (fun X=>?_) (fun X=>?_);·
   obtain ⟨r,hr⟩:∃r,l[i]?=some r:=⟨_,Bk A0⟩;obtain ⟨ax,g,off,cur,T,zz,rfl,Z,cu,K⟩:=hg i r hr;refine B3<|Zq<|AQ<|A2<|BN (A9 G4 Fk Y Y Fl)<|Cj (cs:=[(g,.cells cur T zz)]) (by simp [Z]) (A7 (cs:=#[_,_]) J1 Fk Y A0 K) rfl rfl ?_;refine Ze (Al SP #[_,_])<|AE fun br=>Xe (Xw Fk #[I4 r.p,.slice r.q r.cs.length r.cap]) ?_;refine A6<|A2<|Zo Wh (A7 (cs:=#[_,_,_]) HK Ek Y Wb (by exact AP V)) ?_;refine Zo Wh (A7 (cs:=#[_,_]) J1 Fk Y Wb (by exact AP V)) ?_;refine Zh 2 Hc V rfl F2 Y<|Zl HG Y ?_;refine Xr [_,_,_] Y call120 Y V (yG h r b.st ax Tg zg) ?_;refine Sk 3 V<|Ze (Al Mb #[_,_,_])<|AE fun bn=>Xe (Xw Ek #[I4 (Eo h r b.st).1.p,.string (str (Eo h r b.st).1.ch),.string (str (Eo h r b.st).1.st)]) ?_;refine AN Y<|Zn [3,5,7,10,11,18,19,20] ?_;refine Zx<|C0 Y<|Zv (ED Y Y)<|A6<|Ad Y (fun z=>?_) (fun z=>?_);·
    have hn:¬Ef h r b.st:=fun y=>by unfold Eo at z;rw [B2 y]at z;exact z rfl
    have bf:IY b.st a l=none:=Rk (i:=i+1) (by rw [Ju O hr,Ax hn]);refine A2<|AF Y<|Az<|Zt<|Ba V<|Zt<|Zt<|AU<|FF (e:=[(7,_)]) (h:=by exact ⟨_,h,.inr ⟨V,bf⟩,V,V⟩)
   have hn:Ef h r b.st:=Fi.1 fun y=>by unfold Eo at z;rw [Ax y]at z;exact z AH
   have af:Eo h r b.st=(Fb h r b.st,0):=B2 hn;rw [af];refine B3<|Zg<|Zo Wh (A7 (cs:=#[_,_,_]) HK Ek Y Wb (by exact AP V)) ?_;refine Xe (Xw Ek #[I4 (Fb h r b.st).p,.string (str (Fb h r b.st).ch),.string (str (Fb h r b.st).st)]) ?_;refine Z0<|A8<|Zx<|GP Y Y Y<|DH (e:=[(7,_),(20,_)]) (h:=by exact ⟨i+1,Fb h r b.st,rfl,⟨by omega,by rw [Ju O hr,B2 hn]⟩,rfl,rfl⟩)
  have ei:i=l.length:=by omega
  subst ei;rw [HJ]at O;refine Az<|Zt<|Zt<|AU<|FF (e:=[(7,_)]) (h:=by exact ⟨_,h,.inl ⟨V,O⟩,V,V⟩)
 rintro _ _ ⟨ok,h,J,rfl,rfl⟩;refine A2<|Sk 2 V ?_;refine Ae (t:=37) Y V (fun h2=>?_) (fun h2=>?_);·
  have E:h=b↔FW a l b:=by
   rcases J with⟨G,I⟩|⟨G,I⟩
   · rw [h2]at G
     have h5:=I2 G.symm;exact ⟨fun y=>⟨h5.1,h5.2,by rw [I,y]⟩,fun y=>by have h6:=y.2.2;rw [I]at h6;injection h6⟩
   · rw [h2]at G;cases G
  refine DK Y Wh (A7 (cs:=#[_,_,_]) HK Ek Y Wb (by exact AP V)) V rfl ?_;refine DK Y Wh (A7 (cs:=#[_,_,_]) HK Ek Y Wb (by exact AP V)) V rfl ?_;refine Yg (X5 AG Y Y (eqH h b)) ?_;refine HR Y Y<|AM Y<|Lj ?_;refine AO V results59 Y (by exact ⟨by exact F4 E,V⟩)
 have E:¬FW a l b:=fun y=>by
  rcases J with⟨G,I⟩|⟨G,I⟩
  · rw [h2]at G;exact NX G.symm ⟨y.1,y.2.1⟩
  · rw [y.2.2]at I;cases I
 refine Sk 4 V<|AM Y<|Lj ?_;refine AO V results59 Y (by exact ⟨by exact congrArg Value.bool (CC E).symm,V⟩)
end Go.Proofs.YtljkoipiekbijaaGreatDoor
