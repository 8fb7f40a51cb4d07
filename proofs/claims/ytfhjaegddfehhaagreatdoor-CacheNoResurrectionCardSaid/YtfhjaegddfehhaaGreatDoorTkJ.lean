/- Answers that are alike, by the reference. -/
import Derived.Test.YtfhjaegddfehhaaGreatDoorRt5
set_option linter.unusedVariables false
set_option linter.unusedSimpArgs false
namespace Go.Proofs.YtfhjaegddfehhaaGreatDoor
open Go.Proofs.Tryz
open Go Go.RowKit Gw
set_option maxRecDepth 100000
attribute [local irreducible] Gw.At Gw.Nx Gw.Ops
variable{M:List AA}
theorem zR{B G:Value}{x y:CE}(g:Db M B x.rows)(m:Db M G y.rows):BH prog 53 #[.agg #[B,I4 x.val,.bool x.fnd],.agg #[G,I4 y.val,.bool y.fnd]] [M] (.bool (decide (x=y))):=by
 obtain ⟨O,I,rfl,_⟩:=id g;obtain ⟨U,J,rfl,_⟩:=id m;refine Se func53 ntmps53 [0,1] ?_;intro u R;refine A0<|Ze (Bx #[.slice O x.rows.length I,I4 x.val,.bool x.fnd])<|AE fun W=>Ze (Bx #[.slice U y.rows.length J,I4 y.val,.bool y.fnd])<|AE fun X=>A3 Y<|A0<|Zh 0 CD V rfl C6 Y<|Zl F1 Y<|Zh 0 CD V rfl C6 Y<|Zl F1 Y<|Xr [_,_] Y call104 Y V (wT g m)<|Zm Y<|Aj (t:=10) Y V (fun K=>?_) (fun K=>?_);·
  refine Yf 1 CD V rfl A4 Y<|Yl AD Y<|Yf 1 CD V rfl A4 Y<|Yl AD Y<|Yg (CP Y Y)<|Zv (AQ Y Y)<|Zm Y<|Aj (t:=17) Y V (fun h2=>?_) (fun h2=>?_);·
   refine Yf 2 CD V rfl CH Y<|Yl DM Y<|Yf 2 CD V rfl CH Y<|Yl DM Y<|Yg (TE Lk Y Y)<|Zv (AQ Y Y)<|AG Y<|Zn [4] ?_;refine Zx<|AJ<|AO rfl results53 Y (by exact ⟨by rw [X6];simp [*],rfl⟩)
  refine A7 Y V<|A7 Y V<|A7 Y V<|A7 Y V<|A7 Y V<|Zv (AL Y Y)<|AG Y<|Zn [4] ?_;refine Zx<|AJ<|AO rfl results53 Y (by exact ⟨by rw [X6];simp [*],rfl⟩)
 refine A7 Y V<|A7 Y V<|A7 Y V<|A7 Y V<|A7 Y V<|Zv (AL Y Y)<|Zm Y<|A7 Y V<|A7 Y V<|A7 Y V<|A7 Y V<|A7 Y V<|Zv (AL Y Y)<|AG Y<|Zn [4] ?_;refine Zx<|AJ<|AO rfl results53 Y (by exact ⟨by rw [X6];simp [*],rfl⟩)
theorem zT{p:Int}{cs:List Chg}{X Z:Option Addr}{g B:Nat}(ha:Ck M (.slice X cs.length g) cs)(hb:Ck M (.slice Z cs.length B) cs):BH prog 52 #[.agg #[I4 p,.slice X cs.length g],.agg #[I4 p,.slice Z cs.length B]] [M] (.bool true):=by
 have cO:=mL;obtain ⟨_,_,_,cu,_⟩:=id ha;refine Se func52 ntmps52 [0,1] ?_;intro u R;refine A0<|Ze (Bx #[I4 p,.slice X cs.length g])<|AE fun b1=>Ze (Bx #[I4 p,.slice Z cs.length B])<|AE fun b2=>A3 Y<|Zq<|A0<|Zh 0 G3 V rfl A4 Y<|Zl AD Y<|Zh 0 G3 V rfl A4 Y<|Zl AD Y<|Zv (GG Y Y)<|Zm Y<|Aj (t:=11) Y V (fun k1=>?_) (fun k1=>?_);·
  exact absurd V k1
 refine Yf 1 G3 V rfl IH Y<|Yl LL Y<|Yg (AY G1 Y)<|Yf 1 G3 V rfl IH Y<|Yl LL Y<|Yg (AY G1 Y)<|Yg (Dp Y Y)<|Zv (AL Y Y)<|Z0<|Zn [2,3,19] ?_;refine Zx<|Aq Y (fun k2=>?_) (fun k2=>?_);·
  exact absurd V k2
 refine AC<|Zx<|Zq<|A0<|A3 Y<|AR<|Zb [5,2,3] ?_;refine BA (e0:=[(5,_)]) (fun m e H=>∃(i:Nat),m=cs.length -i/\(i<=cs.length)/\e=[(5,I4 (i:Int))]/\H=[]) (by exact ⟨0,V,C0 _,V,V⟩) Wp ?_;rintro _ _ _ ⟨i,rfl,hi,rfl,rfl⟩;refine Zq<|A0<|Zm Y<|Zh 1 G3 V rfl IH Y<|Zl LL Y<|Zv (AY G1 Y)<|Zv (Au Y Y)<|A5<|Aq Y (fun G=>?_) (fun G=>?_);·
  obtain ⟨c,hc⟩:∃c,cs[i]?=some c:=⟨_,B3 A1⟩;obtain ⟨g1,bg,af,T1,gm,K,I,d9,U⟩:=jW ha hc;obtain ⟨g2,bn,ax,T2,gq,O,J,ek,W⟩:=jW hb hc;rw [K,O];refine AC<|Zx<|Zq<|AR<|Zq<|Az (n:=11) (0::1::0::7::15::0::32::0::224::480::1023::[]) 0 A6 A6 V<|A2 0 V (AB (off:=1) G3 V rfl IH Y)<|B2 1 V LL Y<|A2 2 V (AP Y)<|A2 3 V (Ac G1 C1 Y Y A1)<|CQ (D':=31) 4 V rfl V (Ee Wo (I)) (A9 (cs:=c.A57) Fk C1 Y A1 U) ?_;refine A2 5 V (AB (off:=1) G3 V rfl IH Y)<|B2 6 V LL Y<|A2 7 V (AP Y)<|A2 8 V (Ac G1 C1 Y Y A1)<|CQ (D':=1023) 9 V rfl V (Ee Wo (J)) (A9 (cs:=c.A57) Fk C1 Y A1 W) ?_;refine A2 10 V (qh A6 Y Y (eqC c c))<|Ag<|Zn [2,3,5,37] ?_;refine Zx<|AX Y (fun k3=>?_) (fun k3=>?_);·
   simp at k3
  refine AC<|A8<|Zx<|Zg<|Zm Y<|Ya (n:=1) Y Y<|AG Y<|Zn [5,2,3] ?_;refine Ab (e':=[(5,_)]) (by exact ⟨i+1,V,by omega,V,V⟩)
 refine Ay<|Zt<|Zt<|AU<|Zx<|A0<|A3 Y<|AJ<|AO V results52 Y (by exact ⟨V,V⟩)
theorem qD{a b:List BN}(h:a.map BN.key=b.map BN.key):a.length=b.length:=by
 have g:=congrArg List.length h;rwa [B4,B4]at g
theorem kQ{a b:List BN}(h:a.map BN.key=b.map BN.key){i:Nat}{x y:BN}(hx:a[i]?=some x)(hy:b[i]?=some y):x.p=y.p/\x.cs=y.cs:=by
 have g:=congrArg (fun l=>l[i]?) h;simp only [DO,hx,hy,N1]at g;injection g with g
 injection g with g h2
 exact ⟨g,h2⟩
theorem pK{p:Option Addr}{cap:Nat}{L:List RP}(h:Fu M (.slice p L.length cap) L){i:Nat}{x:RP}(hx:L[i]?=some x):∃z:RPZ,z.x=x/\z.ok M/\∃g off cur T zz,p=some ⟨g,off,none⟩/\(g,Obj.cells cur T zz)∈M/\off+i*9+9<=cur.size/\cur.extract (off+i*9) (off+i*9+9)=#[I4 z.x.tb,I4 z.x.cl,I4 z.x.lo,I4 z.x.hi,I4 z.x.ct,I4 z.x.fi,.slice z.qr z.x.rows.length z.cr,.slice z.qp z.x.paths.length z.cp,.slice z.qt z.x.roots.length z.ct]:=by
 obtain ⟨Z,J,m⟩:=h;obtain ⟨O,B,G,_,K⟩:=J;injection G with e1 e2 e3
 subst e1;rw [<-m,DO]at hx;cases hz:Z[i]?with
 |none=>rw [hz]at hx;cases hx
 |some z=>
  rw [hz]at hx;injection hx with hx
  obtain ⟨I,h2⟩:=K i z hz;exact ⟨z,hx,I,h2⟩
variable{y x:Jv}
set_option maxHeartbeats 1000000 in
theorem qI(hx:x.ok M)(hy:y.ok M)(he:x.a.eqv y.a)(hl:x.a.ranges.length<=1000000):BH prog 14 #[.agg #[I4 x.a.q.kd,I4 x.a.q.tb,I4 x.a.q.cl,I4 x.a.q.lo,I4 x.a.q.hi,I4 x.a.q.bq,I4 x.a.q.ot,.slice x.rp x.a.res.rows.length x.rc,I4 x.a.res.val,.bool x.a.res.fnd,I4 x.a.since,I4 x.a.until_,I4 x.a.base,.slice x.gp x.a.ranges.length x.gc,.slice x.cp x.a.recs.length x.cc],.agg #[I4 y.a.q.kd,I4 y.a.q.tb,I4 y.a.q.cl,I4 y.a.q.lo,I4 y.a.q.hi,I4 y.a.q.bq,I4 y.a.q.ot,.slice y.rp y.a.res.rows.length y.rc,I4 y.a.res.val,.bool y.a.res.fnd,I4 y.a.since,I4 y.a.until_,I4 y.a.base,.slice y.gp y.a.ranges.length y.gc,.slice y.cp y.a.recs.length y.cc]] [M] (.bool true):=by
 have ic:=mL;obtain ⟨h1,h2,h3,h4,h5,h6,h7⟩:=id he;have h8:=qD h7
 have h9:x.a.ranges.length=y.a.ranges.length:=by rw [h6]
 obtain ⟨_,_,_,⟨gF,_⟩,_⟩:=id hx.2.2;refine Se func14 ntmps14 [0,1] ?_;intro u R;refine A0<|Ze (Bx #[I4 x.a.q.kd,I4 x.a.q.tb,I4 x.a.q.cl,I4 x.a.q.lo,I4 x.a.q.hi,I4 x.a.q.bq,I4 x.a.q.ot,.slice x.rp x.a.res.rows.length x.rc,I4 x.a.res.val,.bool x.a.res.fnd,I4 x.a.since,I4 x.a.until_,I4 x.a.base,.slice x.gp x.a.ranges.length x.gc,.slice x.cp x.a.recs.length x.cc])<|AE fun b1=>Ze (Bx #[I4 y.a.q.kd,I4 y.a.q.tb,I4 y.a.q.cl,I4 y.a.q.lo,I4 y.a.q.hi,I4 y.a.q.bq,I4 y.a.q.ot,.slice y.rp y.a.res.rows.length y.rc,I4 y.a.res.val,.bool y.a.res.fnd,I4 y.a.since,I4 y.a.until_,I4 y.a.base,.slice y.gp y.a.ranges.length y.gc,.slice y.cp y.a.recs.length y.cc])<|AE fun b2=>A3 Y<|Zq<|A0<|Zh 0 GF V rfl C7 Y<|Zo Wh (A9 (cs:=#[_,_,_,_,_,_,_]) Dd C7 Y As (by exact (by apply HD.1;rfl))) ?_;refine Zh 0 GF V rfl C7 Y<|Zo Wh (A9 (cs:=#[_,_,_,_,_,_,_]) Dd C7 Y As (by exact (by apply HD.1;rfl))) ?_;refine Zv (qh A6 Y Y (eqQ x.a.q y.a.q))<|Zm Y<|Af (t:=14) Y V (fun k1=>?_) (fun k1=>?_);·
  simp [h1]at k1
 refine Yf 10 GF V rfl A4 Y<|Yl AD Y ?_;refine Yf 10 GF V rfl A4 Y<|Yl AD Y ?_;refine Yg (GG Y Y)<|Zv (AL Y Y)<|Zm Y<|Aj (t:=21) Y V (fun k2=>?_) (fun k2=>?_);·
  exact absurd h2 k2
 refine Yf 11 GF V rfl A4 Y<|Yl AD Y ?_;refine Yf 11 GF V rfl A4 Y<|Yl AD Y ?_;refine Yg (GG Y Y)<|Zv (AL Y Y)<|Zm Y<|Aj (t:=28) Y V (fun k3=>?_) (fun k3=>?_);·
  exact absurd h3 k3
 refine Yf 12 GF V rfl A4 Y<|Yl AD Y ?_;refine Yf 12 GF V rfl A4 Y<|Yl AD Y ?_;refine Yg (GG Y Y)<|Zv (AL Y Y)<|Zm Y<|Aj (t:=35) Y V (fun k4=>?_) (fun k4=>?_);·
  exact absurd h4 k4
 refine Yf 13 GF V rfl K0 Y<|Yl Lq Y ?_;refine Yg (AY N4 Y)<|Yf 13 GF V rfl K0 Y<|Yl Lq Y ?_;refine Yg (AY N4 Y)<|Yg (Dp Y Y)<|Zv (AL Y Y)<|Zm Y<|Aj (t:=44) Y V (fun k5=>?_) (fun k5=>?_);·
  exact absurd h9 k5
 refine Yf 14 GF V rfl Lo Y<|Yl T6 Y ?_;refine Yg (AY Fo Y)<|Yf 14 GF V rfl Lo Y<|Yl T6 Y ?_;refine Yg (AY Fo Y)<|Yg (Dp Y Y)<|Zv (AL Y Y)<|Z0<|Zn [2,3,52] ?_;refine Zx<|Aq Y (fun k6=>?_) (fun k6=>?_);·
  exact absurd h8 k6
 refine AC<|Zx<|Zq<|A0<|A3 Y<|AR<|Zb [5,2,3] ?_;refine BA (e0:=[(5,_)]) (fun m e H=>∃(i:Nat),m=x.a.ranges.length -i/\(i<=x.a.ranges.length)/\e=[(5,I4 (i:Int))]/\H=[]) (by exact ⟨0,V,C0 _,V,V⟩) Wp ?_;rintro _ _ _ ⟨i,rfl,hi,rfl,rfl⟩;refine Zq<|A0<|Zm Y<|Zh 13 GF V rfl K0 Y<|Zl Lq Y ?_;refine Zv (AY N4 Y)<|Zv (Au Y Y)<|A5<|Aq Y (fun G=>?_) (fun G=>?_);·
  obtain ⟨c,hc⟩:∃c,x.a.ranges[i]?=some c:=⟨_,B3 A1⟩;have g:y.a.ranges[i]?=some c:=by rw [<-h6];exact hc
  obtain ⟨z1,gm,cu,g1,ax,W,T1,gy,K,I,d9,U⟩:=pK hx.2.1 hc;obtain ⟨z2,gq,cO,g2,bg,X,T2,gB,O,J,ek,B⟩:=pK hy.2.1 g;rw [K,O];refine AC<|Zx<|Zq<|AR<|Zq<|Az (n:=12) (0::1::0::7::15::0::32::0::224::480::1023::2047::[]) 1024 A6 A6 V<|A2 0 V (AB (off:=13) GF V rfl K0 Y)<|B2 1 V Lq Y ?_;refine A2 2 V (AP Y)<|A2 3 V (Ac N4 Hv Y Y A1)<|CQ (D':=31) 4 V rfl V (Ee Wo (I)) (A9 (cs:=#[_,_,_,_,_,_,_,_,_]) Wk Hv Y A1 U) ?_;refine A2 5 V (AB (off:=13) GF V rfl K0 Y)<|B2 6 V Lq Y ?_;refine A2 7 V (AP Y)<|A2 8 V (Ac N4 Hv Y Y A1)<|CQ (D':=1023) 9 V rfl V (Ee Wo (J)) (A9 (cs:=#[_,_,_,_,_,_,_,_,_]) Wk Hv Y A1 B) ?_;refine Yw 10 2047 V (Zu [_,_] Y call51 Y V (qJ cu.rp cO.rp)) ?_;rintro _ _ ⟨rfl,rfl⟩;rw [Cp (gm.trans gq.symm)];refine A2 11 V (Av Y)<|Ag<|Zn [2,3,5,6] ?_;refine Zx<|A0<|Zm Y<|Zv (Br Y)<|A5<|AX Y (fun k7=>by cases k7)<|fun k7=>AC<|A8<|Zx<|Zg<|Zm Y<|Ya (n:=1) Y Y<|AG Y<|Zn [5,2,3] ?_;refine Ab (e':=[(5,_)]) (by exact ⟨i+1,V,by omega,V,V⟩)
 refine Ay<|Zt<|Zt<|AU<|Zx<|Zq<|A0<|A3 Y<|AR<|Zb [7,2,3] ?_;refine BA (e0:=[(7,_)]) (fun m e H=>∃(i:Nat),m=x.a.recs.length -i/\(i<=x.a.recs.length)/\e=[(7,I4 (i:Int))]/\H=[]) (by exact ⟨0,V,C0 _,V,V⟩) Wp ?_;rintro _ _ _ ⟨i,rfl,hi,rfl,rfl⟩;refine Zq<|A0<|Zm Y<|Zh 14 GF V rfl Lo Y<|Zl T6 Y ?_;refine Zv (AY Fo Y)<|Zv (Au Y Y)<|A5<|Aq Y (fun G=>?_) (fun G=>?_);·
  obtain ⟨r1,Z⟩:∃r,x.a.recs[i]?=some r:=⟨_,B3 A1⟩;obtain ⟨r2,af⟩:∃r,y.a.recs[i]?=some r:=⟨_,B3 A1⟩;obtain ⟨ep,ec⟩:=kQ h7 Z af;obtain ⟨bn,g1,ax,W,T1,gy,K,I,d9,U⟩:=X7 hx.2.2 Z;obtain ⟨g,g2,bg,X,T2,gB,O,J,ek,B⟩:=X7 hy.2.2 af;rw [K,O];rw [<-ep,<-ec]at B;rw [<-ec]at g;refine AC<|Zx<|Zq<|AR<|Zq<|Az (n:=12) (0::1::0::7::15::0::32::0::224::480::1023::2047::[]) 1024 A6 A6 V<|A2 0 V (AB (off:=14) GF V rfl Lo Y)<|B2 1 V T6 Y ?_;refine A2 2 V (AP Y)<|A2 3 V (Ac Fo F0 Y Y A1)<|CQ (D':=31) 4 V rfl V (Ee Wo (I)) (A9 (cs:=#[_,_]) HX F0 Y A1 U) ?_;refine A2 5 V (AB (off:=14) GF V rfl Lo Y)<|B2 6 V T6 Y ?_;refine A2 7 V (AP Y)<|A2 8 V (Ac Fo F0 Y Y A1)<|CQ (D':=1023) 9 V rfl V (Ee Wo (J)) (A9 (cs:=#[_,_]) HX F0 Y A1 B) ?_;refine Yw 10 2047 V (Zu [_,_] Y call52 Y V (zT bn g))<|CT<|A2 11 V (Av Y)<|Ag<|Zn [2,3,7,8] ?_;refine Zx<|A0<|Zm Y<|Zv (Br Y)<|A5<|AX Y (fun k8=>by cases k8)<|fun k8=>AC<|A8<|Zx<|Zg<|Zm Y<|Ya (n:=1) Y Y<|AG Y<|Zn [7,2,3] ?_;refine Ab (e':=[(7,_)]) (by exact ⟨i+1,V,by omega,V,V⟩)
 refine Ay<|Zt<|Zt<|AU<|Zx<|A0<|Zh 7 GF V rfl Ax Y<|Zo Wh (A9 (cs:=#[_,_,_]) Bk Ax Y As (by exact (by apply HD.1;rfl))) ?_;refine Zh 7 GF V rfl Ax Y<|Zo Wh (A9 (cs:=#[_,_,_]) Bk Ax Y As (by exact (by apply HD.1;rfl))) ?_;refine Xr [_,_] Y call53 Y V (zR hx.1 hy.1) ?_;rw [Cp h5];refine A3 Y<|AJ<|AO V results14 Y (by exact ⟨V,V⟩)
def Kn(l:List BN)(q:QM)(base P:Nat):Prop:=∃st,FY q (base:Int) 0 (Cf (BZ (l.take base)) q,(base:Int)) (GK l base P)=some st
variable{l:List BN}
theorem kr{a b:Nat}(h:b<=a):GK l a b=[]:=by unfold GK;rw [show b -a=0 by omega,ID]
variable{q:QM}{P base:Nat}
theorem sQ(h:P<=base):Kn l q base P:=⟨(Cf (BZ (l.take base)) q,(base:Int)),by rw [kr h];rfl⟩
variable{r:BN}
theorem eB{a b:Nat}(g:l[b]?=some r)(h:a<=b):GK l a (b+1)=GK l a b++[r]:=by
 unfold GK;rw [show b+1 -a=(b -a)+1 by omega];exact Bi (by rw [NO,show a+(b -a)=b by omega];exact g)
theorem jK(J:LA l)(O:base<=P)(B:l[P]?=some r):Kn l q base (P+1)↔∃st,FY q (base:Int) 0 (Cf (BZ (l.take base)) q,(base:Int)) (GK l base P)=some st/\(BX q st.1 r.cs).2.2=true:=by
 have U:=(BE.1 B).1;have G:=(J.ok P r B).1.pos
 have K:=J.len;have m:=ku (l:=l) (a:=base) (b:=P) A1
 unfold Kn;rw [eB B O,Ld];cases h:FY q (base:Int) 0 (Cf (BZ (l.take base)) q,(base:Int)) (GK l base P)with
 |none=>
  constructor;· rintro ⟨st,g⟩;cases g
  · rintro ⟨st,g,_⟩;cases g
 |some st=>
  rw [I3];unfold FY;rw [D0,m];constructor
  · rintro ⟨I,g⟩
    split at g
    · rename_i h2;exact ⟨st,rfl,h2.1⟩
    · cases g
  · rintro ⟨I,g,h2⟩
    injection g with g
    subst g;rw [AM ⟨h2,by omega,by rw [G];omega⟩];exact ⟨_,V⟩
theorem jh{W W':List BN}(h:J8 W W' r)(m:W.length=min P 64):W'.length=min (P+1) 64:=by
 rcases h with⟨rfl,g⟩|⟨rfl,g⟩
 · rw [B7,E3];omega
 · rw [C2,B7,E3];omega
structure NrI(l:List BN)(P:Nat)(q:QM)(base:Nat)(dn:Prop)(c:CZ):Prop where
 t:NA l P 1 19 500 c
 wl:c.win.length=P
 no:¬dn->c.its=[]/\c.next=0
 yes:dn->(Kn l q base P/\∃y,c.its=[y]/\y.q=q/\y.base=(base:Int))\/(¬Kn l q base P/\c.its=[])
variable{c:CZ}
theorem NrI.congr{dn g:Prop}(h:NrI l P q base dn c)(e:dn↔g):NrI l P q base g c:=⟨h.t,h.wl,fun m=>h.no fun B=>m (e.1 B),fun m=>h.yes (e.2 m)⟩
theorem NrI.put{d:CZ}(h:NrI l P q base False c){n:Nat}(hn:1+(n:Int)<=19){b:Bool}(J:IC l P d)(I:c.like d)(nx:d.next<=c.next+1)(G:oG l P c d q ((0:Nat):Int) base n b):NrI l P q base True d:=by
 obtain ⟨hi,hx⟩:=h.no id;have h0:NA l P 0 19 500 c:=⟨h.t.law,by rw [hi];exact C0 _,by rw [hx];exact ZS _,h.t.sz,h.t.cap,h.t.ns⟩
 have K:=h0.put J I nx G hn;refine ⟨K,by rw [I.win];exact h.wl,fun g=>absurd trivial g,fun _=>?_⟩;have m:Reach l P c q base↔Kn l q base P:=⟨fun g=>g.2,fun g=>⟨by rw [h.wl];omega,g⟩⟩
 rcases G with⟨_,rfl,B⟩|⟨_,B,_,⟨_,x,hx9,_⟩|⟨_,y,e,e1,e2,_⟩⟩
 · exact .inr ⟨fun g=>B (m.2 g),hi⟩
 · rw [hi]at hx9;cases hx9
 · exact .inl ⟨m.1 B,y,by rw [e,hi];rfl,e1,e2⟩
theorem NrI.apply(hB:LA l){dn:Prop}{d:CZ}(h:NrI l P q base dn c)(hP:P<63)(hr:l[P]?=some r)(LD:IC l (P+1) d){q2:Option Addr}{cap2:Nat}{zs:List ByteArray}(O:H8 c d r.p r.cs q2 cap2 zs):NrI l (P+1) q base dn d:=by
 have Z:=(h.t.law.next hB hr).2;rw [h.t.law.pos]at Z;have G:c.its=[]->d.its=[]:=fun hi=>ka.2 fun y hy=>by
  obtain ⟨_,x,hx,_⟩:=O.i1 y hy;rw [hi]at hx;cases hx
 refine ⟨h.t.apply LD O,?_,fun h9=>⟨G (h.no h9).1,by rw [O.next];exact (h.no h9).2⟩,fun h9=>?_⟩
 · have:=jh O.win (P:=P) (by rw [h.wl];omega)
   omega
 · rcases h.yes h9 with⟨hk,y,hi,hq,hb⟩|⟨hk,hi⟩
   · have hy:y∈c.its:=by rw [hi];simp
     obtain ⟨a9,e1,e2,_,e4,_⟩:=h.t.law.at hB hy;obtain rfl:a9=base:=by omega
     have K:(UJ r.cs y->y.base<r.p->(BX y.q y.res r.cs).2.2=true)->∃y2,d.its=[y2]/\y2.q=q/\y2.base=(a9:Int):=fun hs=>by
      obtain ⟨y2,bn,hc⟩:=O.i2 y hy (by rw [hb];omega) hs;have m:∀w∈d.its,w=y2:=fun w hw=>by
       obtain ⟨_,x,hx,af,_⟩:=O.i1 w hw;rw [hi]at hx;rw [BT.1 hx]at af;exact GI O.ok.its.keys hw bn ((Ie af).trans (Ie hc).symm)
      refine ⟨y2,?_,(Gz hc).2.2.1.trans hq,(Gz hc).2.2.2.2.1.trans hb⟩;have hl:=O.ok.its.keys
      match hE:d.its,bn,hl with
      |[w],_,_=>rw [m w (by rw [hE];simp)]
      |w::w2::L,_,hl=>
       have g:=m w (by rw [hE];simp);have X:=m w2 (by rw [hE];simp)
       rw [g,X]at hl;simp at hl
     by_cases U:a9<=P
     · obtain ⟨_,_,_,J⟩:=e4 U
       rw [hq]at J;have bg:=jK hB (q:=q) U hr
       by_cases I:(BX q y.res r.cs).2.2=true
       · exact .inl ⟨bg.2 ⟨_,J,I⟩,K fun _ _=>by rw [hq];exact I⟩
       · refine .inr ⟨fun h8=>?_,ka.2 fun w hw=>?_⟩
         · obtain ⟨st,g,X⟩:=bg.1 h8
           rw [J]at g;injection g with g
           subst g;exact I X
         · obtain ⟨_,x,hx,_,B⟩:=O.i1 w hw
           rw [hi]at hx;rw [BT.1 hx]at B;have ax:∀ch∈r.cs,ch.ok:=fun ch cu=>by
            obtain ⟨i,cO⟩:=GW cu;exact (hB.ok P r hr).1.ok.all i ch cO
           rcases B with⟨g,_⟩|⟨_,g,_⟩
           · refine I ?_
             have W:¬r.cs.any (Dh q)=true:=fun X=>g ⟨by unfold UJ;rw [hq];exact (Na ax).1 X,by rw [hb,Z];omega⟩;rw [Qy W]
           · rw [hq]at g;exact I g
     · exact .inl ⟨sQ A1,K fun _ X=>by rw [hb,Z]at X;omega⟩
   · refine .inr ⟨fun h8=>hk ?_,G hi⟩
     by_cases U:base<=P
     · obtain ⟨st,g,_⟩:=(jK hB U hr).1 h8
       exact ⟨st,g⟩
     · exact sQ A1
structure NrA(l:List BN)(q:QM)(base:Nat)(z:Jv):Prop where
 eq:z.a.q=q
 until_:z.a.until_=(l.length:Int)
 eb:z.a.base=(base:Int)
 ranges:z.a.ranges=Fe (BZ (l.take base)) q
 run:FY q (base:Int) 0 (Cf (BZ (l.take base)) q,(base:Int)) (GK l base l.length)=some (z.a.res,z.a.since)
 recs:z.a.recs.map BN.pc=(GK l base l.length).map BN.pc
theorem NrA.same(h:NrA l q base x)(k:NrA l q base y):x.a.eqv y.a:=by
 have e:=h.run;rw [k.run]at e;injection e with e
 injection e with e1 e2
 exact ⟨h.eq.trans k.eq.symm,e2.symm,h.until_.trans k.until_.symm,h.eb.trans k.eb.symm,e1.symm,h.ranges.trans k.ranges.symm,h.recs.trans k.recs.symm⟩
theorem zW(hB:LA l)(af:BJ q)(U:base<=l.length)(h:NrI l l.length q base True c):Ba prog 13 #[.pointer (some ⟨c.cp,0,none⟩),.string (str (Ci q))] [c.mem] (fun r H'=>∃s,((Kn l q base l.length/\∃z:Jv,z.ok s/\NrA l q base z/\r= .tuple #[.agg z.A60,.bool true])\/(¬Kn l q base l.length/\r= .tuple #[.agg #[I4 0,I4 0,I4 0,I4 0,I4 0,I4 0,I4 0,.slice none 0 0,I4 0,.bool false,I4 0,I4 0,I4 0,.slice none 0 0,.slice none 0 0],.bool false]))/\H'=[c.mem,s]):=by
 rcases h.yes trivial with⟨B,y,hi,G,g⟩|⟨B,hi⟩
 · have hy:y∈c.its:=by rw [hi];simp
   obtain ⟨X,e1,e2,J,Z,_⟩:=h.t.law.at hB hy;obtain rfl:X=base:=by omega
   obtain ⟨f0,_,_,O⟩:=Z U;have W:=RQ h.t.law.ok hy (by rw [g,h.t.law.pos];omega)
   rw [show y.key=str (Ci q) by unfold ItM.key;rw [G]]at W;refine W.mono ?_;rintro r H' ⟨z,l9,s,hz,m,I,rfl,rfl⟩;rw [G]at J O;rw [h.t.law.pos,g,MW h.t.law.win U f0]at m;exact ⟨s,.inl ⟨B,z,I,⟨by rw [hz];exact G,by rw [hz];exact h.t.law.pos,by rw [hz];exact g,by rw [hz];exact J,by rw [hz];exact O,by rw [hz];exact m⟩,rfl⟩,rfl⟩
 · refine Ec (xM h.t.law.ok (K:=str (Ci q)) (fun x hx=>by rw [hi]at hx;cases hx)) [] B0 ?_
   rintro r H' ⟨rfl,rfl⟩;exact ⟨_,⟨[],.inr ⟨B,V⟩,V⟩,by simp⟩
def sC:Jv:=⟨⟨⟨0,0,0,0,0,0,0⟩,⟨[],0,false⟩,0,0,0,[],[]⟩,none,0,none,0,none,0⟩
theorem xA(G:LA l)(m:BJ q)(I:base<=l.length)(h:NrI l l.length q base True c):Ba prog 13 #[.pointer (some ⟨c.cp,0,none⟩),.string (str (Ci q))] [c.mem] (fun r H'=>∃(z:Jv) (b:Bool) (s:List AA),(b=true↔Kn l q base l.length)/\(Kn l q base l.length->z.ok s/\NrA l q base z)/\r= .tuple #[.agg z.A60,.bool b]/\H'=[c.mem,s]):=(zW G m I h).mono (by
 rintro r H' ⟨s,⟨g,z,h2,B,rfl⟩|⟨g,rfl⟩,rfl⟩;· exact ⟨z,true,s,⟨fun _=>g,fun _=>rfl⟩,fun _=>⟨h2,B⟩,rfl,rfl⟩
 · exact ⟨sC,false,s,⟨(fun h=>nomatch h),fun h=>absurd h g⟩,fun h=>absurd h g,rfl,rfl⟩)
theorem yL{v:Value}{zs:List Jv}{s:List AA}(h:Bc 15 55 v zs.length (zs.flatMap yM) s)(hx:zs[0]?=some x)(hy:zs[1]?=some y):∃g cap cur zz,v=I6 g zs.length cap/\s=[(g,.cells cur 55 zz)]/\30<=cur.size/\cur.extract 0 15=x.A60/\cur.extract 15 30=y.A60:=by
 obtain ⟨g,cap,cur,zz,I,h2,W,J⟩:=vE h hx;obtain ⟨U,B,G,O,_,m,X,K⟩:=vE h hy;rw [h2]at m;injection m with m _
 injection m with _ m
 injection m with m _ _
 subst m;exact ⟨g,cap,cur,zz,I,h2,by omega,J,K⟩
set_option maxHeartbeats 4000000 in
theorem xB{Mx:List AA}{vx:Value}{xs:List (List Int)}(hX:WN Mx vx xs)(q0 q1 q2 q3 q4 bw ew lw:Int)(qx:-9223372036854775808<=q0)(qy:q0<=9223372036854775807)(qz:-9223372036854775808<=q1)(r9:q1<=9223372036854775807)(sj:-9223372036854775808<=q2)(sw:q2<=9223372036854775807)(sJ:-9223372036854775808<=q3)(sM:q3<=9223372036854775807)(sO:-9223372036854775808<=q4)(ve:q4<=9223372036854775807)(l5:-9223372036854775808<=bw)(l8:bw<=9223372036854775807)(p8:-9223372036854775808<=ew)(p9:ew<=9223372036854775807)(ql:-9223372036854775808<=lw)(qo:lw<=9223372036854775807)(Tg:TypeId)(zg:Nat×Nat)(Tp:TypeId)(zp:Nat×Nat):BH prog 3 #[vx,.agg #[I4 q0,I4 q1,I4 q2,I4 q3,I4 q4],I4 bw,I4 ew,I4 lw] [[(4,.cells (Et.map Cs).toArray Tg zg)],[(1,.cells (Lib.pow10Tab.map fun z=>Value.int .u64 z).toArray Tp zp)],Mx] (.bool true):=by
 have hml:=mL;obtain ⟨px,Qe,rfl,⟨hxl1,hxl2⟩,hgx⟩:=id hX;have zb:=oq hX (min xs.length 16) (Nat.min_le_left _ _)
 have hxk:(xs.take (min xs.length 16)).length<=16:=by rw [C3];omega
 refine Se func3 ntmps3 [0,1,2,3,4] ?_;intro u R;refine A0<|Ze (Bx #[_,_,_,_,_])<|AE fun b1=>A3 Y<|A0<|Xr [] Y call4 Y V (zK Tg zg Tp zp)<|A3 Y<|A0<|Zm Y<|Zm Y<|Zv (AY dd Y)<|Zv (QA (n:=16) Y Y)<|Bb (Bq dd sizeOf69 Y Y A1)<|Zc [_] Y call5 Y V (wS zb A1) ?_;rintro _ _ ⟨_,⟨l,sl,Z,hll,Gw,cO,rfl⟩,rfl⟩;have Y2:l.length<=16:=by omega
 have hK:=xE Z A1 Gw;have hB:=hK.b
 obtain ⟨pl,cl,rfl,hlc,hgl⟩:=id cO;refine A3 Y<|A0<|Zo Wh (A9 (cs:=#[_,_,_,_,_]) isAgg23 sizeOf23 Y (by exact CM _) (BK V))<|Xr [_] Y call6 Y V (qK q0 q1 q2 q3 q4 qx qy qz r9 sj sw sJ sM sO ve) ?_;obtain ⟨q,vo⟩:∃q,q=Ga q0 q1 q2 q3 q4:=⟨_,rfl⟩;have hq:BJ q:=by rw [vo];exact dO _ _ _ _ _
 rw [<-vo];refine Ze (Al Mn #[_,_,_,_,_,_,_])<|AE fun bq=>Xe (Xw C7 q.A59)<|Z0<|Zn [2,3,4,11,12,13] ?_;refine Zx<|A0<|Zo Wh (A9 (cs:=q.A59) Dd C7 Y (by exact CM _) (BK V))<|Xr [_] Y call7 Y V (Kg q hq Tp zp)<|Zm Y<|Zd Y V<|Zd Y V<|Za Y<|A3 Y<|A0<|Zm Y<|Zm Y<|Zv (AY Fo Y)<|Ya (n:=1) Y Y<|Xr [_,_] Y Of Y V (Gs bw (l.length+1) A1 A1 l5 l8) ?_;have MC:=Dm bw (l.length+1) A1
 obtain ⟨B,zi⟩:∃a,a=CG bw (l.length+1):=⟨_,rfl⟩;rw [<-zi]at MC⊢;refine AG Y<|Zn [2,3,4,11,12,13,14] ?_;refine Zx<|A0<|Zm Y<|Zm Y<|Zv (AY Fo Y)<|Ya (n:=1) Y Y<|Xr [_,_] Y Of Y V (Gs ew (l.length+1) A1 A1 p8 p9) ?_;have ME:=Dm ew (l.length+1) A1
 obtain ⟨ea,zq⟩:∃a,a=CG ew (l.length+1):=⟨_,rfl⟩;rw [<-zq]at ME⊢;refine A3 Y<|A0<|Zm Y<|Zm Y<|Zv (AY Fo Y)<|Ya (n:=1) Y Y<|Xr [_,_] Y Of Y V (Gs lw (l.length+1) A1 A1 ql qo) ?_;have MJ:=Dm lw (l.length+1) A1
 obtain ⟨la,qj⟩:∃a,a=CG lw (l.length+1):=⟨_,rfl⟩;rw [<-qj]at MJ⊢;refine A3 Y<|A0<|AG Y<|Zn [2,3,4,11,12,13,14,16] ?_;refine Zx<|A0<|A3 Y<|Zq<|A0<|Zm Y<|Zm Y<|Ze (Ah (vs:=[_,_]) (cs:=[_,_]) Cl A4 H4 Y V rfl V rfl V)<|AE fun ge=>Zv (AY Cl Y)<|Zm Y<|A5<|AR<|BU<|BU<|BU<|Zb [16,17,60,2,11,12,13,14,58,59] ?_;refine BA (e0:=[(16,_),(17,_),(60,_)]) (fun m e H=>∃(i:Nat) (U:List Jv) (fs:List Bool) (vb vf:Value) (sB sF MM:List AA),m=2 -i/\(((i<=2/\U.length=i)/\fs.length=i)/\Bc 15 55 vb U.length (U.flatMap yM) sB/\Row 4 vf (fs.map Value.bool) sF/\(∀b∈fs,(b=true↔Kn l q B l.length))/\∀z∈U,Kn l q B l.length->z.ok MM/\NrA l q B z)/\e=[(16,vb),(17,vf),(60,I4 (i:Int))]/\H=[sB,sF,MM]) (by exact ⟨0,[],[],.slice none 0 0,.slice none 0 0,[],[],[],V,⟨⟨⟨C0 _,V⟩,V⟩,Bf 15 _,Fz _,(fun b hb=>by simp at hb),fun z hz=>by simp at hz⟩,V,V⟩) Wp ?_;rintro _ _ _ ⟨i,U,fs,vb,vf,sB,sF,MM,rfl,⟨⟨⟨hi,zf⟩,zu⟩,hV,hF,ek,J⟩,rfl,rfl⟩;obtain ⟨vp,vc,rfl⟩:=hV.form;obtain ⟨fp,fc,rfl⟩:=hF.form;refine A0<|Zv (Au Y Y)<|A5<|Zq<|Aq Y (fun Hf=>?_) (fun Hf=>?_);·
  obtain ⟨ic,kv,Ta⟩:∃a:Nat,(#[I4 (ea:Int),I4 (la:Int)]:Array Value)[i]?=some (I4 (a:Int))/\a<=l.length:=by
   rcases (by omega:i=0\/i=1)with X|X
   · exact ⟨ea,by rw [X];rfl,by omega⟩
   · exact ⟨la,by rw [X];rfl,by omega⟩
  refine AC<|Zx<|Zq<|AR<|A0<|Bb (BV Cl A4 Y Y (by first|omega|decide|exact CM _|(simp;done)|(simp;omega)))<|Zl AD Y (hv:=by exact kv)<|A3 Y<|A0<|Ze (Ah (vs:=[_]) (cs:=[_]) Cl A4 H4 Y rfl rfl rfl rfl rfl)<|AE fun gs=>Zc [_,_,_] Y call9 Y V (pL (sh:=[50]) (YQ gs (I4 50)) 0 500 AH AH AH AH AH) ?_;rintro _ _ ⟨_,⟨c0,rfl,K,⟨G,j3,vw⟩,MB,af,qw,d9,rfl⟩,rfl⟩;have L0:IC l 0 c0:=⟨K,MB,C0 _,by rw [vw];exact Rh l 0,fun x vz=>by rw [G]at vz;cases vz⟩
  refine Zm Y<|Zd Y V<|Zd Y V<|Za Y<|A3 Y<|Zq<|A0<|Zm Y<|Zv (Dp (n:=0) Y Y)<|Z0<|Zn [2,11,12,13,14,16,17,19,20,58,59,60,70] ?_;refine Zx<|Aq Y (fun k1=>?_) (fun k1=>?_);·
   exact absurd V k1
  refine AC<|Zx<|Zq<|A0<|A3 Y<|AR<|Zb [22,2,11,12,13,14,16,17,19,20,58,59,60] ?_;refine BA (e0:=[(22,_)]) (fun m e H=>∃(j:Nat) (c:CZ),m=l.length+1 -j/\(j<=l.length+1/\NrI l (min j l.length) q B (ic<j) c/\c.cp=c0.cp)/\e=[(22,I4 (j:Int))]/\H=[c.mem]) (by exact ⟨0,c0,rfl,⟨C0 _,by rw [Nat.zero_min];exact ⟨⟨L0,by rw [G];exact C0 _,by rw [af];decide,(fun e he=>by rw [j3]at he;cases he),d9,qw⟩,by rw [vw];rfl,fun _=>⟨G,af⟩,fun X=>absurd X (cX _)⟩,rfl⟩,rfl,rfl⟩) Wp ?_;rintro _ _ _ ⟨j,c,rfl,⟨hj,hN,O⟩,rfl,rfl⟩;refine Zq<|A0<|Zm Y<|Zm Y<|Zv (AY Fo Y)<|Zv (Ve Y Y)<|A5<|Aq Y (fun q9=>?_) (fun q9=>?_);·
   rw [show min j l.length=j by omega]at hN;rw [<-O];refine AC<|Zx<|Zq<|AR<|Zb [2,11,12,13,14,16,17,19,20,22,58,59,60] ?_;refine DJ (e0:=[]) (H0:=[c.mem]) (fun e H=>∃(c9:CZ),(NrI l j q B (ic<j+1) c9/\c9.cp=c.cp)/\e=[]/\H=[c9.mem]) Wp ?hx_3 ?hy_3
   case hx_3=>
    refine A0<|Zm Y<|Zm Y<|Zv (Cb Y Y)<|A5<|Aq Y (fun FT=>?_) (fun FT=>?_);·
     have g:NrI l j q B False c:=hN.congr ⟨fun X=>by omega,fun X=>X.elim⟩;refine Zg<|Zm Y<|Zm Y<|Zm Y<|Zo Wh (A9 (cs:=q.A59) Dd C7 Y (by exact CM _) (BK V))<|Zc [_,_,_,_] Y call11 Y V (XZ cO Z A1 (B) A1 (hq) (hB.scan (B) A1 _) 0 Tg zg) ?_;rintro _ _ ⟨_,⟨E1,pg1,cg1,j5,rfl,rfl⟩,rfl⟩;have gy:1+((18:Nat):Int)<=c.z.fr:=by have:=g.t.room AH;omega
     refine Zc [_,_] Y call10 Y rfl (zY hB g.t.law hq (k:=0) (by rw [g.t.ns];decide) AH (a:=B) A1 j5 (by have:=g.t.next;omega) (by have:=g.t.len;omega) (n:=18) (hK.rows _) gy Tp zp) ?_;rintro _ _ ⟨_,⟨b2,c2,rfl,LP,lk,nn,hP,rfl⟩,rfl⟩;have y9:=g.put AH LP lk nn.2 hP
     rw [<-lk.cp];refine Z0<|Zn [2,11,12,13,14,16,17,19,20,22,58,59,60] ?_;refine BO (e':=[]) (by exact ⟨c2,⟨y9.congr ⟨fun _=>by omega,fun _=>trivial⟩,by first|rfl|assumption⟩,rfl,rfl⟩)
    refine AC<|Zn [2,11,12,13,14,16,17,19,20,22,58,59,60] ?_;refine BO (e':=[]) (by exact ⟨c,⟨hN.congr A1,V⟩,V,V⟩)
   rintro _ _ ⟨c9,⟨cu,l9⟩,rfl,rfl⟩;rw [<-l9];replace O:=l9.trans O;refine A0<|Zm Y<|Zm Y<|Zv (AY Fo Y)<|Zv (Au Y Y)<|A5<|Aq Y (fun Gl=>?_) (fun Gl=>?_);·
    obtain ⟨r,hr⟩:∃r,l[j]?=some r:=⟨_,B3 A1⟩;obtain ⟨o9,gm,offm,T9,Tm,zm,MK,HZ,hszm,pg⟩:=X7 cO hr;rw [MK];refine A0<|Zm Y<|Zm Y<|Zm Y<|Bb (Ac Fo F0 Y Y A1)<|CS (I1 Wo (HZ)) (A9 (cs:=#[_,_]) HX F0 Y A1 pg) V rfl<|Zc [_,_] Y call12 Y V (fI hB cu.t.law hr o9) ?_;rintro _ _ ⟨_,⟨d,qa,cpa,gz,tv,sT,rfl,LD,hA,hrw,rfl⟩,rfl⟩;have yt:=cu.apply hB A1 hr LD hA
    rw [<-hA.cp];refine Zm Y<|Zd Y V<|Zd Y V<|Za Y<|AG Y<|Zn [2,11,12,13,14,16,17,19,20,22,24,58,59,60] ?_;refine Zx<|A0<|Zm Y<|Zv (Dp (n:=0) Y Y)<|A5<|Aq Y (fun k2=>?_) (fun k2=>?_);·
     exact absurd V k2
    refine AC<|A8<|Zx<|Zg<|Zm Y<|Ya (n:=1) Y Y<|AG Y<|Zn [22,2,11,12,13,14,16,17,19,20,58,59,60] ?_;refine Ab (e':=[(22,_)]) (by exact ⟨j+1,d,rfl,⟨by omega,by rw [show min (j+1) l.length=j+1 by omega];exact yt,by first|rfl|assumption⟩,rfl,rfl⟩)
   refine AC<|A8<|Zx<|Zg<|Zm Y<|Ya (n:=1) Y Y<|AG Y<|Zn [22,2,11,12,13,14,16,17,19,20,58,59,60] ?_;refine Ab (e':=[(22,_)]) (by exact ⟨j+1,c9,rfl,⟨by omega,by rw [show min (j+1) l.length=j by omega];exact cu,by first|rfl|assumption⟩,rfl,rfl⟩)
  have za:NrI l l.length q B True c:=by
   rw [show min j l.length=l.length by omega]at hN;exact hN.congr ⟨fun _=>trivial,fun _=>by omega⟩
  refine Ay<|Zt<|Zt<|AU<|Zx<|Zq ?_;rw [<-O];refine Zg<|Zm Y<|Zm Y<|Zc [_,_] Y call13 Y V (xA hB hq A1 za) ?_;rintro _ _ ⟨_,⟨z,b,s9,zk,y5,rfl,rfl⟩,rfl⟩;refine Zm Y<|Zd Y V<|Zd Y V<|Ze (Al L7 #[_,_,_,_,_,_,_,_,_,_,_,_,_,_,_])<|AE fun bg=>Xe (Xw HJ z.A60)<|AG Y<|Zn [2,11,12,13,14,16,17,25,26,58,59,60] ?_;refine Zx<|A0<|Zm Y<|Zo Wh (A9 (cs:=z.A60) Wr HJ Y (by exact CM _) (BK V))<|Ze (Ah (vs:=[_]) (cs:=[_,_,_,_,_,_,_,_,_,_,_,_,_,_,_]) kB HJ L7 Y V rfl V rfl V)<|AE fun gb=>Ze (BR (by_:=168) (sz:=15) kB (V:Tryz.prog.info? 55=some Tryz.t55) V rfl V rfl Y (hV) Y (D8 15 gb 1 1 55 (0,0) [I4 z.a.q.kd,I4 z.a.q.tb,I4 z.a.q.cl,I4 z.a.q.lo,I4 z.a.q.hi,I4 z.a.q.bq,I4 z.a.q.ot,.slice z.rp z.a.res.rows.length z.rc,I4 z.a.res.val,.bool z.a.res.fnd,I4 z.a.since,I4 z.a.until_,I4 z.a.base,.slice z.gp z.a.ranges.length z.gc,.slice z.cp z.a.recs.length z.cc] V) Wo Wo Fm A1 A1) ?_;rintro _ _ ⟨P7,ax,rfl⟩;obtain ⟨ga9,ca9,rfl⟩:=ax.form;refine A3 Y<|Zg<|Zm Y<|Zm Y<|Ze (Ah (vs:=[_]) (cs:=[_]) jz CH T0 Y V rfl V rfl V)<|AE fun gf=>Ze (ET (by_:=1) (news:=[_]) jz (V:Tryz.prog.info? 4=some Tryz.t4) V rfl V rfl Y hF Y Wo Wh AN V Fm AH (by(simp only [B4];omega)) (by(simp only [B4];omega))) ?_;rintro _ _ ⟨Pn,bn,rfl⟩;obtain ⟨gf9,cf9,rfl⟩:=bn.form;refine AG Y<|A8<|Zx<|CK (s1:=s9) (s2:=MM) Wo Wo ?_;refine Zg<|Ya (n:=1) Y Y<|Zm Y<|Z0<|Zn [16,17,60,2,11,12,13,14,58,59] ?_;refine Ab (e':=[(16,_),(17,_),(60,_)]) (by
   exact ⟨i+1,U++[z],fs++[b],_,_,P7,Pn,s9++MM,rfl,⟨⟨⟨by omega,by rw [B7,zf];rfl⟩,by rw [B7,zu];rfl⟩,BS ax (by rw [B7];rfl) (by rw [N6];rfl),(by rw [BW];exact bn),(fun y hy=>by
    rcases B9.1 hy with hy|hy
    · exact ek y hy
    · rw [BT.1 hy];exact zk),fun y hy hk=>by
    rcases B9.1 hy with hy|hy
    · exact ⟨(J y hy hk).1.mono fun q hq=>G2 _ hq,(J y hy hk).2⟩
    · rw [BT.1 hy];exact ⟨(y5 hk).1.mono fun q hq=>Dg _ hq,(y5 hk).2⟩⟩,rfl,rfl⟩)
 have ei:i=2:=by omega
 obtain ⟨f0,pq⟩:∃f,fs[0]?=some f:=⟨_,B3 A1⟩;obtain ⟨f1,pz⟩:∃f,fs[1]?=some f:=⟨_,B3 A1⟩;obtain ⟨z0,wo⟩:∃z,U[0]?=some z:=⟨_,B3 A1⟩;obtain ⟨z1,wz⟩:∃z,U[1]?=some z:=⟨_,B3 A1⟩;have g0:=ek f0 (DE pq)
 have g1:=ek f1 (DE pz);have zt:f0=f1:=by rw [ij,g0,g1]
 obtain ⟨gB,Ps,Rl,zzB,MP,rfl,hszB,P5,P6⟩:=yL hV wo wz;injection MP with hB1 hB2 hB3
 subst hB1 hB3;obtain ⟨gF,Qd,W,zF,MS,rfl,hsF,o8⟩:=YP hF (n:=2) (by rw [B4];omega) AH;injection MS with hF1 hF2 hF3
 subst hF1 hF3;have K:W[0]?=some (.bool f0):=by rw [o8 0 AH,DO,pq];rfl
 have zl:W[1]?=some (.bool f1):=by rw [o8 1 AH,DO,pz];rfl
 have gq:=J z0 (DE wo);have qb:=J z1 (DE wz)
 refine Ay<|Zt<|Zt<|AU<|Zx<|Zq<|Az (n:=26) (0::1::3::7::15::3::35::99::255::511::1023::2047::4095::8191::16383::32767::65535::131071::262143::65535::589823::1638399::4194303::8388607::16777215::33554431::[]) 4194304 A6 A6 V<|A2 0 V (AP Y)<|A2 1 V (AP Y)<|CU (t:=117) Y (fun k3=>?_) (fun k3=>?_);·
  rw [k3];refine An 2 rfl (AP Y)<|An 3 rfl (BV (j:=0) jz CH Y Y (by first|omega|decide|exact CM _|(simp;done)|(simp;omega)))<|DH 4 rfl Wh (BP DM Y K)<|An 5 rfl (AP Y)<|An 6 rfl (BV (j:=1) jz CH Y Y (by first|omega|decide|exact CM _|(simp;done)|(simp;omega)))<|DH 7 rfl Wh (BP DM Y zl)<|An 8 rfl (TE Lk Y Y)<|A2 9 rfl (AQ Y Y)<|A2 10 rfl (AP Y)<|DX (t:=126) Y (fun k4=>?_) (fun k4=>?_);·
   rw [Cp k4];refine An 11 rfl (AP Y)<|An 12 rfl (BV (j:=0) jz CH Y Y (by first|omega|decide|exact CM _|(simp;done)|(simp;omega)))<|DH 13 rfl Wh (BP DM Y K)<|An 14 rfl (Br Y)<|An 15 rfl (AP Y)<|CU (t:=131) Y (fun k5=>?_) (fun k5=>?_);·
    rw [k5];refine AF 16 V<|AF 17 V<|AF 18 V<|AF 19 V<|AF 20 V<|AF 21 V<|AF 22 V<|An 23 V (AQ Y Y)<|A2 24 V (AQ Y Y)<|A2 25 V (Av Y)<|Ag<|Zn [10] ?_;refine Zx<|AJ<|AO V results3 Y (by exact ⟨V,V⟩)
   rw [k5];have I:Kn l q B l.length:=g0.1 (by simpa using k5)
   refine An 16 rfl (AP Y)<|An 17 rfl (Ac (j:=0) kB HJ Y Y A1)<|DH 18 rfl Wh (A9 (cs:=#[_,_,_,_,_,_,_,_,_,_,_,_,_,_,_]) Wr HJ Y A1 P5)<|An 19 rfl (AP Y)<|An 20 rfl (Ac (j:=1) kB HJ Y Y A1)<|DH 21 rfl Wh (A9 (cs:=#[_,_,_,_,_,_,_,_,_,_,_,_,_,_,_]) Wr HJ Y A1 P6)<|Yw 22 8388607 rfl (Zu [_,_] Y call14 Y rfl (qI (gq I).1 (qb I).1 ((gq I).2.same (qb I).2) (by rw [(gq I).2.ranges];have:=hB.make_len (show B<=l.length by omega) q;omega)))<|CT<|An 23 V (AL Y Y)<|A2 24 V (AQ Y Y)<|A2 25 V (Av Y)<|Ag<|Zn [10] ?_;refine Zx<|AJ<|AO V results3 Y (by exact ⟨V,V⟩)
  rw [CN k4];exact absurd zt k4
 rw [k3];cases k3
theorem eY(p:Option Addr)(cap:Nat)(xs:List (List Int))(M:List AA)(hX:WN M (.slice p xs.length cap) xs)(J K q2 O U:Int)(g:-9223372036854775808<=J/\J<=9223372036854775807)(m:-9223372036854775808<=K/\K<=9223372036854775807)(B:-9223372036854775808<=q2/\q2<=9223372036854775807)(G:-9223372036854775808<=O/\O<=9223372036854775807)(I:-9223372036854775808<=U/\U<=9223372036854775807)(u:Int)(u1:-9223372036854775808<=u)(u2:u<=9223372036854775807)(v:Int)(v1:-9223372036854775808<=v)(v2:v<=9223372036854775807)(w:Int)(w1:-9223372036854775808<=w)(w2:w<=9223372036854775807)(W:TypeId)(Z:Nat×Nat)(X:TypeId)(zp:Nat×Nat):BH prog 3 #[.slice p xs.length cap,.agg #[I4 J,I4 K,I4 q2,I4 O,I4 U],I4 u,I4 v,I4 w] [[(4,.cells (Et.map Cs).toArray W Z)],[(1,.cells (Lib.pow10Tab.map fun z=>Value.int .u64 z).toArray X zp)],M] (.bool true):=xB hX J K q2 O U u v w g.1 g.2 m.1 m.2 B.1 B.2 G.1 G.2 I.1 I.2 u1 u2 v1 v2 w1 w2 W Z X zp
end Go.Proofs.YtfhjaegddfehhaaGreatDoor
namespace Go.Proofs.YtfhjaegddfehhaaGreatDoor
open Go.Proofs.Tryz
open Go Go.RowKit Gw
set_option maxRecDepth 100000
attribute [local irreducible] Gw.At Gw.Nx Gw.Ops
open Go.ChangeShapes Go.WideShapes Go.ChangeAt
theorem XO{P:Program}{f:FuncId}{g:Func}{s:ChangeSpec}{c:OpenClaim}(h0:c.wf (OpenSpec.ofChange s)=true)(h1:laidOutB P=true)(h2:mapsRowed P=true)(h3:g.params.all (P.readableRec ·)=true)(h4:namedTie P c.named s.vars=true)(h5:(c.stops== [])=true)(h6:(P.stops== [])=true)(h7:(c.knobs== [])=true)(h8:(P.stopKnobs== [])=true)(h9:(c.inPlace==P.inPlace f)=true)(m:(c.unfollowed==P.unfollowed f)=true)(B:(c.recurses==P.recurses f)=true)(G:(c.named==P.varsNamed f)=true)(I:(c.maps==(g.params.toList++s.plain.varTypes P).any (P.mapsRec ·))=true)(J:(c.ifaces==(g.params.toList++s.plain.varTypes P).any (P.ifacesRec ·))=true)(K:(c.mapsOut==P.mapsAmong g.resultTypes.toList)=true)(O:(c.loops==(g.params.toList++s.plain.varTypes P).any (P.loopsFrom ·))=true)(U:(c.wideKeys==(g.params.toList++s.plain.varTypes P++g.resultTypes.toList).any (P.wideKeysFrom ·))=true)(W:s.vars.all (P.varReadable ·)=true)(X:g.resultTypes.all (fun t=>P.readableRec t&&decide (t<P.types.size))=true)(Z:(c.ifacesOut==g.resultTypes.toList.any (P.ifacesRec ·))=true)(af:(c.loopsOut==g.resultTypes.toList.any (P.loopsFrom ·))=true)(ax:(c.plainKeys==P.plainKeys)=true)(bg:c.shortTexts.isNone=true)(bn:P.stopsHeard=true)(cu:P.mayEnter=true)(cO:(c.lifted==P.liftsFinal)=true)(d9:(P.make==some c.make)=true)(ek:(c.kinds==(if c.domain.isEmpty then []else g.params.toList.map fun t=>match P.underlying t with|some (.int k)=>some k|_=>none))=true)(gm:(c.pinned==c.pinnedBy)=true)(gq:(c.veiled==(g.params.toList++s.plain.varTypes P++g.resultTypes.toList).any (P.veiledRec ·))=true)(gy:c.veiledFits P g.params.toList (g.params.toList++s.plain.varTypes P++g.resultTypes.toList)=true):joinedFacts P f g s c=true:=by
 unfold joinedFacts;simp only [F2];exact ⟨⟨⟨⟨⟨⟨⟨⟨⟨⟨⟨⟨⟨⟨⟨⟨⟨⟨⟨⟨⟨⟨⟨⟨⟨⟨⟨⟨⟨⟨⟨h0,h1⟩,h2⟩,h3⟩,h4⟩,h5⟩,h6⟩,h7⟩,h8⟩,h9⟩,m⟩,B⟩,G⟩,I⟩,J⟩,K⟩,O⟩,U⟩,W⟩,X⟩,Z⟩,af⟩,ax⟩,bg⟩,bn⟩,cu⟩,cO⟩,d9⟩,ek⟩,gm⟩,gq⟩,gy⟩
end Go.Proofs.YtfhjaegddfehhaaGreatDoor
