/- Answers that are alike, by the reference. -/
import Derived.Test.YtelliknjeemfoaaGreatDoorRt5
set_option linter.unusedVariables false
set_option linter.unusedSimpArgs false
namespace Go.Proofs.YtelliknjeemfoaaGreatDoor
open Go.Proofs.Tryz
open Go Go.RowKit Gw
set_option maxRecDepth 100000
attribute [local irreducible] Gw.At Gw.Nx Gw.Ops
variable{M:List A8}
theorem tm{G I:A2}{x y:C8}(m:DV M G x.rows)(B:DV M I y.rows):Az prog 58 #[.agg #[G,I0 x.val,.bool x.fnd],.agg #[I,I0 y.val,.bool y.fnd]] [M] (.bool (decide (x=y))):=by
 obtain ⟨U,J,rfl,_⟩:=id m;obtain ⟨X,K,rfl,_⟩:=id B;refine Se func58 ntmps58 [0,1] ?_;intro u R;refine A3<|Ze (Bx #[.slice U x.rows.length J,I0 x.val,.bool x.fnd])<|AF fun Z=>Ze (Bx #[.slice X y.rows.length K,I0 y.val,.bool y.fnd])<|AF fun b2=>AH Y<|A3<|Zh 0 E4 V rfl DH Y<|Zl GS Y<|Zh 0 E4 V rfl DH Y<|Zl GS Y<|Xr [_,_] Y call112 Y V (ww m B)<|Zm Y<|Ae (t:=10) Y V (fun O=>?_) (fun O=>?_);focus
  refine Yf 1 E4 V rfl A6 Y<|Yl AE Y<|Yf 1 E4 V rfl A6 Y<|Yl AE Y<|Yg (CJ Y Y)<|BT Y Y<|Zm Y<|Ae (t:=17) Y V (fun h2=>?_) (fun h2=>?_);refine Yf 2 E4 V rfl FA Y<|Yl GW Y<|Yf 2 E4 V rfl FA Y<|Yl GW Y<|Yg (Sj Mn Y Y)<|BT Y Y<|B1 Y<|Zn [4] ?_;refine Zx<|AJ<|AX rfl results58 Y (by exact ⟨by rw [iW];simp [*],rfl⟩)
 rotate_left
 focus
  refine AG<|AG<|C5<|BW Y Y<|Zm Y ?_
 all_goals
  refine AG<|AG<|C5<|BW Y Y<|B1 Y<|Zn [4] ?_;refine Zx<|AJ<|AX rfl results58 Y (by exact ⟨by rw [iW];simp [*],rfl⟩)
variable{cs:List Chg}
theorem tr{p:Int}{qa qb:B8}{B G:Nat}(ha:CE M (.slice qa cs.length B) cs)(hb:CE M (.slice qb cs.length G) cs):Az prog 57 #[.agg #[I0 p,.slice qa cs.length B],.agg #[I0 p,.slice qb cs.length G]] [M] (.bool true):=by
 have d9:=mL;obtain ⟨_,_,_,cO,_⟩:=id ha;refine Se func57 ntmps57 [0,1] ?_;intro u R;refine A3<|Ze (Bx #[I0 p,.slice qa cs.length B])<|AF fun b1=>Ze (Bx #[I0 p,.slice qb cs.length G])<|AF fun b2=>D2 Y<|A3<|Zh 0 GF V rfl A6 Y<|Zl AE Y<|Zh 0 GF V rfl A6 Y<|Zl AE Y<|Zv (GK Y Y)<|Zm Y<|Ae (t:=11) Y V (fun k1=>?_) (fun k1=>?_);·
  exact absurd V k1
 refine Yf 1 GF V rfl KB Y<|Yl LL Y<|Yg (AR GO Y)<|Yf 1 GF V rfl KB Y<|Yl LL Y<|Yg (AR GO Y)<|Yg (Dr Y Y)<|BW Y Y<|Z0<|Zn [2,3,19] ?_;refine Zx<|Ap Y (fun k2=>?_) (fun k2=>?_);·
  exact absurd V k2
 refine B4<|Zq<|A3<|AH Y<|AP<|Zb [5,2,3] ?_;refine Ay (e0:=[(5,_)]) (fun m e H=>∃(i:Nat),m=cs.length -i/\(i<=cs.length)/\e=[(5,I0 (i:Int))]/\H=[]) (by exact ⟨0,V,C7 _,V,V⟩) Wp ?_;rintro _ _ _ ⟨i,rfl,hi,rfl,rfl⟩;refine B7 Y<|Zh 1 GF V rfl KB Y<|Zl LL Y<|Zv (AR GO Y)<|Zv (Ar Y Y)<|A5<|Ap Y (fun I=>?_) (fun I=>?_);·
  obtain ⟨c,hc⟩:∃c,cs[i]?=some c:=⟨_,BE A0⟩;obtain ⟨g1,bn,af,T1,gq,O,J,ek,X⟩:=jQ ha hc;obtain ⟨g2,cu,ax,T2,gy,U,K,gm,Z⟩:=jQ hb hc;rw [O,U];refine B4<|Zq<|AP<|Zq<|Aw (n:=11) (0::1::0::7::15::0::32::0::224::480::1023::[]) 0 AD AD V<|A1 0 V (AB (off:=1) GF V rfl KB Y)<|Bk 1 V LL Y<|A1 2 V (AQ Y)<|A1 3 V (AZ GO Cd Y Y A0)<|CS (D':=31) 4 V rfl V (Eg Wo (J)) (AA (cs:=c.A87) HG Cd Y A0 X) ?_;refine A1 5 V (AB (off:=1) GF V rfl KB Y)<|Bk 6 V LL Y<|A1 7 V (AQ Y)<|A1 8 V (AZ GO Cd Y Y A0)<|CS (D':=1023) 9 V rfl V (Eg Wo (K)) (AA (cs:=c.A87) HG Cd Y A0 Z) ?_;refine A1 10 V (rF AD Y Y (eqC c c))<|Ao<|Zn [2,3,5,37] ?_;refine Zx<|AY Y (fun k3=>?_) (fun k3=>?_);·
   simp at k3
  refine AC<|A9<|Zx<|Zg<|Zm Y<|Ya (n:=1) Y Y<|B1 Y<|HB (by exact ⟨i+1,V,by omega,V,V⟩)
 refine BB<|Zt<|Zt<|AV<|CD<|Ax Y<|AX V results57 Y (by exact ⟨V,V⟩)
theorem qK{a b:List BJ}(h:a.map BJ.key=b.map BJ.key):a.length=b.length:=by
 have m:=congrArg List.length h;rwa [Bm,Bm]at m
variable{i:Nat}
theorem kJ{a b:List BJ}(h:a.map BJ.key=b.map BJ.key){x y:BJ}(hx:a[i]?=some x)(hy:b[i]?=some y):x.p=y.p/\x.cs=y.cs:=by
 have m:=congrArg (fun l=>l[i]?) h;simp only [FF,hx,hy,Pr]at m;injection m with m
 injection m with m h2
 exact ⟨m,h2⟩
variable{p:B8}{cap:Nat}
theorem pX{L:List RP}(h:Ex M (.slice p L.length cap) L){x:RP}(hx:L[i]?=some x):∃z:RPZ,z.x=x/\z.ok M/\∃g off cur T zz,p=some ⟨g,off,none⟩/\(g,Obj.cells cur T zz)∈M/\off+i*9+9<=cur.size/\cur.extract (off+i*9) (off+i*9+9)=#[I0 z.x.tb,I0 z.x.cl,I0 z.x.lo,I0 z.x.hi,I0 z.x.ct,I0 z.x.fi,.slice z.qr z.x.rows.length z.cr,.slice z.qp z.x.paths.length z.cp,.slice z.qt z.x.roots.length z.ct]:=by
 obtain ⟨Z,J,m⟩:=h;obtain ⟨O,B,G,_,K⟩:=J;injection G with e1 e2 e3
 subst e1;rw [<-m,FF]at hx;cases hz:Z[i]?with
 |none=>rw [hz]at hx;cases hx
 |some z=>
  rw [hz]at hx;injection hx with hx
  obtain ⟨I,h2⟩:=K i z hz;exact ⟨z,hx,I,h2⟩
set_option maxHeartbeats 1000000 in
theorem qP{x y:Nw}(hx:x.ok M)(hy:y.ok M)(he:x.a.eqv y.a)(hl:x.a.ranges.length<=1000000):Az prog 14 #[.agg #[I0 x.a.q.kd,I0 x.a.q.tb,I0 x.a.q.cl,I0 x.a.q.lo,I0 x.a.q.hi,I0 x.a.q.bq,I0 x.a.q.ot,.slice x.rp x.a.res.rows.length x.rc,I0 x.a.res.val,.bool x.a.res.fnd,I0 x.a.since,I0 x.a.until_,I0 x.a.base,.slice x.gp x.a.ranges.length x.gc,.slice x.cp x.a.recs.length x.cc],.agg #[I0 y.a.q.kd,I0 y.a.q.tb,I0 y.a.q.cl,I0 y.a.q.lo,I0 y.a.q.hi,I0 y.a.q.bq,I0 y.a.q.ot,.slice y.rp y.a.res.rows.length y.rc,I0 y.a.res.val,.bool y.a.res.fnd,I0 y.a.since,I0 y.a.until_,I0 y.a.base,.slice y.gp y.a.ranges.length y.gc,.slice y.cp y.a.recs.length y.cc]] [M] (.bool true):=by
 have l8:=mL;obtain ⟨h1,h2,h3,h4,h5,h6,h7⟩:=id he;have h8:=qK h7
 have h9:x.a.ranges.length=y.a.ranges.length:=by rw [h6]
 obtain ⟨_,_,_,⟨l5,_⟩,_⟩:=id hx.2.2;refine Se func14 ntmps14 [0,1] ?_;intro u R;refine A3<|Ze (Bx #[I0 x.a.q.kd,I0 x.a.q.tb,I0 x.a.q.cl,I0 x.a.q.lo,I0 x.a.q.hi,I0 x.a.q.bq,I0 x.a.q.ot,.slice x.rp x.a.res.rows.length x.rc,I0 x.a.res.val,.bool x.a.res.fnd,I0 x.a.since,I0 x.a.until_,I0 x.a.base,.slice x.gp x.a.ranges.length x.gc,.slice x.cp x.a.recs.length x.cc])<|AF fun b1=>Ze (Bx #[I0 y.a.q.kd,I0 y.a.q.tb,I0 y.a.q.cl,I0 y.a.q.lo,I0 y.a.q.hi,I0 y.a.q.bq,I0 y.a.q.ot,.slice y.rp y.a.res.rows.length y.rc,I0 y.a.res.val,.bool y.a.res.fnd,I0 y.a.since,I0 y.a.until_,I0 y.a.base,.slice y.gp y.a.ranges.length y.gc,.slice y.cp y.a.recs.length y.cc])<|AF fun b2=>D2 Y<|A3<|Zh 0 HF V rfl D4 Y<|Zo Wh (AA (cs:=#[_,_,_,_,_,_,_]) FG D4 Y B9 (by exact (by apply HW.1;rfl))) ?_;refine Zh 0 HF V rfl D4 Y<|Zo Wh (AA (cs:=#[_,_,_,_,_,_,_]) FG D4 Y B9 (by exact (by apply HW.1;rfl))) ?_;refine Zv (rF AD Y Y (eqQ x.a.q y.a.q))<|Zm Y<|Ab (t:=14) Y V (fun k1=>?_) (fun k1=>?_);·
  simp [h1]at k1
 refine Yf 10 HF V rfl A6 Y<|Yl AE Y ?_;refine Yf 10 HF V rfl A6 Y<|Yl AE Y ?_;refine Yg (GK Y Y)<|BW Y Y<|Zm Y<|Ae (t:=21) Y V (fun k2=>?_) (fun k2=>?_);·
  exact absurd h2 k2
 refine Yf 11 HF V rfl A6 Y<|Yl AE Y ?_;refine Yf 11 HF V rfl A6 Y<|Yl AE Y ?_;refine Yg (GK Y Y)<|BW Y Y<|Zm Y<|Ae (t:=28) Y V (fun k3=>?_) (fun k3=>?_);·
  exact absurd h3 k3
 refine Yf 12 HF V rfl A6 Y<|Yl AE Y ?_;refine Yf 12 HF V rfl A6 Y<|Yl AE Y ?_;refine Yg (GK Y Y)<|BW Y Y<|Zm Y<|Ae (t:=35) Y V (fun k4=>?_) (fun k4=>?_);·
  exact absurd h4 k4
 refine Yf 13 HF V rfl J0 Y<|Yl Ly Y ?_;refine Yg (AR N2 Y)<|Yf 13 HF V rfl J0 Y<|Yl Ly Y ?_;refine Yg (AR N2 Y)<|Yg (Dr Y Y)<|BW Y Y<|Zm Y<|Ae (t:=44) Y V (fun k5=>?_) (fun k5=>?_);·
  exact absurd h9 k5
 refine Yf 14 HF V rfl N4 Y<|Yl SU Y ?_;refine Yg (AR HA Y)<|Yf 14 HF V rfl N4 Y<|Yl SU Y ?_;refine Yg (AR HA Y)<|Yg (Dr Y Y)<|BW Y Y<|Z0<|Zn [2,3,52] ?_;refine Zx<|Ap Y (fun k6=>?_) (fun k6=>?_);·
  exact absurd h8 k6
 refine B4<|Zq<|A3<|AH Y<|AP<|Zb [5,2,3] ?_;refine Ay (e0:=[(5,_)]) (fun m e H=>∃(i:Nat),m=x.a.ranges.length -i/\(i<=x.a.ranges.length)/\e=[(5,I0 (i:Int))]/\H=[]) (by exact ⟨0,V,C7 _,V,V⟩) Wp ?_;rintro _ _ _ ⟨i,rfl,hi,rfl,rfl⟩;refine B7 Y<|Zh 13 HF V rfl J0 Y<|Zl Ly Y ?_;refine Zv (AR N2 Y)<|Zv (Ar Y Y)<|A5<|Ap Y (fun I=>?_) (fun I=>?_);·
  obtain ⟨c,hc⟩:∃c,x.a.ranges[i]?=some c:=⟨_,BE A0⟩;have B:y.a.ranges[i]?=some c:=by rw [<-h6];exact hc
  obtain ⟨z1,ic,ek,g1,cu,Z,T1,j5,O,J,gq,X⟩:=pX hx.2.1 hc;obtain ⟨z2,j3,gm,g2,cO,af,T2,kv,U,K,gy,G⟩:=pX hy.2.1 B;rw [O,U];refine B4<|Zq<|AP<|Zq<|Aw (n:=12) (0::1::0::7::15::0::32::0::224::480::1023::2047::[]) 1024 AD AD V<|A1 0 V (AB (off:=13) HF V rfl J0 Y)<|Bk 1 V Ly Y ?_;refine A1 2 V (AQ Y)<|A1 3 V (AZ N2 Lo Y Y A0)<|CS (D':=31) 4 V rfl V (Eg Wo (J)) (AA (cs:=#[_,_,_,_,_,_,_,_,_]) dc Lo Y A0 X) ?_;refine A1 5 V (AB (off:=13) HF V rfl J0 Y)<|Bk 6 V Ly Y ?_;refine A1 7 V (AQ Y)<|A1 8 V (AZ N2 Lo Y Y A0)<|CS (D':=1023) 9 V rfl V (Eg Wo (K)) (AA (cs:=#[_,_,_,_,_,_,_,_,_]) dc Lo Y A0 G) ?_;refine Yw 10 2047 V (Zu [_,_] Y call56 Y V (qQ ek.rp gm.rp)) ?_;rintro _ _ ⟨rfl,rfl⟩;rw [DO (ic.trans j3.symm)];refine A1 11 V (BI Y)<|Ao<|Zn [2,3,5,6] ?_;refine Zx<|AN Y<|Zv (Bh Y)<|A5<|AY Y (fun k7=>by cases k7)<|fun k7=>AC<|A9<|Zx<|Zg<|Zm Y<|Ya (n:=1) Y Y<|B1 Y<|HB (by exact ⟨i+1,V,by omega,V,V⟩)
 refine BB<|Zt<|Zt<|AV<|Zx<|Zq<|A3<|AH Y<|AP<|Zb [7,2,3] ?_;refine Ay (e0:=[(7,_)]) (fun m e H=>∃(i:Nat),m=x.a.recs.length -i/\(i<=x.a.recs.length)/\e=[(7,I0 (i:Int))]/\H=[]) (by exact ⟨0,V,C7 _,V,V⟩) Wp ?_;rintro _ _ _ ⟨i,rfl,hi,rfl,rfl⟩;refine B7 Y<|Zh 14 HF V rfl N4 Y<|Zl SU Y ?_;refine Zv (AR HA Y)<|Zv (Ar Y Y)<|A5<|Ap Y (fun I=>?_) (fun I=>?_);·
  obtain ⟨r1,ax⟩:∃r,x.a.recs[i]?=some r:=⟨_,BE A0⟩;obtain ⟨r2,bn⟩:∃r,y.a.recs[i]?=some r:=⟨_,BE A0⟩;obtain ⟨ep,ec⟩:=kJ h7 ax bn;obtain ⟨d9,g1,cu,Z,T1,j5,O,J,gq,X⟩:=Wv hx.2.2 ax;obtain ⟨B,g2,cO,af,T2,kv,U,K,gy,G⟩:=Wv hy.2.2 bn;rw [O,U];rw [<-ep,<-ec]at G;rw [<-ec]at B;refine B4<|Zq<|AP<|Zq<|Aw (n:=12) (0::1::0::7::15::0::32::0::224::480::1023::2047::[]) 1024 AD AD V<|A1 0 V (AB (off:=14) HF V rfl N4 Y)<|Bk 1 V SU Y ?_;refine A1 2 V (AQ Y)<|A1 3 V (AZ HA Fi Y Y A0)<|CS (D':=31) 4 V rfl V (Eg Wo (J)) (AA (cs:=#[_,_]) Hh Fi Y A0 X) ?_;refine A1 5 V (AB (off:=14) HF V rfl N4 Y)<|Bk 6 V SU Y ?_;refine A1 7 V (AQ Y)<|A1 8 V (AZ HA Fi Y Y A0)<|CS (D':=1023) 9 V rfl V (Eg Wo (K)) (AA (cs:=#[_,_]) Hh Fi Y A0 G) ?_;refine Yw 10 2047 V (Zu [_,_] Y call57 Y V (tr d9 B))<|F1<|A1 11 V (BI Y)<|Ao<|Zn [2,3,7,8] ?_;refine Zx<|AN Y<|Zv (Bh Y)<|A5<|AY Y (fun k8=>by cases k8)<|fun k8=>AC<|A9<|Zx<|Zg<|Zm Y<|Ya (n:=1) Y Y<|B1 Y<|HB (by exact ⟨i+1,V,by omega,V,V⟩)
 refine BB<|Zt<|Zt<|AV<|CD<|Zh 7 HF V rfl C3 Y<|Zo Wh (AA (cs:=#[_,_,_]) E3 C3 Y B9 (by exact (by apply HW.1;rfl))) ?_;refine Zh 7 HF V rfl C3 Y<|Zo Wh (AA (cs:=#[_,_,_]) E3 C3 Y B9 (by exact (by apply HW.1;rfl))) ?_;refine Xr [_,_] Y call58 Y V (tm hx.1 hy.1) ?_;rw [DO h5];refine Ax Y<|AX V results14 Y (by exact ⟨V,V⟩)
def Kn(l:List BJ)(q:QM)(base P:Nat):Prop:=∃st,FX q (base:Int) 0 (Cf (BP (l.take base)) q,(base:Int)) (GJ l base P)=some st
variable{l:List BJ}
theorem kV{a b:Nat}(h:b<=a):GJ l a b=[]:=by unfold GJ;rw [show b -a=0 by omega,MT]
variable{q:QM}{P base:Nat}
theorem tJ(h:P<=base):Kn l q base P:=⟨(Cf (BP (l.take base)) q,(base:Int)),by rw [kV h];rfl⟩
variable{r:BJ}
theorem dh{a b:Nat}(m:l[b]?=some r)(h:a<=b):GJ l a (b+1)=GJ l a b++[r]:=by
 unfold GJ;rw [show b+1 -a=(b -a)+1 by omega];exact Bq (by rw [S2,show a+(b -a)=b by omega];exact m)
theorem jD(K:L9 l)(U:base<=P)(G:l[P]?=some r):Kn l q base (P+1)↔∃st,FX q (base:Int) 0 (Cf (BP (l.take base)) q,(base:Int)) (GJ l base P)=some st/\(Be q st.1 r.cs).2.2=true:=by
 have X:=(C6.1 G).1;have I:=(K.ok P r G).1.pos
 have O:=K.len;have B:=kW (l:=l) (a:=base) (b:=P) A0
 unfold Kn;rw [dh G U,LU];cases h:FX q (base:Int) 0 (Cf (BP (l.take base)) q,(base:Int)) (GJ l base P)with
 |none=>
  constructor;· rintro ⟨st,m⟩;cases m
  · rintro ⟨st,m,_⟩;cases m
 |some st=>
  rw [Lk];unfold FX;rw [DP,B];constructor
  · rintro ⟨J,m⟩
    split at m
    · rename_i h2;exact ⟨st,rfl,h2.1⟩
    · cases m
  · rintro ⟨J,m,h2⟩
    injection m with m
    subst m;rw [B0 ⟨h2,by omega,by rw [I];omega⟩];exact ⟨_,V⟩
theorem jb{W W':List BJ}(h:Iy W W' r)(B:W.length=min P 64):W'.length=min (P+1) 64:=by
 rcases h with⟨rfl,m⟩|⟨rfl,m⟩
 · rw [C2,G0];omega
 · rw [D0,C2,G0];omega
structure NrI(l:List BJ)(P:Nat)(q:QM)(base:Nat)(dn:Prop)(c:CZ):Prop where
 t:Mm l P 1 19 500 c
 wl:c.win.length=P
 no:¬dn->c.its=[]/\c.next=0
 yes:dn->(Kn l q base P/\∃y,c.its=[y]/\y.q=q/\y.base=(base:Int))\/(¬Kn l q base P/\c.its=[])
variable{dn:Prop}{c:CZ}
theorem NrI.congr{m:Prop}(h:NrI l P q base dn c)(e:dn↔m):NrI l P q base m c:=⟨h.t,h.wl,fun B=>h.no fun G=>B (e.1 G),fun B=>h.yes (e.2 B)⟩
variable{n:Nat}
theorem NrI.put{d:CZ}(h:NrI l P q base False c)(hn:1+(n:Int)<=19){b:Bool}(K:I7 l P d)(J:c.like d)(nx:d.next<=c.next+1)(I:oH l P c d q ((0:Nat):Int) base n b):NrI l P q base True d:=by
 obtain ⟨hi,hx⟩:=h.no id;have h0:Mm l P 0 19 500 c:=⟨h.t.law,by rw [hi];exact C7 _,by rw [hx];exact cT _,h.t.sz,h.t.cap,h.t.ns⟩
 have O:=h0.put K J nx I hn;refine ⟨O,by rw [J.win];exact h.wl,fun m=>absurd trivial m,fun _=>?_⟩;have B:Reach l P c q base↔Kn l q base P:=⟨fun m=>m.2,fun m=>⟨by rw [h.wl];omega,m⟩⟩
 rcases I with⟨_,rfl,G⟩|⟨_,G,_,⟨_,x,hx9,_⟩|⟨_,y,e,e1,e2,_⟩⟩
 · exact .inr ⟨fun m=>G (B.2 m),hi⟩
 · rw [hi]at hx9;cases hx9
 · exact .inl ⟨B.1 G,y,by rw [e,hi];rfl,e1,e2⟩
theorem NrI.apply(hB:L9 l){d:CZ}(h:NrI l P q base dn c)(hP:P<63)(hr:l[P]?=some r)(LD:I7 l (P+1) d){q2:B8}{cap2:Nat}{zs:List C4}(U:GH c d r.p r.cs q2 cap2 zs):NrI l (P+1) q base dn d:=by
 have af:=(h.t.law.next hB hr).2;rw [h.t.law.pos]at af;have I:c.its=[]->d.its=[]:=fun hi=>mu.2 fun y hy=>by
  obtain ⟨_,x,hx,_⟩:=U.i1 y hy;rw [hi]at hx;cases hx
 refine ⟨h.t.apply LD U,?_,fun h9=>⟨I (h.no h9).1,by rw [U.next];exact (h.no h9).2⟩,fun h9=>?_⟩
 · have:=jb U.win (P:=P) (by rw [h.wl];omega)
   omega
 · rcases h.yes h9 with⟨hk,y,hi,hq,hb⟩|⟨hk,hi⟩
   · have hy:y∈c.its:=by rw [hi];simp
     obtain ⟨a9,e1,e2,_,e4,_⟩:=h.t.law.at hB hy;obtain rfl:a9=base:=by omega
     have O:(U8 r.cs y->y.base<r.p->(Be y.q y.res r.cs).2.2=true)->∃y2,d.its=[y2]/\y2.q=q/\y2.base=(a9:Int):=fun hs=>by
      obtain ⟨y2,cO,hc⟩:=U.i2 y hy (by rw [hb];omega) hs;have B:∀w∈d.its,w=y2:=fun w hw=>by
       obtain ⟨_,x,hx,ax,_⟩:=U.i1 w hw;rw [hi]at hx;rw [CH.1 hx]at ax;exact Ga U.ok.its.keys hw cO ((IU ax).trans (IU hc).symm)
      refine ⟨y2,?_,(H5 hc).2.2.1.trans hq,(H5 hc).2.2.2.2.1.trans hb⟩;have hl:=U.ok.its.keys
      match hE:d.its,cO,hl with
      |[w],_,_=>rw [B w (by rw [hE];simp)]
      |w::w2::L,_,hl=>
       have m:=B w (by rw [hE];simp);have g2:=B w2 (by rw [hE];simp)
       rw [m,g2]at hl;simp at hl
     by_cases X:a9<=P
     · obtain ⟨_,_,_,K⟩:=e4 X
       rw [hq]at K;have cu:=jD hB (q:=q) X hr
       by_cases J:(Be q y.res r.cs).2.2=true
       · exact .inl ⟨cu.2 ⟨_,K,J⟩,O fun _ _=>by rw [hq];exact J⟩
       · refine .inr ⟨fun h8=>?_,mu.2 fun w hw=>?_⟩
         · obtain ⟨st,m,g2⟩:=cu.1 h8
           rw [K]at m;injection m with m
           subst m;exact J g2
         · obtain ⟨_,x,hx,_,G⟩:=U.i1 w hw
           rw [hi]at hx;rw [CH.1 hx]at G;have bn:∀ch∈r.cs,ch.ok:=fun ch d9=>by
            obtain ⟨i,ek⟩:=HK d9;exact (hB.ok P r hr).1.ok.all i ch ek
           rcases G with⟨m,_⟩|⟨_,m,_⟩
           · refine J ?_
             have Z:¬r.cs.any (Dj q)=true:=fun g2=>m ⟨by unfold U8;rw [hq];exact (NL bn).1 g2,by rw [hb,af];omega⟩;rw [Ql Z]
           · rw [hq]at m;exact J m
     · exact .inl ⟨tJ A0,O fun _ g2=>by rw [hb,af]at g2;omega⟩
   · refine .inr ⟨fun h8=>hk ?_,I hi⟩
     by_cases X:base<=P
     · obtain ⟨st,m,_⟩:=(jD hB X hr).1 h8
       exact ⟨st,m⟩
     · exact tJ A0
structure NrA(l:List BJ)(q:QM)(base:Nat)(z:Nw):Prop where
 eq:z.a.q=q
 until_:z.a.until_=(l.length:Int)
 eb:z.a.base=(base:Int)
 ranges:z.a.ranges=EY (BP (l.take base)) q
 run:FX q (base:Int) 0 (Cf (BP (l.take base)) q,(base:Int)) (GJ l base l.length)=some (z.a.res,z.a.since)
 recs:z.a.recs.map BJ.pc=(GJ l base l.length).map BJ.pc
theorem NrA.same{x y:Nw}(h:NrA l q base x)(k:NrA l q base y):x.a.eqv y.a:=by
 have e:=h.run;rw [k.run]at e;injection e with e
 injection e with e1 e2
 exact ⟨h.eq.trans k.eq.symm,e2.symm,h.until_.trans k.until_.symm,h.eb.trans k.eb.symm,e1.symm,h.ranges.trans k.ranges.symm,h.recs.trans k.recs.symm⟩
def w8(a b:A8):Prop:=a=b\/∃g cur cur' T z,a=(g,Obj.cells cur T z)/\b=(g,Obj.cells cur' T z)/\cur'.size=cur.size/\∀(i:Nat) (v:A2),cur[i]?=some v->cur'[i]?=some v\/(∃n m,v=I0 n/\cur'[i]?=some (I0 m))\/∃x y,v= .string x/\cur'[i]?=some (.string y)
def Dw(s s':List A8):Prop:=s.length=s'.length/\∀(i:Nat) (a b:A8),s[i]?=some a->s'[i]?=some b->w8 a b
theorem Dw.refl(s:List A8):Dw s s:=⟨rfl,fun i a b m h2=> .inl (by rw [m]at h2;injection h2)⟩
variable{s' s:List A8}{g:Nat}{cur:AM}{T:AK}{z:Nat×Nat}
theorem Dw.get(h:Dw s s')(J:(g,Obj.cells cur T z)∈s):∃B,(g,Obj.cells B T z)∈s'/\B.size=cur.size/\∀(i:Nat) (v:A2),cur[i]?=some v->B[i]?=some v\/(∃n m,v=I0 n/\B[i]?=some (I0 m))\/∃x y,v= .string x/\B[i]?=some (.string y):=by
 obtain ⟨i,hi⟩:=HK J;have I:=(C6.1 hi).1
 obtain ⟨b,G⟩:∃b,s'[i]?=some b:=⟨_,BE (by have:=h.1;omega)⟩;rcases h.2 i _ b hi G with e|⟨g1,c1,c2,T1,z1,e1,e2,e3,e4⟩
 · exact ⟨cur,by rw [e];exact E7 G,rfl,fun i v hv=> .inl hv⟩
 · injection e1 with e5 e6
   injection e6 with e6 e7 e8
   subst e5 e6 e7 e8;exact ⟨c2,by rw [<-e2];exact E7 G,e3,e4⟩
theorem Dw.free(h:Dw s s')(B:CX s):CX s':=fun c hc cur T z e=>by
 obtain ⟨i,hi⟩:=HK hc;have I:=(C6.1 hi).1
 obtain ⟨a,m⟩:∃a,s[i]?=some a:=⟨_,BE (by have:=h.1;omega)⟩;rcases h.2 i a c m hi with rfl|⟨g1,c1,c2,T1,z1,e1,e2,e3,_⟩
 · exact B _ (E7 m) cur T z e
 · have G:=B _ (E7 m) c1 T1 z1 (by rw [e1])
   rw [e2]at e;injection e with e4 e5 e6
   rw [<-e4,<-e6,e3];exact G
variable{v:A2}
theorem Dw.set{p q:List A8}(h:Dw s (p++(g,Obj.cells cur T z)::q)){w:A2}(hi:cur[i]?=some v)(hv:(∃n m,v=I0 n/\w=I0 m)\/∃x y,v= .string x/\w= .string y):Dw s (p++(g,Obj.cells (cur.setIfInBounds i w) T z)::q):=by
 have X:∀c,(p++c::q).length=p.length+1+q.length:=fun c=>by simp;omega
 refine ⟨by rw [h.1,X,X],fun j a b U O=>?_⟩;by_cases Z:j=p.length
 · subst Z
   rw [PF (CT _),W1]at O;injection O with O
   subst O;have K:=h.2 p.length a _ U (by rw [PF (CT _),W1];rfl)
   have J:∀k u,cur[k]?=some u->(cur.setIfInBounds i w)[k]?=some (if i=k then w else u):=fun k u I=>by
    have:=(Hj.1 I).1;rw [fp];by_cases e:i=k;· rw [B0 e,B0 e,B0 A0]
    · rw [As e,As e,I]
   rcases K with rfl|⟨g1,c1,c2,T1,z1,e1,e2,e3,e4⟩
   · refine .inr ⟨g,cur,_,T,z,rfl,rfl,by simp,fun k u I=>?_⟩
     have G:=J k u I;by_cases e:i=k
     · subst e
       rw [hi]at I;injection I with I;subst I
       rw [B0 rfl]at G;rcases hv with⟨n,m,rfl,rfl⟩|⟨x,y,rfl,rfl⟩
       · exact .inr (.inl ⟨n,m,rfl,G⟩)
       · exact .inr (.inr ⟨x,y,rfl,G⟩)
     · rw [As e]at G;exact .inl G
   · injection e2 with e5 e6
     injection e6 with e6 e7 e8
     subst e5 e6 e7 e8;refine .inr ⟨g,c1,_,T,z,e1,V,by simpa using e3,fun k u I=>?_⟩;by_cases e:i=k
     · subst e
       have G:=J i v hi;rw [B0 rfl]at G;rcases e4 i u I with B|⟨n0,m0,rfl,B⟩|⟨x0,y0,rfl,B⟩<;>(rw [hi]at B;injection B with B;subst B)
       · rcases hv with⟨n,m,rfl,rfl⟩|⟨x,y,rfl,rfl⟩
         · exact .inr (.inl ⟨n,m,rfl,G⟩)
         · exact .inr (.inr ⟨x,y,rfl,G⟩)
       · rcases hv with⟨n,m,B,rfl⟩|⟨x,y,B,rfl⟩
         · exact .inr (.inl ⟨n0,m,rfl,G⟩)
         · cases B
       · rcases hv with⟨n,m,B,rfl⟩|⟨x,y,B,rfl⟩
         · cases B
         · exact .inr (.inr ⟨x0,y,rfl,G⟩)
     · rcases e4 k u I with B|⟨n0,m0,rfl,B⟩|⟨x0,y0,rfl,B⟩<;>(have G:=J k _ B;rw [As e]at G)
       · exact .inl G
       · exact .inr (.inl ⟨n0,m0,rfl,G⟩)
       · exact .inr (.inr ⟨x0,y0,rfl,G⟩)
 · refine h.2 j a b U ?_
   rw [<-O];rcases Ft j p.length with K|K
   · rw [Ys K,Ys K]
   · obtain ⟨k,rfl⟩:∃k,j=p.length+(k+1):=⟨j -p.length -1,by omega⟩
     rw [PF K,PF K,pH];rfl
theorem U0{B:AM}(h:B[i]?=some v\/(∃n m,v=I0 n/\B[i]?=some (I0 m))\/∃x y,v= .string x/\B[i]?=some (.string y))(hv:(∀n,v≠I0 n)/\∀x,v≠ .string x):B[i]?=some v:=by
 rcases h with h|⟨n,m,e,_⟩|⟨x,y,e,_⟩
 · exact h
 · exact absurd e (hv.1 n)
 · exact absurd e (hv.2 x)
theorem QC{B:AM}{n:Int}(h:B[i]?=some (I0 n)\/(∃G m,(I0 n:A2)=I0 G/\B[i]?=some (I0 m))\/∃x y,(I0 n:A2)= .string x/\B[i]?=some (.string y)):∃m,B[i]?=some (I0 m):=by
 rcases h with h|⟨G,m,_,h⟩|⟨x,y,e,_⟩
 · exact ⟨n,h⟩
 · exact ⟨m,h⟩
 · cases e
theorem Dw.chg(K:Dw s s')(hv:CE s (.slice p n cap) cs){c:Chg}(hc:cs[i]?=some c):∃g off m T zz,p=some ⟨g,off,none⟩/\(g,Obj.cells m T zz)∈s'/\off+i*10+10<=m.size/\∃k,m[off+i*10+1]?=some (I0 k):=by
 obtain ⟨p9,J,e,_,O⟩:=hv;injection e with e1 _ _
 subst e1;obtain ⟨g,off,cur,T,zz,rfl,U,Z,G⟩:=O i c hc;obtain ⟨m,I,X,B⟩:=K.get U;exact ⟨g,off,m,T,zz,V,I,by omega,QC (B _ _ (Jn (j:=1) G V))⟩
theorem Dw.rec(O:Dw s s')(hv:EQ s (.slice p n cap) l)(Z:l[i]?=some r):CE s (.slice r.q r.cs.length r.cap) r.cs/\∃g off m T zz,p=some ⟨g,off,none⟩/\(g,Obj.cells m T zz)∈s'/\off+i*2+2<=m.size/\m[off+i*2+1]?=some (.slice r.q r.cs.length r.cap):=by
 obtain ⟨p9,J,e,_,U⟩:=hv;injection e with e1 _ _
 subst e1;obtain ⟨K,g,off,cur,T,zz,rfl,X,ax,G⟩:=U i r Z;obtain ⟨m,I,af,B⟩:=O.get X;exact ⟨K,g,off,m,T,zz,V,I,by omega,U0 (B _ _ (Jn (j:=1) G V)) ⟨fun _ h=>(by cases h),fun _ h=>(by cases h)⟩⟩
theorem Dw.row(K:Dw s s'){l:List AU}(hv:DV s (.slice p n cap) l){r:AU}(X:l[i]?=some r):∃g off m T zz,p=some ⟨g,off,none⟩/\(g,Obj.cells m T zz)∈s'/\off+i*5+5<=m.size/\∃k,m[off+i*5+1]?=some (I0 k):=by
 obtain ⟨p9,J,e,_,O⟩:=hv;injection e with e1 _ _
 subst e1;obtain ⟨g,off,cur,T,zz,rfl,U,af,G⟩:=O i r X;obtain ⟨m,I,Z,B⟩:=K.get U;exact ⟨g,off,m,T,zz,V,I,by omega,QC (B _ _ (Jn (j:=1) G V))⟩
theorem Dw.rng(O:Dw s s'){Z:List RPZ}(hv:ZsU s (.slice p n cap) Z){z:RPZ}(hz:Z[i]?=some z):EM s (.slice z.qt z.x.roots.length z.ct) z.x.roots/\∃g off m T zz,p=some ⟨g,off,none⟩/\(g,Obj.cells m T zz)∈s'/\off+i*9+9<=m.size/\(∃k,m[off+i*9+4]?=some (I0 k))/\m[off+i*9+8]?=some (.slice z.qt z.x.roots.length z.ct):=by
 obtain ⟨p9,K,e,_,U⟩:=hv;injection e with e1 _ _
 subst e1;obtain ⟨J,g,off,cur,T,zz,rfl,X,ax,G⟩:=U i z hz;obtain ⟨m,I,af,B⟩:=O.get X;exact ⟨J.2.2,g,off,m,T,zz,V,I,by omega,QC (B _ _ (Jn (j:=4) G V)),U0 (B _ _ (Jn (j:=8) G V)) ⟨fun _ h=>(by cases h),fun _ h=>(by cases h)⟩⟩
theorem Dw.root(K:Dw s s'){l:List Bs}(hv:EM s (.slice p n cap) l){x:Bs}(hx:l[i]?=some x):∃g off m T zz,p=some ⟨g,off,none⟩/\(g,Obj.cells m T zz)∈s'/\∃y,m[off+i]?=some (.string y):=by
 obtain ⟨Z,J,e,_,O⟩:=hv;injection e with e1 _ _
 subst e1;obtain ⟨g,off,cur,T,zz,rfl,U,G⟩:=O i x hx;obtain ⟨m,I,X,B⟩:=K.get U;refine ⟨g,off,m,T,zz,V,I,?_⟩;rcases B _ _ G with h|⟨_,_,e,_⟩|⟨_,y,_,h⟩
 · exact ⟨_,h⟩
 · cases e
 · exact ⟨y,h⟩
theorem u5(p:Int):Az prog 18 #[.pointer none,I0 p] [] undef:=by
 refine Se func18 ntmps18 [0,1] ?_;intro u R;refine B7 Y<|Zv (DD Iv Y Y)<|Zm Y<|Ab (t:=8) Y V (fun m=>?_) (fun m=>?_);·
  refine AG<|C5<|BT Y Y<|A5<|Cg Y<|AJ<|Zt<|D6 V results18 (by exact ⟨V,V⟩)
 cases m
theorem rm:Az prog 21 #[.pointer none] [] (I0 0):=by
 refine Se func21 ntmps21 [0] ?_;intro u R;refine A3<|AH Y<|B7 Y<|Zv (DD Iv Y Y)<|A5<|AY Y (fun m=>?_) (fun m=>?_);·
  refine A3<|Ax Y<|Zt<|AX V results21 Y (by exact ⟨V,V⟩)
 cases m
theorem zI:Az prog 22 #[.pointer none] [] (.slice none 0 0):=by
 refine Se func22 ntmps22 [0] ?_;intro u R;refine A3<|AH Y<|B7 Y<|Zv (DD Iv Y Y)<|A5<|AY Y (fun m=>?_) (fun m=>?_);·
  refine A3<|Ax Y<|Zt<|AX V results22 Y (by exact ⟨V,V⟩)
 cases m
theorem zH(t:Int):Az prog 23 #[.pointer none,I0 t] [] (I0 0):=by
 refine Se func23 ntmps23 [0,1] ?_;intro u R;refine A3<|AH Y<|B7 Y<|Zv (DD Iv Y Y)<|A5<|AY Y (fun m=>?_) (fun m=>?_);·
  refine A3<|Ax Y<|Zt<|AX V results23 Y (by exact ⟨V,V⟩)
 cases m
theorem iy:Az prog 24 #[.pointer none] [] (.slice none 0 0):=by
 refine Se func24 ntmps24 [0] ?_;intro u R;refine A3<|AH Y<|B7 Y<|Zv (DD Iv Y Y)<|A5<|AY Y (fun m=>?_) (fun m=>?_);·
  refine A3<|Ax Y<|Zt<|AX V results24 Y (by exact ⟨V,V⟩)
 cases m
theorem ru(K:C4):Az prog 19 #[.pointer none,.string K] [] (.bool false):=by
 refine Se func19 ntmps19 [0,1] ?_;intro u R;refine A3<|AH Y<|AN Y<|Zv (Jl Iv Y Y)<|Zm Y<|Ab (t:=7) Y V (fun m=>by cases m)<|fun m=>AG<|AG<|AG<|BW Y Y<|Ax Y<|AX V results19 Y (by exact ⟨V,V⟩)
theorem zJ(K:C4):Az prog 20 #[.pointer none,.string K] [] (.bool false):=by
 refine Se func20 ntmps20 [0,1] ?_;intro u R;refine A3<|AH Y<|B7 Y<|Zv (DD Iv Y Y)<|A5<|AY Y (fun m=>?_) (fun m=>?_);·
  refine A3<|Ax Y<|Zt<|AX V results20 Y (by exact ⟨V,V⟩)
 cases m
theorem sF(K:C4):Az prog 13 #[.pointer none,.string K] [] (.tuple #[.agg #[I0 0,I0 0,I0 0,I0 0,I0 0,I0 0,I0 0,I0 0,I0 0,.slice none 0 0],.bool false]):=by
 refine Se func13 ntmps13 [0,1] ?_;intro u R;refine A3<|Ze (Dm ON (cs:=#[I0 0,I0 0,I0 0,I0 0,I0 0,I0 0,I0 0,I0 0,I0 0,.slice none 0 0]) AD)<|AF fun B=>AH Y<|B7 Y<|Zv (DD Iv Y Y)<|Zm Y<|Ab (t:=8) Y V (fun m=>?_) (fun m=>?_);·
  refine AG<|AG<|AG<|C5<|BT Y Y<|Z0<|Zn [0,1,4,16] ?_;refine Zx<|Cg Y<|A3<|Zv (BM (vs:=[]) (cs:=#[_,_,_,_,_,_,_,_,_,_]) Y (Aa (pl:=#[(0,7),(7,1),(8,1),(9,1)]) ON G4 (fun _=>by kernel_rfl) rfl))<|Xe (BF G2 Y Y HT Wu (by exact D9 rfl) Fm Wn (by exact BA _)) ?_;refine Ax Y<|Zt<|CP V results13 Y Wh (Av LN G2 Wn (Au V)) Y (by exact ⟨V,V⟩)
 cases m
theorem yy(K:C4):Az prog 12 #[.pointer none,.string K] [] (.tuple #[.agg #[I0 0,I0 0,I0 0,I0 0,I0 0,I0 0,I0 0,.slice none 0 0,I0 0,.bool false,I0 0,I0 0,I0 0,.slice none 0 0,.slice none 0 0],.bool false]):=by
 refine Se func12 ntmps12 [0,1] ?_;intro u R;refine A3<|Ze (Dm L7 (cs:=#[I0 0,I0 0,I0 0,I0 0,I0 0,I0 0,I0 0,.slice none 0 0,I0 0,.bool false,I0 0,I0 0,I0 0,.slice none 0 0,.slice none 0 0]) AD)<|AF fun G=>AH Y<|AN Y<|Zm Y<|Xr [_,_] Y call13 Y V (sF K) ?_;refine Zm Y<|Zd Y V<|Zd Y V<|Ze (Dm ON (cs:=#[I0 0,I0 0,I0 0,I0 0,I0 0,I0 0,I0 0,I0 0,I0 0,.slice none 0 0]) AD)<|AF fun B=>Xe (Xw G2 #[I0 0,I0 0,I0 0,I0 0,I0 0,I0 0,I0 0,I0 0,I0 0,.slice none 0 0]) ?_;refine D2 Y<|Zq<|Aw (n:=11) (0::1::3::7::15::7::39::103::231::511::1023::[]) 0 AD AD V<|A1 0 V (AQ Y)<|A1 1 V (Bh Y)<|A1 2 V (AQ Y)<|Cb (t:=21) Y (fun m=>?_) (fun m=>?_);·
  rw [m];refine AW 3 V<|AW 4 V<|AW 5 V<|AW 6 V<|AW 7 V<|AW 8 V<|AW 9 V<|A1 10 V (AL Y Y)<|Ao<|Zn [0,4,6,29] ?_;refine Zx<|Cg Y<|A3<|Zv (BM (vs:=[]) (cs:=#[_,_,_,_,_,_,_,_,_,_,_,_,_,_,_]) Y (Aa (pl:=#[(0,7),(7,3),(10,1),(11,1),(12,1),(13,1),(14,1)]) L7 HF (fun _=>by kernel_rfl) rfl))<|Xe (BF ID Y Y HT Wu (by exact D9 rfl) Fm Wn (by exact BA _)) ?_;refine Ax Y<|Zt<|CP V results12 Y Wh (Av Xs ID Wn (Au V)) Y (by exact ⟨V,V⟩)
 rw [m];cases m
theorem ua(p:Int)(B:B8)(n cap:Nat):Az prog 11 #[.pointer none,.agg #[I0 p,.slice B n cap]] [] (.tuple #[.slice none 0 0,I0 1]):=by
 refine Ct func11 V ntmps11 V ?_;intro u R;refine Zb [0,1] ?_;refine A3<|Ze (Bx #[_])<|AF fun G=>Ze (Bx #[I0 p,.slice B n cap])<|AF fun I=>Za Y<|D2 Y<|AP<|A3<|Zl Lz Y ?_;refine Zv (DD Iv Y Y)<|AH Y<|AY Y (fun m=>?_) (fun m=>?_);·
  refine A3<|Za Y<|Ax Y<|Ag<|Zt<|K8 V (dD results11 Y Y) (by exact ⟨V,V⟩)
 cases m
theorem rj(q:QM)(te base:Int)(G:B8)(n B:Nat):Az prog 10 #[.pointer none,.agg #[I0 q.kd,I0 q.tb,I0 q.cl,I0 q.lo,I0 q.hi,I0 q.bq,I0 q.ot,I0 te,I0 base,.slice G n B]] [] (.bool false):=by
 refine Se func10 ntmps10 [0,1] ?_;intro u R;refine A3<|Ze (Bx #[I0 q.kd,I0 q.tb,I0 q.cl,I0 q.lo,I0 q.hi,I0 q.bq,I0 q.ot,I0 te,I0 base,.slice G n B])<|AF fun I=>AH Y<|B7 Y<|Zv (DD Iv Y Y)<|A5<|AY Y (fun m=>?_) (fun m=>?_);·
  refine A3<|Ax Y<|Zt<|AX V fk Y (by exact ⟨V,V⟩)
 cases m
theorem oZ{p q:List A8}{o o':Obj}(hn:((p++(g,o)::q).map (·.1)).Nodup):Fe g o' (p++(g,o)::q)=p++(g,o')::q:=by
 have G:∀l:List A8,(∀c∈l,c.1≠g)->Fe g o' l=l:=fun l h=>by
  unfold Fe;conv=>rhs;rw [<-List.map_id l]
  exact W6 fun c hc=>by rw [As (h c hc)];rfl
 rw [CN,F2,HN]at hn;obtain ⟨_,h2,I⟩:=hn;rw [JT]at h2;have e:Fe g o' (p++(g,o)::q)=Fe g o' p++(g,o')::Fe g o' q:=by
  unfold Fe;rw [CN,F2,B0 rfl]
 rw [e,G p fun c hc m=>I c.1 (Ek hc) g B6 m,G q fun c hc m=>h2.1 (by have B:=Ek (f:=fun x:A8=>x.1) hc;rw [m]at B;exact B)]
theorem Dw.upd(h:Dw s s')(hn:(s'.map (·.1)).Nodup)(B:(g,Obj.cells cur T z)∈s'){w:A2}(hi:cur[i]?=some v)(hv:(∃n m,v=I0 n/\w=I0 m)\/∃x y,v= .string x/\w= .string y):Dw s (Fe g (.cells (cur.setIfInBounds i w) T z) s')/\((Fe g (.cells (cur.setIfInBounds i w) T z) s').map (·.1)).Nodup:=by
 refine ⟨?_,by rw [Uk];exact hn⟩;obtain ⟨p,q,rfl⟩:=cP B;rw [oZ hn];exact h.set hi hv
def Xk:Nw:=⟨⟨⟨0,0,0,0,0,0,0⟩,⟨[],0,false⟩,0,0,0,[],[]⟩,none,0,none,0,none,0⟩
theorem oI(s:List A8):Xk.ok s:=⟨⟨none,0,rfl,⟨C7 _,CT _⟩,fun i x h=>by simp [Xk]at h⟩,⟨[],⟨none,0,rfl,⟨C7 _,CT _⟩,fun i x h=>by simp at h⟩,rfl⟩,⟨none,0,rfl,⟨C7 _,CT _⟩,fun i x h=>by simp [Xk]at h⟩⟩
theorem X5(O:L9 l)(cu:BG q)(h:NrI l l.length q 0 True c):BQ prog 12 #[.pointer (some ⟨c.cp,0,none⟩),.string (str (Cs q))] [c.mem] (fun r H'=>∃(z:Nw) (b:Bool) (s:List A8),((b=true↔Kn l q 0 l.length)/\(b=true->NrA l q 0 z))/\z.ok s/\CX s/\(∀r∈z.a.recs,0<r.cs.length)/\z.a.ranges.length<=1000000/\r= .tuple #[.agg z.A90,.bool b]/\H'=[c.mem,s]):=by
 rcases h.yes trivial with⟨X,y,hi,Z,m⟩|⟨X,hi⟩
 · have hy:y∈c.its:=by rw [hi];simp
   obtain ⟨a9,e1,e2,e3,e4,_⟩:=h.t.law.at O hy;obtain rfl:a9=0:=by omega
   obtain ⟨f0,_,_,f1⟩:=e4 (C7 _);have hg:=Z4 h.t.law.ok hy (by rw [m,h.t.law.pos];omega)
   rw [show y.key=str (Cs q) by unfold ItM.key;rw [Z]]at hg;refine hg.mono ?_;rintro r H' ⟨z,l9,s,hz,G,bn,hF,rfl,rfl⟩;rw [Z]at e3 f1;rw [h.t.law.pos,m,M5 h.t.law.win (C7 _) f0]at G;have I:z.a.recs.map BJ.pc=(GJ l 0 l.length).map BJ.pc:=by rw [hz];exact G
   have J:z.a.ranges=EY (BP (l.take 0)) q:=by rw [hz];exact e3
   refine ⟨z,true,s,⟨⟨fun _=>X,fun _=>rfl⟩,fun _=>⟨by rw [hz];exact Z,by rw [hz];exact h.t.law.pos,by rw [hz];exact m,J,by rw [hz];exact f1,I⟩⟩,bn,hF,fun r hr=>?_,?_,rfl,rfl⟩
   · have h1:r.pc∈z.a.recs.map BJ.pc:=Ek hr
     rw [I]at h1;obtain ⟨r2,af,e9⟩:=CM.1 h1;have ax:r2∈l:=MD (R0 af)
     obtain ⟨i,U⟩:=HK ax;have h8:=(O.ok i r2 U).1.ok.len.1
     have e8:r2.cs=r.cs:=congrArg Prod.snd e9;rw [<-e8];exact h8
   · rw [J];have:=O.make_len (C7 l.length) q;omega
 · refine DR (xc h.t.law.ok (K:=str (Cs q)) (fun x hx=>by rw [hi]at hx;cases hx)) [] B6 ?_
   rintro r H' ⟨rfl,rfl⟩;exact ⟨_,⟨Xk,false,[],⟨⟨fun B=>(nomatch B),fun B=>absurd B X⟩,fun B=>(nomatch B)⟩,oI _,CX.nil,fun r hr=>by simp [Xk]at hr,C7 _,rfl,rfl⟩,by simp⟩
theorem kz(h:NrI l P q 0 dn c)(K:C4):BQ prog 13 #[.pointer (some ⟨c.cp,0,none⟩),.string K] [c.mem] (fun r H'=>∃(q:QM) (te base:Int) (pg:B8) (cg:Nat) (L:List RP) (b:Bool) (s:List A8),Ex s (.slice pg L.length cg) L/\CX s/\L.length<=1000000/\r= .tuple #[.agg #[I0 q.kd,I0 q.tb,I0 q.cl,I0 q.lo,I0 q.hi,I0 q.bq,I0 q.ot,I0 te,I0 base,.slice pg L.length cg],.bool b]/\H'=[c.mem,s]):=by
 by_cases hx:∃x∈c.its,x.key=K
 · obtain ⟨x,hx,rfl⟩:=hx
   refine (fK h.t.law.ok hx).mono ?_;rintro r H' ⟨O,B,s,rfl,I,G,rfl⟩;exact ⟨x.q,x.tn,x.base,O,B,x.L,true,s,I,G,(h.t.law.ok.all x hx).rl,V,V⟩
 · refine DR (mD h.t.law.ok (K:=K) (fun x m J=>hx ⟨x,m,J⟩)) [] B6 ?_
   rintro r H' ⟨rfl,rfl⟩;exact ⟨_,⟨⟨0,0,0,0,0,0,0⟩,0,0,none,0,[],false,[],⟨[],⟨none,0,V,⟨C7 _,CT _⟩,fun i x h=>by simp at h⟩,V⟩,CX.nil,C7 _,V,V⟩,by simp⟩
theorem fM(h:c.ok){p:Int}{O:B8}{I:List A8}(K:CE I (.slice O cs.length cap) cs):BQ prog 11 #[.pointer (some ⟨c.cp,0,none⟩),.agg #[I0 p,.slice O cs.length cap]] [c.mem,I] (fun r H'=>∃(tv:A2) (m s:List A8) (f:Int),(f=if Dq p cs/\p=c.pos+1 then 0 else 180)/\r= .tuple #[tv,I0 f]/\H'=[m,I,s]):=by
 by_cases B:Dq p cs
 · by_cases G:p=c.pos+1
   · refine (tQ h K B G).mono ?_
     rintro r H' ⟨d,q2,cap2,zs,tv,s,rfl,_,_,rfl⟩;exact ⟨tv,d.mem,s,0,(B0 ⟨B,G⟩).symm,V,V⟩
   · refine DR (QX h.tookb K B G) [] B6 ?_
     rintro r H' ⟨rfl,rfl⟩;exact ⟨_,⟨_,c.mem,[],180,(As fun J=>G J.2).symm,V,V⟩,by simp⟩
 · refine DR (Z8 h.tookb K B) [] B6 ?_
   rintro r H' ⟨rfl,rfl⟩;exact ⟨_,⟨_,c.mem,[],180,(As fun J=>B J.1).symm,V,V⟩,by simp⟩
theorem aU{rs:List Chg}(h:CE M (.slice p n cap) rs)(k:Nat):CE M (.slice p (rs.take k).length cap) (rs.take k):=by
 obtain ⟨I,m,e,G,B⟩:=h;injection e with e1 e2 e3
 subst e1 e3;refine ⟨_,_,rfl,by rw [Cl];omega,fun i c hc=>B i c ?_⟩;rw [HU]at hc;split at hc;· exact hc
 · cases hc
theorem Wd{L:List RP}(h:Ex M (.slice p L.length cap) L):∃Z:List RPZ,Z.length=L.length/\ZsU M (.slice p Z.length cap) Z:=by
 obtain ⟨Z,B,h2⟩:=h;have m:Z.length=L.length:=by rw [<-h2,Bm]
 exact ⟨Z,m,by rw [m];exact B⟩
theorem om{p0 p1 p2:B8}{K O U:Nat}{G I J:List RP}(h0:Ex M (.slice p0 G.length K) G)(h1:Ex M (.slice p1 I.length O) I)(h2:Ex M (.slice p2 J.length U) J){j:Nat}(hj:j<3):∃(p:B8) (c:Nat) (Z:List RPZ),(#[.slice p0 G.length K,.slice p1 I.length O,.slice p2 J.length U]:AM)[j]?=some (.slice p Z.length c)/\ZsU M (.slice p Z.length c) Z/\Z.length<=maxLen:=by
 have X:∀{p:B8} {c:Nat} {Z:List RPZ},ZsU M (.slice p Z.length c) Z->Z.length<=maxLen:=fun h=>by
  obtain ⟨_,_,_,⟨h9,_⟩,_⟩:=h;exact h9
 rcases (by omega:j=0\/j=1\/j=2)with rfl|rfl|rfl
 · obtain ⟨Z,B,m⟩:=Wd h0
   exact ⟨p0,K,Z,by rw [B];rfl,m,X m⟩
 · obtain ⟨Z,B,m⟩:=Wd h1
   exact ⟨p1,O,Z,by rw [B];rfl,m,X m⟩
 · obtain ⟨Z,B,m⟩:=Wd h2
   exact ⟨p2,U,Z,by rw [B];rfl,m,X m⟩
theorem x7(q:QM)(te base:Int)(B:B8)(n m:Nat):Az prog 16 #[.agg #[I0 q.kd,I0 q.tb,I0 q.cl,I0 q.lo,I0 q.hi,I0 q.bq,I0 q.ot,I0 te,I0 base,.slice B n m],I0 1] [] (.agg #[I0 q.kd,I0 q.tb,I0 q.cl,I0 q.lo,I0 q.hi,I0 q.bq,I0 q.ot,I0 te,I0 (-1),.slice B n m]):=by
 refine Se func16 ntmps16 [0,1] ?_;intro u R;refine A3<|Ze (Bx #[I0 q.kd,I0 q.tb,I0 q.cl,I0 q.lo,I0 q.hi,I0 q.bq,I0 q.ot,I0 te,I0 base,.slice B n m])<|AF fun J=>Ze (Dm ON (cs:=#[I0 0,I0 0,I0 0,I0 0,I0 0,I0 0,I0 0,I0 0,I0 0,.slice none 0 0]) AD)<|AF fun K=>A5<|B7 Y<|Xr [_,_] Y SZ Y V (Hu 1 5 An An An An) ?_;rw [show CL 1 5=1 from rfl];refine A5<|AP<|A3<|Zv (Bl (n:=0) Y Y)<|AH Y<|Ap Y (fun G=>?_) (fun G=>?_);·
  exact absurd G An
 refine A3<|Zv (Bl (n:=1) Y Y)<|AH Y<|Ap Y (fun I=>?_) (fun I=>?_);·
  refine Zg<|Zh 8 G4 V rfl A6 Y<|Xe (Zs A6 Y Y V) ?_;refine Z0<|A9<|CD<|Zo Wh (AA (cs:=#[I0 q.kd,I0 q.tb,I0 q.cl,I0 q.lo,I0 q.hi,I0 q.bq,I0 q.ot,I0 te,I0 (-1),.slice B n m]) LN G2 Y Wn (by exact Au V)) ?_;refine Xe (BF G2 Y Y HT Wu (by exact D9 rfl) Fm Wn (by exact BA _)) ?_;refine A5<|AJ<|Cv V results16 Y Wh (Av LN G2 Wn (Au V)) (by exact ⟨V,V⟩)
 exact absurd V I
theorem x6(q:QM)(te base:Int)(B:B8)(n m:Nat):Az prog 16 #[.agg #[I0 q.kd,I0 q.tb,I0 q.cl,I0 q.lo,I0 q.hi,I0 q.bq,I0 q.ot,I0 te,I0 base,.slice B n m],I0 4] [] (.agg #[I0 q.kd,I0 q.tb,I0 q.cl,I0 q.lo,I0 q.hi,I0 q.bq,I0 q.ot,I0 te,I0 10001,.slice B n m]):=by
 refine Se func16 ntmps16 [0,1] ?_;intro u R;refine A3<|Ze (Bx #[I0 q.kd,I0 q.tb,I0 q.cl,I0 q.lo,I0 q.hi,I0 q.bq,I0 q.ot,I0 te,I0 base,.slice B n m])<|AF fun O=>Ze (Dm ON (cs:=#[I0 0,I0 0,I0 0,I0 0,I0 0,I0 0,I0 0,I0 0,I0 0,.slice none 0 0]) AD)<|AF fun U=>A5<|B7 Y<|Xr [_,_] Y SZ Y V (Hu 4 5 An An An An) ?_;rw [show CL 4 5=4 from rfl];refine A5<|AP<|A3<|Zv (Bl (n:=0) Y Y)<|AH Y<|Ap Y (fun G=>?_) (fun G=>?_);·
  exact absurd G An
 refine A3<|Zv (Bl (n:=1) Y Y)<|AH Y<|Ap Y (fun I=>?_) (fun I=>?_);·
  exact absurd I An
 refine A3<|Zv (Bl (n:=2) Y Y)<|AH Y<|Ap Y (fun J=>?_) (fun J=>?_);·
  exact absurd J An
 refine A3<|Zv (Bl (n:=3) Y Y)<|AH Y<|Ap Y (fun K=>?_) (fun K=>?_);·
  exact absurd K An
 refine Zg<|Zh 8 G4 V rfl A6 Y<|Xe (Zs A6 Y Y V) ?_;refine Z0<|Zn [2,4] ?_;refine A9<|CD<|Zo Wh (AA (cs:=#[I0 q.kd,I0 q.tb,I0 q.cl,I0 q.lo,I0 q.hi,I0 q.bq,I0 q.ot,I0 te,I0 10001,.slice B n m]) LN G2 Y Wn (by exact Au V)) ?_;refine Xe (BF G2 Y Y HT Wu (by exact D9 rfl) Fm Wn (by exact BA _)) ?_;refine A5<|AJ<|Cv V results16 Y Wh (Av LN G2 Wn (Au V)) (by exact ⟨V,V⟩)
theorem wh(q:QM)(te base:Int)(B:B8)(n m:Nat){j:Nat}(G:j<2):BQ prog 16 #[.agg #[I0 q.kd,I0 q.tb,I0 q.cl,I0 q.lo,I0 q.hi,I0 q.bq,I0 q.ot,I0 te,I0 base,.slice B n m],I0 (1+3*(j:Int))] [] (fun r H'=>∃b:Int,¬(0<=b/\b<=10000)/\r= .agg #[I0 q.kd,I0 q.tb,I0 q.cl,I0 q.lo,I0 q.hi,I0 q.bq,I0 q.ot,I0 te,I0 b,.slice B n m]/\H'=[]):=by
 rcases (by omega:j=0\/j=1)with rfl|rfl
 · refine DR (x7 q te base B n m) [] B6 ?_
   rintro r H' ⟨rfl,rfl⟩;exact ⟨_,⟨-1,by decide,V,V⟩,by simp⟩
 · refine DR (x6 q te base B n m) [] B6 ?_
   rintro r H' ⟨rfl,rfl⟩;exact ⟨_,⟨10001,by decide,V,V⟩,by simp⟩
set_option maxHeartbeats 4000000 in
theorem tz{Mx:List A8}{vx:A2}{xs:List (List Int)}(hX:WB Mx vx xs)(q0 q1 q2 q3 q4 hw rp:Int)(hq01:-9223372036854775808<=q0)(hq02:q0<=9223372036854775807)(hq11:-9223372036854775808<=q1)(hq12:q1<=9223372036854775807)(hq21:-9223372036854775808<=q2)(hq22:q2<=9223372036854775807)(hq31:-9223372036854775808<=q3)(hq32:q3<=9223372036854775807)(hq41:-9223372036854775808<=q4)(hq42:q4<=9223372036854775807)(Pn:-9223372036854775808<=hw)(Ps:hw<=9223372036854775807)(hrp1:-9223372036854775808<=rp)(hrp2:rp<=9223372036854775807){rq:B8}{rc:Nat}{rs:List Chg}(hrc:rs.length<=rc)(hR:CE Mx (.slice rq rs.length rc) rs)(Tg:AK)(zg:Nat×Nat)(Tp:AK)(zp:Nat×Nat):Az prog 3 #[vx,.agg #[I0 q0,I0 q1,I0 q2,I0 q3,I0 q4],I0 hw,.agg #[I0 rp,.slice rq rs.length rc]] [[(4,.cells (Ec.map Cq).toArray Tg zg)],[(1,.cells (Lib.pow10Tab.map fun z=>Value.int .u64 z).toArray Tp zp)],Mx] (.bool true):=by
 have hml:=mL;obtain ⟨px,capx,rfl,⟨hxl1,hxl2⟩,hgx⟩:=id hX;have hX2:=pI hX (min xs.length 8) (Nat.min_le_left _ _)
 have hxk:(xs.take (min xs.length 8)).length<=8:=by rw [Cl];omega
 obtain ⟨cs,MP⟩:∃cs,cs=rs.take 10:=⟨_,rfl⟩;have hcl:cs.length=min rs.length 10:=by rw [MP,Cl,Nat.min_comm]
 have Gl:CE Mx (.slice rq cs.length rc) cs:=by rw [MP];exact aU hR 10
 obtain ⟨_,_,_,hrml,_⟩:=id hR;refine Se func3 ntmps3 [0,1,2,3] ?_;intro u R;refine A3<|Ze (Bx #[_,_,_,_,_])<|AF fun b1=>Ze (Bx #[I0 rp,.slice rq rs.length rc])<|AF fun br=>AH Y<|A3<|Xr [] Y call4 Y V (tW Tg zg Tp zp) ?_;refine AH Y<|AN Y<|Zm Y<|Zv (AR ew Y)<|Zv (MU (n:=8) Y Y)<|Ba (Bn ew sizeOf79 Y Y A0)<|Zc [_] Y call5 Y V (wu hX2 A0) ?_;rintro _ _ ⟨_,⟨l,sl,o8,hll,hlF,qb,rfl⟩,rfl⟩;have hl16:l.length<=8:=by omega
 have hK:=xR o8 A0 hlF;have hB:=hK.b
 obtain ⟨pl,cl,rfl,hlc,hgl⟩:=id qb;refine AH Y<|A3<|Zo Wh (AA (cs:=#[_,_,_,_,_]) isAgg23 sizeOf23 Y (by exact CT _) (by exact Au V)) ?_;refine Xr [_] Y call6 Y V (qR q0 q1 q2 q3 q4 hq01 hq02 hq11 hq12 hq21 hq22 hq31 hq32 hq41 hq42) ?_;obtain ⟨q,hqe⟩:∃q,q=GY q0 q1 q2 q3 q4:=⟨_,rfl⟩;have hq:BG q:=by rw [hqe];exact dG _ _ _ _ _
 rw [<-hqe];refine Ze (Al Q1 #[_,_,_,_,_,_,_])<|AF fun bq=>Xe (Xw D4 #[I0 q.kd,I0 q.tb,I0 q.cl,I0 q.lo,I0 q.hi,I0 q.bq,I0 q.ot]) ?_;refine Z0<|Zn [2,7,9,10,11] ?_;refine CD<|Zo Wh (AA (cs:=#[I0 q.kd,I0 q.tb,I0 q.cl,I0 q.lo,I0 q.hi,I0 q.bq,I0 q.ot]) FG D4 Y (by exact CT _) (by exact Au V)) ?_;refine Xr [_] Y call7 Y V (J6 q hq Tp zp) ?_;refine Zm Y<|Zd Y V<|Zd Y V<|Za Y<|AH Y<|A3<|Ze (Ah (vs:=[_]) (cs:=[_]) DS A6 HX Y V rfl V rfl V)<|AF fun gs=>Zc [_,_,_] Y call8 Y V (rr (sh:=[50]) (YE gs (I0 50)) 0 500 An An An An An) ?_;rintro _ _ ⟨_,⟨c0,rfl,hc0,⟨l9,HZ,hw0⟩,hp0,vo,Y2,wz,rfl⟩,rfl⟩;have L0:I7 l 0 c0:=⟨hc0,hp0,C7 _,by rw [hw0];exact RO l 0,fun x ql=>by rw [l9]at ql;cases ql⟩
 refine Zm Y<|Zd Y V<|Zd Y V<|Za Y<|B1 Y<|Zn [2,7,9,10,11,12,14,15] ?_;refine Zx<|B7 Y<|Zv (Dr (n:=0) Y Y)<|A5<|Ap Y (fun k1=>?_) (fun k1=>?_);·
  exact absurd V k1
 refine B4<|AN Y<|Zo Wh (AA (cs:=#[I0 q.kd,I0 q.tb,I0 q.cl,I0 q.lo,I0 q.hi,I0 q.bq,I0 q.ot]) FG D4 Y (by exact CT _) (by exact Au V)) ?_;refine Zc [_,_,_,_] Y call9 Y V (Td qb o8 A0 0 A0 hq (hB.scan 0 A0 _) 0 Tg zg) ?_;rintro _ _ ⟨_,⟨E1,qo,pq,sO,hF1,rfl,rfl⟩,rfl⟩;refine Ze (Al ON #[_,_,_,_,_,_,_,_,_,_])<|AF fun bz=>Xe (Xw G2 #[I0 q.kd,I0 q.tb,I0 q.cl,I0 q.lo,I0 q.hi,I0 q.bq,I0 q.ot,I0 0,I0 0,.slice qo (EY (BP (l.take 0)) q).length pq]) ?_;refine A5<|AN Y<|Zo Wh (AA (cs:=#[I0 q.kd,I0 q.tb,I0 q.cl,I0 q.lo,I0 q.hi,I0 q.bq,I0 q.ot,I0 0,I0 0,.slice qo (EY (BP (l.take 0)) q).length pq]) LN G2 Y (by exact CT _) (by exact Au V)) ?_;have gq:NrI l 0 q 0 False c0:=⟨⟨L0,by rw [l9];exact C7 _,by rw [vo];decide,(fun e he=>by rw [HZ]at he;cases he),wz,Y2⟩,by rw [hw0];rfl,fun _=>⟨l9,vo⟩,fun h9=>h9.elim⟩
 have zk:1+((18:Nat):Int)<=c0.z.fr:=by have:=gq.t.room An;omega
 refine Zc [_,_] Y call10 Y rfl (oe hB gq.t.law hq (k:=0) (by rw [gq.t.ns];decide) An (a:=0) A0 sO (by have:=gq.t.next;omega) (by have:=gq.t.len;omega) (n:=18) (hK.rows _) zk Tp zp) ?_;rintro _ _ ⟨_,⟨b2,c2,rfl,LP,lk,nn,hP,rfl⟩,rfl⟩;have hN2:=gq.put An LP lk nn.2 hP
 rw [<-lk.cp];refine A5<|Zq<|A3<|AH Y<|AP<|Zb [17,2,7,9,10,11,12,14,16] ?_;refine Ay (e0:=[(17,_)]) (fun m e H=>∃(j:Nat) (c:CZ),m=l.length -j/\(j<=l.length/\NrI l j q 0 True c/\c.cp=c2.cp)/\e=[(17,I0 (j:Int))]/\H=[c.mem]) (by exact ⟨0,c2,V,⟨C7 _,hN2,V⟩,V,V⟩) Wp ?_;rintro _ _ _ ⟨j,c,rfl,⟨hj,hN,MK⟩,rfl,rfl⟩;refine B7 Y<|Zm Y<|Zv (AR HA Y)<|Zv (Ar Y Y)<|A5<|Ap Y (fun hjl=>?_) (fun hjl=>?_);·
  obtain ⟨r,hr⟩:∃r,l[j]?=some r:=⟨_,BE A0⟩;obtain ⟨ME,gm,offm,curm,Tm,zm,hpm,hmm,hszm,MS⟩:=Wv qb hr;rw [hpm,<-MK];refine B4<|Zq<|AP<|Zg<|Zm Y<|Zm Y<|Zm Y<|Ba (AZ HA Fi Y Y A0)<|CO (Gn Wo (hmm)) (AA (cs:=#[I0 r.p,.slice r.q r.cs.length r.cap]) Hh Fi Y A0 (by exact MS)) V rfl ?_;refine Zc [_,_] Y call11 Y V (fE hB hN.t.law hr ME) ?_;rintro _ _ ⟨_,⟨d,qa,cpa,gz,tv,sT,rfl,LD,hA,hrw,rfl⟩,rfl⟩;have hN6:=hN.apply hB A0 hr LD hA
  rw [<-hA.cp];refine Z0<|A9<|Zx<|Zg<|Zm Y<|Ya (n:=1) Y Y<|B1 Y<|HB (by exact ⟨j+1,d,V,⟨by omega,hN6,by rfl⟩,V,V⟩)
 have gy:NrI l l.length q 0 True c:=by
  rw [show j=l.length by omega]at hN;exact hN
 refine BB<|Zt<|Zt<|AV<|Zx<|Zq ?_;rw [<-MK];refine Zg<|Zm Y<|Zm Y<|Zc [_,_] Y call12 Y V (X5 hB hq gy) ?_;rintro _ _ ⟨_,⟨B,oa,sA,Qe,hzao,hFa,MJ,hrga,rfl,rfl⟩,rfl⟩;refine Zm Y<|Zd Y V<|Zd Y V<|Ze (Al L7 #[_,_,_,_,_,_,_,_,_,_,_,_,_,_,_])<|AF fun ba=>Xe (Xw ID #[I0 B.a.q.kd,I0 B.a.q.tb,I0 B.a.q.cl,I0 B.a.q.lo,I0 B.a.q.hi,I0 B.a.q.bq,I0 B.a.q.ot,.slice B.rp B.a.res.rows.length B.rc,I0 B.a.res.val,.bool B.a.res.fnd,I0 B.a.since,I0 B.a.until_,I0 B.a.base,.slice B.gp B.a.ranges.length B.gc,.slice B.cp B.a.recs.length B.cc]) ?_;refine B1 Y<|Zn [2,7,9,10,11,12,14,16,18,19] ?_;refine Zx<|AN Y<|Zm Y<|Zc [_,_] Y call12 Y V (X5 hB hq gy) ?_;rintro _ _ ⟨_,⟨J,ob,sB,Rl,hzbo,_,_,hrgb,rfl,rfl⟩,rfl⟩;refine Zm Y<|Zd Y V<|Zd Y V<|Ze (Al L7 #[_,_,_,_,_,_,_,_,_,_,_,_,_,_,_])<|AF fun bb=>Xe (Xw ID #[I0 J.a.q.kd,I0 J.a.q.tb,I0 J.a.q.cl,I0 J.a.q.lo,I0 J.a.q.hi,I0 J.a.q.bq,I0 J.a.q.ot,.slice J.rp J.a.res.rows.length J.rc,I0 J.a.res.val,.bool J.a.res.fnd,I0 J.a.since,I0 J.a.until_,I0 J.a.base,.slice J.gp J.a.ranges.length J.gc,.slice J.cp J.a.recs.length J.cc]) ?_;refine AH Y<|AN Y<|Zm Y<|Zc [_,_] Y call13 Y V (kz gy _) ?_;rintro _ _ ⟨_,⟨qw,tw,bw9,pw,cw,Lw,ow,sW,hRw,hFw,hLw,rfl,rfl⟩,rfl⟩;refine Zm Y<|Zd Y V<|Zd Y V<|Ze (Al ON #[_,_,_,_,_,_,_,_,_,_])<|AF fun bw=>Xe (Xw G2 #[I0 qw.kd,I0 qw.tb,I0 qw.cl,I0 qw.lo,I0 qw.hi,I0 qw.bq,I0 qw.ot,I0 tw,I0 bw9,.slice pw Lw.length cw]) ?_;refine B1 Y<|Zn [2,7,9,10,11,12,14,16,18,19,20,22] ?_;refine Zx<|Zq<|Zq<|CK (s1:=sW) (s2:=E1) Wo Wo ?_;refine CK (s1:=sA) (s2:=(sW++E1)) Wo Wo ?_;obtain ⟨s0,j5⟩:∃s,s=sA++(sW++E1):=⟨_,rfl⟩;have q9:CX s0:=by rw [j5];exact CX.app hFa (CX.app hFw hF1)
 have pg:B.ok s0:=hzao.mono fun c hc=>by rw [j5];exact Fc _ hc
 have MB:Ex s0 (.slice pw Lw.length cw) Lw:=hRw.mono fun c hc=>by rw [j5];exact HC _ (Fc _ hc)
 have MC:=sO.mono (M':=s0) fun c hc=>by rw [j5];exact HC _ (HC _ hc)
 obtain ⟨_,_,_,⟨hrl1,_⟩,_⟩:=id pg.2.2;obtain ⟨_,_,_,⟨hrl2,_⟩,_⟩:=id pg.1;rw [<-j5];refine GU (s:=s0) Wo fun hn0=>?_;refine Zg<|AH Y<|AP<|Zb [24,2,7,9,10,11,12,14,16,18,19,20,22] ?_;refine Ay (e0:=[(24,_)]) (fun m e H=>∃(i:Nat) (s1:List A8),m=B.a.recs.length -i/\(i<=B.a.recs.length/\Dw s0 s1/\(s1.map (·.1)).Nodup)/\e=[(24,I0 (i:Int))]/\H=[s1]) (by exact ⟨0,s0,V,⟨C7 _,Dw.refl s0,hn0⟩,V,V⟩) Wp ?_;rintro _ _ _ ⟨i,s1,rfl,⟨his1,U,sj⟩,rfl,rfl⟩;refine B7 Y<|Zh 14 HF V rfl N4 Y<|Zl SU Y ?_;refine Zv (AR HA Y)<|Zv (Ar Y Y)<|A5<|Ap Y (fun o9=>?_) (fun o9=>?_);·
  obtain ⟨r,hr⟩:∃r,B.a.recs[i]?=some r:=⟨_,BE A0⟩;obtain ⟨hCr,g1,vz,j3,T1,zq,zi,p8,hsz1,qj⟩:=U.rec pg.2.2 hr;have hrl9:=MJ r (E7 hr)
  obtain ⟨ch,hch⟩:∃ch,r.cs[0]?=some ch:=⟨_,BE hrl9⟩;obtain ⟨g2,ek,O,T2,ic,bn,I,p9,k2,Z⟩:=U.chg hCr hch;simp only [el,Pu]at p9 Z;obtain ⟨s1b,kv⟩:∃s,s=Fe g2 (.cells (O.setIfInBounds (ek+1) (I0 77)) T2 ic) s1:=⟨_,rfl⟩;have G:=U.upd sj I Z (w:=I0 77) (.inl ⟨k2,77,rfl,rfl⟩)
  rw [<-kv]at G;have l8:Gc ic O.size:=U.free q9 _ I _ _ _ rfl
  rw [bn]at qj;rw [zi];refine B4<|Zq<|AP<|Zg<|Zh 14 HF V rfl N4 Y<|Zl SU Y ?_;refine Zm Y<|Ba (AZ HA Fi Y Y A0)<|Zv (Ai (off:=1) GF V rfl KB Y)<|CO (Gn Wo (p8)) (BL LL Y (by exact qj)) V rfl ?_;refine Ba (AZ (j:=0) GO Cd Y Y A0)<|Zv (Ai (off:=1) CC V rfl A6 Y)<|Xe (FM A6 Y Y V Wo (I) (by exact kv.symm) A0 (by exact l8)) ?_;refine Z0<|Zn [2,7,9,10,11,12,14,16,18,19,20,22,24] ?_;refine A9<|Zx<|Zg<|Zm Y<|Ya (n:=1) Y Y<|B1 Y<|HB (by exact ⟨i+1,s1b,V,⟨by omega,G.1,G.2⟩,V,V⟩)
 refine BB<|Zt<|Zt<|AV<|Zx<|Zq<|A3<|AH Y<|AP<|Zb [25,2,7,9,10,11,12,14,16,18,19,20,22] ?_;refine Ay (e0:=[(25,_)]) (fun m e H=>∃(i:Nat) (s2:List A8),m=B.a.res.rows.length -i/\(i<=B.a.res.rows.length/\Dw s0 s2/\(s2.map (·.1)).Nodup)/\e=[(25,I0 (i:Int))]/\H=[s2]) (by exact ⟨0,s1,V,⟨C7 _,U,sj⟩,V,V⟩) Wp ?_;rintro _ _ _ ⟨i,s2,rfl,⟨his2,cu,sw⟩,rfl,rfl⟩;refine B7 Y<|Zh 7 HF V rfl C3 Y<|Zv (Ai (off:=0) E4 V rfl DH Y)<|Zl GS Y ?_;refine Zv (AR C1 Y)<|Zv (Ar Y Y)<|A5<|Ap Y (fun o9=>?_) (fun o9=>?_);·
  obtain ⟨r,hr⟩:∃r,B.a.res.rows[i]?=some r:=⟨_,BE A0⟩;obtain ⟨g2,ek,O,T2,ic,bn,I,p9,k2,Z⟩:=cu.row pg.1 hr;obtain ⟨s2b,l5⟩:∃s,s=Fe g2 (.cells (O.setIfInBounds (ek+i*5+1) (I0 77)) T2 ic) s2:=⟨_,rfl⟩;have G:=cu.upd sw I Z (w:=I0 77) (.inl ⟨k2,77,rfl,rfl⟩)
  rw [<-l5]at G;have l8:Gc ic O.size:=cu.free q9 _ I _ _ _ rfl
  rw [bn];refine B4<|Zq<|AP<|Zg<|Zh 7 HF V rfl C3 Y<|Zv (Ai (off:=0) E4 V rfl DH Y)<|Zl GS Y ?_;refine Zm Y<|Ba (AZ C1 B3 Y Y A0)<|Zv (Ai (off:=1) H3 V rfl A6 Y)<|Xe (FM A6 Y Y V Wo (I) (by exact l5.symm) A0 (by exact l8)) ?_;refine Z0<|Zn [2,7,9,10,11,12,14,16,18,19,20,22,25] ?_;refine A9<|Zx<|Zg<|Zm Y<|Ya (n:=1) Y Y<|B1 Y<|HB (by exact ⟨i+1,s2b,V,⟨by omega,G.1,G.2⟩,V,V⟩)
 refine BB<|Zt<|Zt<|AV<|Zx<|Zq<|A3<|Zh 13 HF V rfl J0 Y<|Zl Ly Y ?_;refine Zh 9 G4 V rfl J0 Y<|Zl Ly Y ?_;refine Zh 9 G4 V rfl J0 Y<|Zl Ly Y ?_;refine Ze (Ah (vs:=[_,_,_]) (cs:=[_,_,_]) underlying62 J0 zeroValue40 Y V rfl V rfl V)<|AF fun gr=>Zv (AR underlying62 Y)<|Zm Y<|Z0<|Zn [2,7,9,10,11,12,14,16,19,20,135,136,137] ?_;refine Zx<|AP<|Zb [137,2,7,9,10,11,12,14,16,19,20,135,136] ?_;refine Ay (e0:=[(137,_)]) (fun m e H=>∃(j:Nat) (s3:List A8),m=3 -j/\(j<=3/\Dw s0 s3/\(s3.map (·.1)).Nodup)/\e=[(137,I0 (j:Int))]/\H=[s3]) (by exact ⟨0,s2,V,⟨C7 _,cu,sw⟩,V,V⟩) Wp ?_;rintro _ _ _ ⟨j,s3,rfl,⟨hjs3,zu,Hf⟩,rfl,rfl⟩;refine A3<|Zv (Ar Y Y)<|A5<|Zq<|Ap Y (fun Qd=>?_) (fun Qd=>?_);·
  obtain ⟨pv,cv,zl,y5,vw,hrpl⟩:=om pg.2.1 MB MC Qd;refine B4<|Zq<|AP<|A3<|Ba (Bd underlying62 J0 Y Y (by first|omega|decide|exact CT _|(simp;done)|(simp;omega)))<|Zl Ly Y (hv:=by exact y5) ?_;refine AH Y<|A3<|AH Y<|AP<|Zb [28,2,7,9,10,11,12,14,16,19,20,27,135,136,137] ?_;refine Ay (e0:=[(28,_)]) (fun m e H=>∃(i:Nat) (s4:List A8),m=zl.length -i/\(i<=zl.length/\Dw s0 s4/\(s4.map (·.1)).Nodup)/\e=[(28,I0 (i:Int))]/\H=[s4]) (by exact ⟨0,s3,V,⟨C7 _,zu,Hf⟩,V,V⟩) Wp ?_;rintro _ _ _ ⟨i,s4,rfl,⟨his4,cO,sJ⟩,rfl,rfl⟩;refine B7 Y<|Zm Y<|Zv (AR N2 Y)<|Zv (Ar Y Y)<|A5<|Ap Y (fun o9=>?_) (fun o9=>?_);·
   obtain ⟨z9,hz9⟩:∃z,zl[i]?=some z:=⟨_,BE A0⟩;obtain ⟨hrt,g1,vz,j3,T1,zq,zi,p8,hsz1,⟨k1,qj⟩,_⟩:=cO.rng vw hz9;obtain ⟨_,_,_,⟨hrtl,_⟩,_⟩:=id hrt;subst zi;obtain ⟨s5,qz⟩:∃s,s=Fe g1 (.cells (j3.setIfInBounds (vz+i*9+4) (I0 77)) T1 zq) s4:=⟨_,rfl⟩;obtain ⟨zt,Gw⟩:=cO.upd sJ p8 qj (w:=I0 77) (.inl ⟨k1,77,rfl,rfl⟩);rw [<-qz]at zt Gw;have P5:Gc zq j3.size:=cO.free q9 _ p8 _ _ _ rfl
   refine B4<|Zq<|AP<|AN Y<|Zm Y<|Ba (AZ N2 Lo Y Y A0)<|Zv (Ai (off:=4) DA V rfl A6 Y)<|Xe (FM A6 Y Y V Wo (p8) (by exact qz.symm) A0 (by exact P5)) ?_;refine A5<|A3<|AH Y<|AP<|Zb [29,2,7,9,10,11,12,14,16,19,20,27,28,135,136,137] ?_;refine Ay (e0:=[(29,_)]) (fun m e H=>∃(k:Nat) (s6:List A8),m=z9.x.roots.length -k/\(k<=z9.x.roots.length/\Dw s0 s6/\(s6.map (·.1)).Nodup)/\e=[(29,I0 (k:Int))]/\H=[s6]) (by exact ⟨0,s5,V,⟨C7 _,zt,Gw⟩,V,V⟩) Wp ?_;rintro _ _ _ ⟨k,s6,rfl,⟨hks6,X,sM⟩,rfl,rfl⟩;obtain ⟨hrt2,g2,ek,O,T2,ic,bn,I,p9,_,Z⟩:=X.rng vw hz9;injection bn with bn
   injection bn with e1 e2 _
   subst e1 e2;refine B7 Y<|Zm Y<|Zm Y<|Ba (AZ N2 Lo Y Y A0)<|Zv (Ai (off:=8) DA V rfl Hc Y)<|CO (Gn Wo (I)) (BL KK Y (by exact Z)) V rfl ?_;refine Zv (AR Dd Y)<|Zv (Ar Y Y)<|A5<|Ap Y (fun Ta=>?_) (fun Ta=>?_);·
    obtain ⟨x9,ql⟩:∃x,z9.x.roots[k]?=some x:=⟨_,BE A0⟩;obtain ⟨g3,off3,qy,T3,zz3,hp3,zf,y3,hx3⟩:=X.root hrt ql;have hsz3:=(Hj.1 hx3).1
    obtain ⟨s7,r9⟩:∃s,s=Fe g3 (.cells (qy.setIfInBounds (off3+k) (.string (str [120]))) T3 zz3) s6:=⟨_,rfl⟩;have G:=X.upd sM zf hx3 (w:= .string (str [120])) (.inr ⟨y3,str [120],rfl,rfl⟩)
    rw [<-r9]at G;have P6:Gc zz3 qy.size:=X.free q9 _ zf _ _ _ rfl
    rw [hp3]at Z;refine B4<|Zq<|AP<|Zg<|Zm Y<|Zm Y<|Ba (AZ N2 Lo Y Y A0)<|Zv (Ai (off:=8) DA V rfl Hc Y)<|CO (Gn Wo (I)) (BL KK Y (by exact Z)) V rfl ?_;refine Zm Y<|Ba (Bu Dd HD Y Y (by first|omega|decide|exact CT _|(simp;done)|(simp;omega)))<|Xe (FM HD Y Y rfl Wo (zf) (by exact r9.symm) A0 (by exact P6)) ?_;refine Z0<|Zn [2,7,9,10,11,12,14,16,19,20,27,28,29,135,136,137] ?_;refine A9<|Zx<|Zg<|Zm Y<|Ya (n:=1) Y Y<|B1 Y<|HB (by exact ⟨k+1,s7,V,⟨by omega,G.1,G.2⟩,V,V⟩)
   refine BB<|Zt<|Zt<|AV<|A9<|Zx<|Zg<|Zm Y<|Ya (n:=1) Y Y<|B1 Y<|HB (by exact ⟨i+1,s6,V,⟨by omega,X,sM⟩,V,V⟩)
  refine BB<|Zt<|Zt<|AV<|A9<|Zx<|E6 Y Y Y<|HB (by exact ⟨j+1,s4,V,⟨by omega,cO,sJ⟩,V,V⟩)
 refine BB<|Zt<|Zt<|AV<|Zx<|AN Y<|Zm Y<|Zc [_,_] Y call12 Y V (X5 hB hq gy) ?_;rintro _ _ ⟨_,⟨K,od,sD,yt,hzdo,_,_,hrgd,rfl,rfl⟩,rfl⟩;refine Zm Y<|Zd Y V<|Zd Y V<|Ze (Al L7 #[_,_,_,_,_,_,_,_,_,_,_,_,_,_,_])<|AF fun bd=>Xe (Xw ID #[I0 K.a.q.kd,I0 K.a.q.tb,I0 K.a.q.cl,I0 K.a.q.lo,I0 K.a.q.hi,I0 K.a.q.bq,I0 K.a.q.ot,.slice K.rp K.a.res.rows.length K.rc,I0 K.a.res.val,.bool K.a.res.fnd,I0 K.a.since,I0 K.a.until_,I0 K.a.base,.slice K.gp K.a.ranges.length K.gc,.slice K.cp K.a.recs.length K.cc]) ?_;refine AH Y<|CK (s1:=sB) (s2:=sD) Wo Wo ?_;have hod:oa=od:=by rw [kn,Qe.1,yt.1]
 refine Zb [19,20,30,31,2,7,9,10,11,12,14,16] ?_;refine Ch (e0:=[(19,_),(20,_),(30,_),(31,_)]) (H0:=[]) (fun e H=>(True)/\e=[]/\H=[]) Wp ?hx_13 ?hy_13
 case hx_13=>
  refine AN Y<|Zm Y<|Zv (J7 Mn Y Y)<|Zm Y<|Ae (t:=178) Y V (fun k2=>?_) (fun k2=>?_);·
   exact absurd hod k2
  refine Zf Y Y<|Zf Y Y ?_;refine Ab (t:=180) Y V (fun k3=>?_) (fun k3=>?_);focus
   have T9:Kn l q 0 l.length:=Qe.1.1 (by simpa using k3);refine DY Y Wh (AA (cs:=#[_,_,_,_,_,_,_,_,_,_,_,_,_,_,_]) Xs ID Y (by exact CT _) (by exact Au V)) V rfl ?_;refine DY Y Wh (AA (cs:=#[_,_,_,_,_,_,_,_,_,_,_,_,_,_,_]) Xs ID Y (by exact CT _) (by exact Au V)) V rfl ?_;refine Xr [_,_] Y call14 Y V (qP (hzbo.mono fun c hc=>Fc _ hc) (hzdo.mono fun c hc=>HC _ hc) ((Rl.2 (Rl.1.2 T9)).same (yt.2 (yt.1.2 T9))) hrgb) ?_;refine Yg (Bh Y)<|Yg (AL Y Y)<|BW Y Y<|A5<|AY Y (fun k4=>?_) (fun k4=>?_);cases k4
  rotate_left
  focus
   refine AG<|AG<|Yg (AO Y Y)<|BW Y Y<|A5<|DW Y ?_
  all_goals
   refine AC<|Hx (by exact ⟨trivial,V,V⟩)
 rintro _ _ ⟨_,rfl,rfl⟩;refine Zq<|Aw (n:=13) (0::1::0::0::8::0::32::96::224::504::1020::2047::4095::[]) 5124 AD AD V<|A1 0 V (AB (off:=0) GF V rfl A6 Y)<|Bk 1 V AE Y ?_;refine A1 3 V (AB (off:=1) GF V rfl KB Y)<|Bk 4 V LL Y ?_;refine A1 5 V (AB (off:=1) GF V rfl KB Y)<|Bk 6 V LL Y ?_;refine A1 7 V (AR GO Y)<|A1 8 V (MU (n:=10) Y Y)<|A1 9 V (Bn GO Cd Y Y A0)<|Yz 2 0 1023 [6,4,1] [true,true,true] [(6,(_,_)),(4,(_,_)),(1,(_,_))] V Y V rfl V rfl (EF GO Cd)<|AF fun ge=>CA<|Yz 10 1020 2047 [6,4,1] [false,false,true] [(1,(_,_))] V Y V rfl V rfl (Gf (by_:=80) (sz:=10) GO (V:Tryz.prog.info? 59=some Tryz.t59) V rfl V rfl Y (Gs 10 59 ge 0 [] V An) Y (Tj Gl) (by(rw [FJ,hcl])) An Wo Wo (by exact Kl _) A0 A0) ?_;rintro _ _ ⟨sa1,d9,rfl⟩;refine ⟨Zk (Ac),?_⟩;replace d9:=Bb (n':=cs.length) d9 A0 (Mu _);have FT:=Mf d9 A0
 obtain ⟨ax,af,rfl⟩:=d9.form;refine A1 11 rfl (BM (vs:=[(0,I0 rp),(1,.slice ax cs.length af)]) (cs:=#[I0 rp,.slice ax cs.length af]) Y (Aa (pl:=#[(0,1),(1,1)]) Tl GF (fun _=>by kernel_rfl) AD))<|Yw 12 8191 rfl (BF Fi Y Y HT Wu (by exact D9 rfl) Fm (by exact CT _) (by exact BA _))<|F1<|Ao<|Zn [2,7,9,10,11,12,14,16] ?_;refine Zx<|AN Y<|Zo Wh (AA (cs:=#[I0 rp,.slice ax cs.length af]) Hh Fi Y (by exact CT _) (by exact Au V)) ?_;refine Zc [_,_] Y call11 Y V (fM gy.t.law.ok FT) ?_;rintro _ _ ⟨_,⟨tv9,m9,s9,f9,y9,rfl,rfl⟩,rfl⟩;rw [gy.t.law.pos]at y9;refine Zm Y<|Zd Y V<|Zd Y V<|Za Y<|AH Y<|Zb [2,7,9,10,11,12,14,16,33] ?_;refine Ch (e0:=[]) (H0:=[]) (fun e H=>∃(gd:Bool),(gd=decide (Dq rp cs/\rp=(l.length:Int)+1))/\e=[(34,.bool gd)]/\H=[]) Wp ?hx_19 ?hy_19
 case hx_19=>
  refine Zg<|Zo Wh (AA (cs:=#[I0 rp,.slice ax cs.length af]) Hh Fi Y (by exact CT _) (by exact Au V)) ?_;refine Xr [_] Y call15 Y V (VE rp ax af cs _ FT) ?_;refine Zm Y<|Ae (t:=207) Y V (fun g1=>?_) (fun g1=>?_);·
   refine Yf 0 GF V rfl A6 Y<|Yl AE Y ?_;refine Zf Y Y<|Yg (AR HA Y) ?_
   (refine HY Y (EW (n:=1) Y Y ?_) rfl rfl ?_;(focus (omega)))
   refine Yg (CJ Y Y)<|BT Y Y<|B1 Y<|HM (e:=[(34,_)]) (h:=by exact ⟨decide (rp=(l.length:Int)+1),by rw [decide_eq_decide];exact ⟨fun h=>⟨g1,h⟩,fun h=>h.2⟩,rfl,rfl⟩)
  refine AG<|AG<|AG<|BW Y Y<|B1 Y<|Hx (by exact ⟨false,(F0 fun h=>g1 h.1).symm,V,V⟩)
 rintro _ _ ⟨gd,P7,rfl,rfl⟩;refine AN Y<|Zo Wh (AA (cs:=#[I0 q.kd,I0 q.tb,I0 q.cl,I0 q.lo,I0 q.hi,I0 q.bq,I0 q.ot]) FG D4 Y (by exact CT _) (by exact Au V)) ?_;refine Zc [_,_,_,_] Y call9 Y V (Td qb o8 A0 0 A0 hq (hB.scan 0 A0 _) 0 Tg zg) ?_;rintro _ _ ⟨_,⟨E2,qx,pz,hRP2,hF2,rfl,rfl⟩,rfl⟩;refine Zm Y<|Xr [_,_] Y SZ Y V (Hu hw 2 An An Pn Ps) ?_;have hpk:=EK hw 2 An
 obtain ⟨j9,hj9⟩:∃j,j=CL hw 2:=⟨_,rfl⟩;rw [<-hj9]at hpk⊢;refine Ba (Ee (m:=3) Y Y A0)<|Ya (m:=1) Y Y<|Zc [_,_] Y call16 Y V (wh q 0 0 qx _ pz hpk) ?_;rintro _ _ ⟨_,⟨wo,ve,rfl,rfl⟩,rfl⟩;refine Ze (Al ON #[_,_,_,_,_,_,_,_,_,_])<|AF fun bx=>Xe (Xw G2 #[I0 q.kd,I0 q.tb,I0 q.cl,I0 q.lo,I0 q.hi,I0 q.bq,I0 q.ot,I0 0,I0 wo,.slice qx (EY (BP (l.take 0)) q).length pz]) ?_;refine A5<|A3<|AH Y<|AN Y<|Xr [_,_] Y call18 Y V (u5 3) ?_;refine Z0<|Zn [7,9,12,14,16,33,34,35,36] ?_;refine Zx<|AN Y<|Zo Wh (AA (cs:=#[I0 rp,.slice ax cs.length af]) Hh Fi Y (by exact CT _) (by exact Au V)) ?_;refine Xr [_,_] Y call11 Y V (ua rp ax cs.length af) ?_;refine Zm Y<|Zd Y V<|Zd Y V<|Za Y<|AH Y<|AN Y<|Zm Y<|Xr [_,_] Y call12 Y V (yy _) ?_;refine Zm Y<|Zd Y V<|Zd Y V<|Ze (Al L7 #[_,_,_,_,_,_,_,_,_,_,_,_,_,_,_])<|AF fun b13=>Xe (Xw ID #[I0 0,I0 0,I0 0,I0 0,I0 0,I0 0,I0 0,.slice none 0 0,I0 0,.bool false,I0 0,I0 0,I0 0,.slice none 0 0,.slice none 0 0]) ?_;refine B1 Y<|Zn [9,12,14,16,33,34,35,36,38,40] ?_;refine Zx<|AN Y<|Zm Y<|Xr [_,_] Y call13 Y V (sF _) ?_;refine Zm Y<|Zd Y V<|Zd Y V<|Ze (Al ON #[_,_,_,_,_,_,_,_,_,_])<|AF fun b14=>Xe (Xw G2 #[I0 0,I0 0,I0 0,I0 0,I0 0,I0 0,I0 0,I0 0,I0 0,.slice none 0 0]) ?_;refine AH Y<|Zq ?_;have hfg:decide (f9=0)=gd:=by
  rw [P7,y9,decide_eq_decide];split<;>rename_i h9
  · exact ⟨fun _=>h9,fun _=>rfl⟩
  · exact ⟨fun h8=>absurd h8 An,fun h8=>absurd h8 h9⟩
 have hfb:gd=false->f9=180:=fun h8=>by
  rw [P7]at h8;rw [y9,As (cE h8)]
 refine Zg<|Zm Y<|Zm Y<|Ab (t:=244) Y V (fun g2=>?_) (fun g2=>?_);·
  refine Zf Y Y<|Yg (CJ Y Y)<|Zf Y Y<|Yg (Sj Mn Y Y)<|BT Y Y<|Zm Y<|Ae (t:=250) Y V (fun g3=>?_) (fun g3=>?_);·
   refine Zf Y Y<|Zf Y Y ?_;refine Ab (t:=252) Y V (fun g4=>?_) (fun g4=>?_);·
    refine AG<|Yg (AL Y Y)<|BT Y Y<|Zm Y<|Zf Y Y<|DY Y Wh (AA (cs:=#[_,_,_,_,_,_,_,_,_,_]) LN G2 Y (by exact CT _) (by exact Au V)) V rfl ?_;refine Xr [_,_] Y call10 Y V (YO (cp:=c.cp) hq 0 wo ve (.slice qx _ pz) V rfl Tp zp) ?_;refine Yg (Bh Y)<|BT Y Y<|Zm Y<|Ab (t:=263) Y V (fun m1=>?_) (fun m1=>?_);·
     refine Zf Y Y<|Yg (Bl (n:=1) Y Y)<|BT Y Y<|Zm Y<|Ae (t:=267) Y V (fun m2=>?_) (fun m2=>?_);·
      refine Zf Y Y<|Yg (Bh Y)<|BT Y Y<|Zm Y<|Ab (t:=271) Y V (fun m3=>?_) (fun m3=>?_);·
       refine Zf Y Y<|Yg (Bh Y)<|BT Y Y<|Zm Y<|Ab (t:=275) Y V (fun m4=>?_) (fun m4=>?_);·
        refine Zf Y Y<|DY Y Wh (AA (cs:=#[_,_,_,_,_,_,_,_,_,_]) LN G2 Y (by exact CT _) (by exact Au V)) V rfl ?_;refine Xr [_,_] Y call10 Y V (rj q 0 0 qo _ pq) ?_;refine Yg (Bh Y)<|BT Y Y<|Zm Y<|Ab (t:=281) Y V (fun m5=>?_) (fun m5=>?_);·
         refine Zf Y Y<|Zf Y Y<|Xr [_,_] Y call19 Y V (ru _) ?_;refine Yg (Bh Y)<|BT Y Y<|Zm Y<|Ab (t:=287) Y V (fun m6=>?_) (fun m6=>?_);·
          refine Zf Y Y<|Zf Y Y<|Xr [_,_] Y call20 Y V (zJ _) ?_;refine Yg (Bh Y)<|BT Y Y<|Zm Y<|Ab (t:=293) Y V (fun m7=>?_) (fun m7=>?_);·
           refine Zf Y Y<|Xr [_] Y call21 Y V (rm) ?_;refine Yg (Bl (n:=0) Y Y)<|BT Y Y<|Zm Y<|Ae (t:=298) Y V (fun m8=>?_) (fun m8=>?_);·
            refine Zf Y Y<|Xr [_] Y call22 Y V (zI) ?_;refine Yg (AR Dd Y)<|Yg (Bl (n:=0) Y Y)<|BT Y Y<|Zm Y<|Ae (t:=304) Y V (fun m9=>?_) (fun m9=>?_);·
             refine Zf Y Y<|Xr [_,_] Y call23 Y V (zH 0) ?_;refine Yg (Bl (n:=0) Y Y)<|BT Y Y<|Zm Y<|Ae (t:=309) Y V (fun ma=>?_) (fun ma=>?_);·
              refine Zf Y Y<|Xr [_] Y call24 Y V (iy) ?_;refine Yg (AR HA Y)<|Yg (Bl (n:=0) Y Y)<|BT Y Y<|B1 Y<|Zn [8] ?_;refine Zx<|AJ<|AX V results3 Y (by exact ⟨V,V⟩)
             exact absurd V ma
            exact absurd V m9
           exact absurd V m8
          cases m7
         cases m6
        cases m5
       cases m4
      cases m3
     exact absurd V m2
    cases m1
   refine Zf Y Y<|Yg (CJ Y Y)<|Yg (AO Y Y)<|BT Y Y<|Zm Y<|Ae (t:=257) Y V (fun g5=>?_) (fun g5=>?_);·
    refine Zf Y Y<|DY Y Wh (AA (cs:=#[_,_,_,_,_,_,_,_,_,_]) LN G2 Y (by exact CT _) (by exact Au V)) V rfl ?_;refine Xr [_,_] Y call10 Y V (YO (cp:=c.cp) hq 0 wo ve (.slice qx _ pz) V rfl Tp zp) ?_;refine Yg (Bh Y)<|BT Y Y<|Zm Y<|Ab (t:=263) Y V (fun n1=>?_) (fun n1=>?_);·
     refine Zf Y Y<|Yg (Bl (n:=1) Y Y)<|BT Y Y<|Zm Y<|Ae (t:=267) Y V (fun n2=>?_) (fun n2=>?_);·
      refine Zf Y Y<|Yg (Bh Y)<|BT Y Y<|Zm Y<|Ab (t:=271) Y V (fun n3=>?_) (fun n3=>?_);·
       refine Zf Y Y<|Yg (Bh Y)<|BT Y Y<|Zm Y<|Ab (t:=275) Y V (fun n4=>?_) (fun n4=>?_);·
        refine Zf Y Y<|DY Y Wh (AA (cs:=#[_,_,_,_,_,_,_,_,_,_]) LN G2 Y (by exact CT _) (by exact Au V)) V rfl ?_;refine Xr [_,_] Y call10 Y V (rj q 0 0 qo _ pq) ?_;refine Yg (Bh Y)<|BT Y Y<|Zm Y<|Ab (t:=281) Y V (fun n5=>?_) (fun n5=>?_);·
         refine Zf Y Y<|Zf Y Y<|Xr [_,_] Y call19 Y V (ru _) ?_;refine Yg (Bh Y)<|BT Y Y<|Zm Y<|Ab (t:=287) Y V (fun n6=>?_) (fun n6=>?_);·
          refine Zf Y Y<|Zf Y Y<|Xr [_,_] Y call20 Y V (zJ _) ?_;refine Yg (Bh Y)<|BT Y Y<|Zm Y<|Ab (t:=293) Y V (fun n7=>?_) (fun n7=>?_);·
           refine Zf Y Y<|Xr [_] Y call21 Y V (rm) ?_;refine Yg (Bl (n:=0) Y Y)<|BT Y Y<|Zm Y<|Ae (t:=298) Y V (fun n8=>?_) (fun n8=>?_);·
            refine Zf Y Y<|Xr [_] Y call22 Y V (zI) ?_;refine Yg (AR Dd Y)<|Yg (Bl (n:=0) Y Y)<|BT Y Y<|Zm Y<|Ae (t:=304) Y V (fun n9=>?_) (fun n9=>?_);·
             refine Zf Y Y<|Xr [_,_] Y call23 Y V (zH 0) ?_;refine Yg (Bl (n:=0) Y Y)<|BT Y Y<|Zm Y<|Ae (t:=309) Y V (fun na=>?_) (fun na=>?_);·
              refine Zf Y Y<|Xr [_] Y call24 Y V (iy) ?_;refine Yg (AR HA Y)<|Yg (Bl (n:=0) Y Y)<|BT Y Y<|B1 Y<|Zn [8] ?_;refine Zx<|AJ<|AX V results3 Y (by exact ⟨V,V⟩)
             exact absurd V na
            exact absurd V n9
           exact absurd V n8
          cases n7
         cases n6
        cases n5
       cases n4
      cases n3
     exact absurd V n2
    cases n1
   exact absurd (hfb (by simpa using g4)) g5
  exact absurd hfg g3
 cases g2
theorem ky(p:B8)(cap:Nat)(xs:List (List Int))(M:List A8)(hX:WB M (.slice p xs.length cap) xs)(K O q2 U X:Int)(m:-9223372036854775808<=K/\K<=9223372036854775807)(B:-9223372036854775808<=O/\O<=9223372036854775807)(G:-9223372036854775808<=q2/\q2<=9223372036854775807)(I:-9223372036854775808<=U/\U<=9223372036854775807)(J:-9223372036854775808<=X/\X<=9223372036854775807)(w:Int)(w1:-9223372036854775808<=w)(w2:w<=9223372036854775807)(rp:Int)(af:-9223372036854775808<=rp)(ax:rp<=9223372036854775807)(rq:B8)(rc:Nat)(rs:List Chg)(Z:rs.length<=rc)(hR:CE M (.slice rq rs.length rc) rs)(Tg:AK)(zg:Nat×Nat)(Tp:AK)(zp:Nat×Nat):Az prog 3 #[.slice p xs.length cap,.agg #[I0 K,I0 O,I0 q2,I0 U,I0 X],I0 w,.agg #[I0 rp,.slice rq rs.length rc]] [[(4,.cells (Ec.map Cq).toArray Tg zg)],[(1,.cells (Lib.pow10Tab.map fun z=>Value.int .u64 z).toArray Tp zp)],M] (.bool true):=tz hX K O q2 U X w rp m.1 m.2 B.1 B.2 G.1 G.2 I.1 I.2 J.1 J.2 w1 w2 af ax Z hR Tg zg Tp zp
end Go.Proofs.YtelliknjeemfoaaGreatDoor
namespace Go.Proofs.YtelliknjeemfoaaGreatDoor
open Go.Proofs.Tryz
open Go Go.RowKit Gw
set_option maxRecDepth 100000
attribute [local irreducible] Gw.At Gw.Nx Gw.Ops
open Go.ChangeShapes Go.WideShapes Go.ChangeAt
theorem XH{P:Program}{f:FuncId}{m:Func}{s:ChangeSpec}{c:OpenClaim}(h0:c.wf (OpenSpec.ofChange s)=true)(h1:laidOutB P=true)(h2:mapsRowed P=true)(h3:m.params.all (P.readableRec ·)=true)(h4:namedTie P c.named s.vars=true)(h5:(c.stops== [])=true)(h6:(P.stops== [])=true)(h7:(c.knobs== [])=true)(h8:(P.stopKnobs== [])=true)(h9:(c.inPlace==P.inPlace f)=true)(B:(c.unfollowed==P.unfollowed f)=true)(G:(c.recurses==P.recurses f)=true)(I:(c.named==P.varsNamed f)=true)(J:(c.maps==(m.params.toList++s.plain.varTypes P).any (P.mapsRec ·))=true)(K:(c.ifaces==(m.params.toList++s.plain.varTypes P).any (P.ifacesRec ·))=true)(O:(c.mapsOut==P.mapsAmong m.resultTypes.toList)=true)(U:(c.loops==(m.params.toList++s.plain.varTypes P).any (P.loopsFrom ·))=true)(X:(c.wideKeys==(m.params.toList++s.plain.varTypes P++m.resultTypes.toList).any (P.wideKeysFrom ·))=true)(Z:s.vars.all (P.varReadable ·)=true)(af:m.resultTypes.all (fun t=>P.readableRec t&&decide (t<P.types.size))=true)(ax:(c.ifacesOut==m.resultTypes.toList.any (P.ifacesRec ·))=true)(bn:(c.loopsOut==m.resultTypes.toList.any (P.loopsFrom ·))=true)(cu:(c.plainKeys==P.plainKeys)=true)(cO:c.shortTexts.isNone=true)(d9:P.stopsHeard=true)(ek:P.mayEnter=true)(gm:(c.lifted==P.liftsFinal)=true)(gq:(P.make==some c.make)=true)(gy:(c.kinds==(if c.domain.isEmpty then []else m.params.toList.map fun t=>match P.underlying t with|some (.int k)=>some k|_=>none))=true)(ic:(c.pinned==c.pinnedBy)=true)(j3:(c.veiled==(m.params.toList++s.plain.varTypes P++m.resultTypes.toList).any (P.veiledRec ·))=true)(j5:c.veiledFits P m.params.toList (m.params.toList++s.plain.varTypes P++m.resultTypes.toList)=true):joinedFacts P f m s c=true:=by
 unfold joinedFacts;simp only [Gk];exact ⟨⟨⟨⟨⟨⟨⟨⟨⟨⟨⟨⟨⟨⟨⟨⟨⟨⟨⟨⟨⟨⟨⟨⟨⟨⟨⟨⟨⟨⟨⟨h0,h1⟩,h2⟩,h3⟩,h4⟩,h5⟩,h6⟩,h7⟩,h8⟩,h9⟩,B⟩,G⟩,I⟩,J⟩,K⟩,O⟩,U⟩,X⟩,Z⟩,af⟩,ax⟩,bn⟩,cu⟩,cO⟩,d9⟩,ek⟩,gm⟩,gq⟩,gy⟩,ic⟩,j3⟩,j5⟩
end Go.Proofs.YtelliknjeemfoaaGreatDoor
namespace Go.Proofs.YtelliknjeemfoaaGreatDoor
open Go.Proofs.Tryz
open Go Go.RowKit Gw
set_option maxRecDepth 100000
attribute [local irreducible] Gw.At Gw.Nx Gw.Ops
open Go.ChangeShapes Go.WideShapes Go.Deep
variable{l:List A2}
theorem fA(h:l.length=3):∃a b c,l=[a,b,c]:=by
 match l,h with
 |[a,b,c],_=>exact ⟨a,b,c,rfl⟩
variable{H:Type}{W:A4}{base fuel:Nat}{held:Bool}
theorem VW{enc:AK×A2->H}{x:DataW H×List MemPlace}(h:DataW.trod enc prog W base (fun _=>true) held fuel 57 l=some x)(hl:l.length=3):
 ∃a b c:Int,l=[I0 a,I0 b,I0 c]/\(-9223372036854775808<=a/\a<=9223372036854775807)/\(-9223372036854775808<=b/\b<=9223372036854775807)/\(-9223372036854775808<=c/\c<=9223372036854775807):=by
 obtain ⟨ys,m,_,_,_,af,hf⟩:=DataW.trod_array K0 h;have B:∀j,j<3->∃n:Int,l[j]?=some (I0 n)/\-9223372036854775808<=n/\n<=9223372036854775807:=fun j B=>by
  have f:=hf j B;rw [oy,P0,BE A0]at f;have G:j<l.length:=by omega
  have e:(l.drop j).take 1=[l[j]]:=by rw [RT G];rfl
  rw [e]at f;obtain ⟨k,O,_,U⟩:=DataW.trod_int D3 f;injection O with O _
  exact ⟨k,by rw [BE G,O],bounds_i64 U⟩
 obtain ⟨v0,v1,v2,rfl⟩:=fA hl;obtain ⟨a,X,I⟩:=B 0 An;obtain ⟨b,Z,J⟩:=B 1 An;obtain ⟨c,hc,K⟩:=B 2 An;simp at X Z hc;subst X Z hc;exact ⟨a,b,c,V,I,J,K⟩
theorem nZ{cur:AM}{o:Nat}(h:∀j,j<l.length->cur[o+j]?=l[j]?)(h0:0<l.length):o+l.length<=cur.size/\cur.extract o (o+l.length)=l.toArray:=by
 have B:o+l.length<=cur.size:=by
  have m:=h (l.length -1) A0;rw [BE A0]at m;have:=(Hj.1 m).1
  omega
 refine ⟨B,HW.1 (O2 fun i=>?_)⟩;rw [Hs,eR];by_cases hi:i<l.length;· rw [B0 A0,h i hi]
 · rw [As A0]
   exact (Nd (by show l.length<=i;omega)).symm
theorem eG{P:Program}{w:A4}{r:_}{t:AK}{fs:Array Field}{v:A2}(B:P.underlying t=some (.struct fs))(h:Value.okWide P w r base t v):∃cs,v= .agg cs/\cs.size=P.cellsOf t:=by
 unfold Value.okWide at h;rw [B]at h;obtain ⟨cs,rfl,m,_⟩:=h;exact ⟨cs,V,m⟩
theorem vl:Tryz.prog.cellsOf 59=10:=by kernel_rfl
theorem eF{enc:AK×A2->H}{Tg Tp:AK}{zg zp:Nat×Nat}(h4:QD W Tg zg Tp zp){cs:List A2}{x:DataW H×List MemPlace}(h:DataW.trod enc prog W base (fun _=>true) held fuel 24 cs=some x):
 ∃q c rs,cs=[.slice q rs.length c]/\rs.length<=c/\CE (Mv W [4,1]) (.slice q rs.length c) rs:=by
 obtain ⟨p,len,cap,rfl,hl,X⟩:=Sq GO vl An h;obtain ⟨rs,h1,h2⟩:=Ja len (fun i (r:Chg)=>∃g o cur T zz,p=some ⟨g,o,none⟩/\(g,Obj.cells cur T zz)∈Mv W [4,1]/\o+i*10+10<=cur.size/\cur.extract (o+i*10) (o+i*10+10)=r.A87) (fun i hi=>by
  obtain ⟨O,n,z,K,ht,g,o,cur,T,zz,hp,hb,hc⟩:=X i hi;obtain ⟨xs,m,_,_,d9,B,G⟩:=DataW.trod_struct CC ht
  match O,K with
  |[a0,a1,a2,a3,a4,a5,a6,a7,a8,a9],_=>
   obtain ⟨y0,Z⟩:∃y,xs[0]?=some y:=⟨_,BE (by rw [B];decide)⟩;obtain ⟨y1,af⟩:∃y,xs[1]?=some y:=⟨_,BE (by rw [B];decide)⟩;obtain ⟨y2,ax⟩:∃y,xs[2]?=some y:=⟨_,BE (by rw [B];decide)⟩;obtain ⟨y3,bn⟩:∃y,xs[3]?=some y:=⟨_,BE (by rw [B];decide)⟩;obtain ⟨y4,cu⟩:∃y,xs[4]?=some y:=⟨_,BE (by rw [B];decide)⟩;obtain ⟨y5,cO⟩:∃y,xs[5]?=some y:=⟨_,BE (by rw [B];decide)⟩;obtain ⟨k0,e0,_,_⟩:=DataW.trod_int D3 ((G 0 _ rfl).trans Z);obtain ⟨k1,e1,_,_⟩:=DataW.trod_int D3 ((G 1 _ rfl).trans af);obtain ⟨b2,e2,_⟩:=DataW.trod_bool Mn ((G 2 _ rfl).trans ax);obtain ⟨u0,u1,u2,I,_⟩:=VW ((G 3 _ rfl).trans bn) rfl;obtain ⟨b4,U,_⟩:=DataW.trod_bool Mn ((G 4 _ rfl).trans cu);obtain ⟨w0,w1,w2,J,_⟩:=VW ((G 5 _ rfl).trans cO) rfl;change [a0]=[_]at e0;change [a1]=[_]at e1;change [a2]=[_]at e2;change [a3,a4,a5]=[_,_,_]at I;change [a6]=[_]at U;change [a7,a8,a9]=[_,_,_]at J;simp only [kq,eM]at e0 e1 e2 I U J;obtain ⟨I,e6,e7⟩:=I;obtain ⟨J,e8,e9⟩:=J;subst e0 e1 e2 I e6 e7 U J e8 e9;have h0:=hc 0 An
   rw [Pu]at h0;obtain ⟨q1,q2⟩:=nZ (cur:=cur) (o:=o+i*10) (l:=[I0 k0,I0 k1,.bool b2,I0 u0,I0 u1,I0 u2,.bool b4,I0 w0,I0 w1,I0 w2]) (fun j hj=>hc j hj) (Nat.succ_pos _);exact ⟨⟨k0,k1,b2,⟨u0,u1,u2⟩,b4,⟨w0,w1,w2⟩⟩,g,o,cur,T,zz,hp,Oe hb (ZU h4 hb h0 V),q1,q2⟩)
 subst h1;exact ⟨p,cap,rs,V,hl.2,p,cap,V,hl.1,h2⟩
theorem yT:Tryz.prog.cellsOf 26=2:=by kernel_rfl
theorem lF{enc:AK×A2->H}{K O:AK}{zg zp:Nat×Nat}(X:QD W K zg O zp){cs:List A2}{x:DataW H×List MemPlace}(h:DataW.trod enc prog W base (fun _=>true) held fuel 26 cs=some x)(hl:cs.length=2):
 ∃(n:Int) (q:B8) (c:Nat) (rs:List Chg),cs=[I0 n,.slice q rs.length c]/\(-9223372036854775808<=n/\n<=9223372036854775807)/\rs.length<=c/\CE (Mv W [4,1]) (.slice q rs.length c) rs:=by
 obtain ⟨xs,m,_,hx,Z,B,J⟩:=DataW.trod_struct GF h
 match cs,hl with
 |[a0,a1],_=>
  obtain ⟨y0,G⟩:∃y,xs[0]?=some y:=⟨_,BE (by rw [B];decide)⟩;obtain ⟨y1,I⟩:∃y,xs[1]?=some y:=⟨_,BE (by rw [B];decide)⟩;obtain ⟨n,e0,_,b0⟩:=DataW.trod_int D3 ((J 0 _ rfl).trans G);obtain ⟨q,c,rs,e1,U,h2⟩:=eF X ((J 1 _ rfl).trans I);change [a0]=[_]at e0;change [a1]=[_]at e1;injection e0 with e0
  injection e1 with e1
  subst e0 e1;exact ⟨n,q,c,rs,V,bounds_i64 b0,U,h2⟩
end Go.Proofs.YtelliknjeemfoaaGreatDoor
