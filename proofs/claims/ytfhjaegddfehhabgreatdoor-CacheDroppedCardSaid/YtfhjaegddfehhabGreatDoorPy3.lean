/- statetree: Verify. -/
import Derived.Test.YtfhjaegddfehhabGreatDoorTr8
set_option linter.unusedVariables false
set_option linter.unusedSimpArgs false
namespace Go.Proofs.YtfhjaegddfehhabGreatDoor
open Go.Proofs.Tryz
open Go Go.RowKit Gw
set_option maxRecDepth 100000
attribute [local irreducible] Gw.At Gw.Nx Gw.Ops
structure rh(root:Bs)(x:RP):Prop where
 comp:Gh x
 n16:x.roots.length=16
 np:x.paths.length=x.rows.length
 root:Dm x.roots=root
 sum:∃d:Bs,d.length=32/\x.roots[4*x.tb.toNat+x.cl.toNat]?=some (UI x.ct++d)/\(x.ct=0->d=Dm [])/\
  (x.ct≠0->∀(k:Nat) (r:AX) (pf:List Bs),x.rows[k]?=some r->x.paths[k]?=some pf->yb d x.ct.toNat (x.fi.toNat+k) (Qf r) pf=true)
noncomputable instance(root:Bs)(x:RP):Decidable (rh root x):=Classical.propDecidable _
theorem jX{a b:Bs}(h:str a=str b):a=b:=by rw [<-Lm a,<-Lm b,h]
variable{M:List A9}{vb va:A3}
theorem bI{a b:List Bs}(ha:EL M va a)(hb:EL M vb b):BB prog 117 #[va,vb] [M] (.bool (decide (a=b))):=by
 have j3:=mL;obtain ⟨pa,ca,rfl,gy,X⟩:=ha;obtain ⟨pb,cb,rfl,ic,af⟩:=hb;refine Se func117 ntmps117 [0,1] ?_;intro u R;refine A0<|A4 Y<|Zq<|A0<|Zm Y<|Zv (AY DA Y)<|Zm Y<|Zv (AY DA Y)<|Zv (Dn Y Y)<|A5<|Aq Y (fun O=>?_) (fun O=>?_);·
  refine A0<|A4 Y<|AJ<|Zt<|AO rfl results117 Y (by exact ⟨Dz (fun e=>O (by rw [e])),rfl⟩)
 have ax:a.length=b.length:=by omega
 refine AC<|Zx<|Zq<|A0<|Zm Y<|Zv (AY DA Y)<|Zm Y<|A5<|AQ<|Zb [13,0,1,12] ?_;refine BA (e0:=[(13,_)]) (fun m e H=>∃(i:Nat),m=a.length -i/\(i<=a.length/\∀j,j<i->a[j]?=b[j]?)/\e=[(13,I4 (i:Int))]/\H=[]) (by exact ⟨0,V,⟨C5 _,by intro j hj;omega⟩,V,V⟩) Wp ?_;rintro _ _ _ ⟨i,rfl,⟨hi,g⟩,rfl,rfl⟩;refine A0<|Zv (Au Y Y)<|A5<|Zq<|Aq Y (fun bn=>?_) (fun bn=>?_);·
  obtain ⟨x,hx⟩:∃x,a[i]?=some x:=⟨_,B7 A1⟩;obtain ⟨y,hy⟩:∃y,b[i]?=some y:=⟨_,B7 A1⟩;obtain ⟨g1,gm,B,T1,d9,rfl,cu,I⟩:=X i x hx;obtain ⟨g2,gq,G,T2,ek,rfl,cO,J⟩:=af i y hy;refine AC<|Zx<|Zq<|AQ<|A0<|Zm Y<|A4 Y<|Zq<|Az (n:=9) (0::0::3::7::0::0::48::112::255::[]) 0 AE AE V<|A2 0 V (AP Y)<|A2 1 V (AP Y)<|A2 2 V (CF DA Fo Y Y A1)<|Ce (b:=g1) (x:= .cells B T1 d9) (D':=15) 3 V rfl V (by simp [cu]) (BO HK Y I) ?_;refine A2 4 V (AP Y)<|A2 5 V (AP Y)<|A2 6 V (CF DA Fo Y Y A1)<|Ce (b:=g2) (x:= .cells G T2 ek) (D':=255) 7 V rfl V (by simp [cO]) (BO HK Y J) ?_;refine A2 8 V (mO Y Y)<|Ag<|Zx<|Aq Y (fun U=>?_) (fun U=>?_);·
   refine A0<|AN Y<|Zn [4] ?_;refine Zx<|AJ<|Ac<|Zt<|Zt<|Ac<|Zt<|AO rfl results117 Y (by exact ⟨Dz (fun e=>by rw [e,hy]at hx;injection hx with hx;exact U (by rw [hx])),rfl⟩)
  have W:x=y:=jX (HL.1 U);refine AC<|A8<|Zx<|Zg<|Ya (n:=1) Y Y<|Zm Y<|Z0<|Zn [13,0,1,12] ?_;refine Ab (e':=[(13,_)]) (by exact ⟨i+1,rfl,⟨by omega,fun j hj=>by rcases E4 j i with h9|h9;exact g j h9;obtain rfl:j=i:=A1;rw [hx,hy];exact congrArg some W⟩,rfl,rfl⟩)
 refine Ay<|Zt<|Zt<|AR<|Zx<|A0<|A4 Y<|AJ<|AO V results117 Y (by exact ⟨JQ (L9 ax (fun j hj=>g j A1)),V⟩)
theorem Yn{a b:RP}:a=b↔a.paths=b.paths/\(a.tb=b.tb/\a.cl=b.cl/\a.lo=b.lo/\a.hi=b.hi/\a.ct=b.ct/\a.fi=b.fi)/\a.rows=b.rows/\a.roots=b.roots:=by
 obtain ⟨W,X,a3,a4,a5,a6,a7,a8,a9⟩:=a;obtain ⟨b1,b2,b3,b4,b5,b6,b7,b8,b9⟩:=b;simp only [RP.mk.injEq];constructor;· rintro ⟨g,h2,m,B,G,I,J,O,U⟩;exact ⟨O,⟨g,h2,m,B,G,I⟩,J,U⟩
 · rintro ⟨O,⟨g,h2,m,B,G,I⟩,J,U⟩;exact ⟨g,h2,m,B,G,I,J,O,U⟩
theorem eG{a b:List Bs}(g:EL M va a)(m:EL M vb b):BB prog 116 #[va,vb] [M] (.bool (decide (a=b))):=by
 refine Se func116 ntmps116 [0,1] ?_;intro u R;refine A0<|A4 Y<|A0<|Zm Y<|Zm Y<|Xr [_,_] Y call117 Y V (bI g m)<|A4 Y<|AJ<|AO V results116 Y (by exact ⟨V,V⟩)
theorem vH{a b:List (List Bs)}(ha:Ir M va a)(hb:Ir M vb b):BB prog 176 #[va,vb,.func (.func 116) #[] #[]] [M] (.bool (decide (a=b))):=by
 have kv:=mL;obtain ⟨pa,ca,rfl,j3,X⟩:=ha;obtain ⟨pb,cb,rfl,j5,af⟩:=hb;refine Se func176 ntmps176 [0,1,2] ?_;intro u R;refine A0<|A4 Y<|Zq<|A0<|Zm Y<|Zv (AY It Y)<|Zm Y<|Zv (AY It Y)<|Zv (Dn Y Y)<|A5<|Aq Y (fun O=>?_) (fun O=>?_);·
  refine A0<|A4 Y<|AJ<|Zt<|AO rfl results176 Y (by exact ⟨Dz (fun e=>O (by rw [e])),rfl⟩)
 have ax:a.length=b.length:=by omega
 refine AC<|Zx<|Zq<|A0<|Zm Y<|Zv (AY It Y)<|Zm Y<|A5<|AQ<|Zb [17,1,2,15,16] ?_;refine BA (e0:=[(17,_)]) (fun m e H=>∃(i:Nat),m=a.length -i/\(i<=a.length/\∀j,j<i->a[j]?=b[j]?)/\e=[(17,I4 (i:Int))]/\H=[]) (by exact ⟨0,V,⟨C5 _,by intro j hj;omega⟩,V,V⟩) Wp ?_;rintro _ _ _ ⟨i,rfl,⟨hi,g⟩,rfl,rfl⟩;refine A0<|Zv (Au Y Y)<|A5<|Zq<|Aq Y (fun bn=>?_) (fun bn=>?_);·
  obtain ⟨x,hx⟩:∃x,a[i]?=some x:=⟨_,B7 A1⟩;obtain ⟨y,hy⟩:∃y,b[i]?=some y:=⟨_,B7 A1⟩;obtain ⟨q1,c1,d9,g1,gy,B,T1,gm,rfl,cu,I⟩:=X i x hx;obtain ⟨q2,c2,ek,g2,ic,G,T2,gq,rfl,cO,J⟩:=af i y hy;refine AC<|Zx<|Zq<|AQ<|A0<|Zm Y<|BV (CF It HI Y Y A1)<|CG (cs:=[(g1,.cells B T1 gm)]) (by simp [cu]) (BO I3 Y I) V rfl<|Za Y<|A4 Y<|A0<|Zm Y<|Zm Y<|BV (CF It HI Y Y A1)<|CG (cs:=[(g2,.cells G T2 gq)]) (by simp [cO]) (BO I3 Y J) V rfl<|A4 Y<|A0<|Zm Y<|Zm Y<|Zm Y<|Xr [_,_] Y call116 Y V (eG d9 ek)<|Zv (Cn Y)<|Z0<|Zn [1,2,15,16,17,30] ?_;refine Zx<|Aq Y (fun U=>?_) (fun U=>?_);·
   refine A0<|A4 Y<|AJ<|Ac<|Zt<|Zt<|Ac<|Zt<|AO rfl results176 Y (by exact ⟨Dz (fun e=>by rw [e,hy]at hx;injection hx with hx;exact U hx.symm),rfl⟩)
  have W:x=y:=HL.1 U;refine AC<|A8<|Zx<|Zg<|Ya (n:=1) Y Y<|Zm Y<|Z0<|Zn [17,1,2,15,16] ?_;refine Ab (e':=[(17,_)]) (by exact ⟨i+1,rfl,⟨by omega,fun j hj=>by rcases E4 j i with h9|h9;exact g j h9;obtain rfl:j=i:=A1;rw [hx,hy];exact congrArg some W⟩,rfl,rfl⟩)
 refine Ay<|Zt<|Zt<|AR<|Zx<|A0<|A4 Y<|AJ<|AO V results176 Y (by exact ⟨JQ (L9 ax (fun j hj=>g j A1)),V⟩)
theorem jF{a b:List (List Bs)}(g:Ir M va a)(m:Ir M vb b):BB prog 115 #[va,vb,.func (.func 116) #[] #[]] [M] (.bool (decide (a=b))):=by
 refine Se func115 ntmps115 [0,1,2] ?_;intro u R;refine A0<|A4 Y<|A0<|Zm Y<|Zm Y<|Zm Y<|Xr [_,_,_] Y call176 Y V (vH g m)<|A4 Y<|AJ<|AO V results115 Y (by exact ⟨V,V⟩)
theorem Vx(x:RP)(m g B:A3):BB prog 114 #[.agg #[I4 x.tb,I4 x.cl,I4 x.lo,I4 x.hi,I4 x.ct,I4 x.fi,m,g,B]] [] (.agg #[I4 x.tb,I4 x.cl,I4 x.lo,I4 x.hi,I4 x.ct,I4 x.fi]):=by
 refine Se func114 ntmps114 [0] ?_;intro u R;refine A0<|Ze (Bx #[_,_,_,_,_,_,_,_,_])<|AG fun G=>Ze (Al zeroValue70 #[_,_,_,_,_,_])<|AG fun I=>A5<|A0<|Zh 0 Cl V rfl A6 Y<|Zl AF Y<|Zh 1 Cl V rfl A6 Y<|Zl AF Y<|Zh 2 Cl V rfl A6 Y<|Zl AF Y<|Zh 3 Cl V rfl A6 Y<|Zl AF Y<|Zh 4 Cl V rfl A6 Y<|Zl AF Y<|Zh 5 Cl V rfl A6 Y<|Zl AF Y<|Zv (BL (vs:=[(0,I4 x.tb),(1,I4 x.cl),(2,I4 x.lo),(3,I4 x.hi),(4,I4 x.ct),(5,I4 x.fi)]) (cs:=#[I4 x.tb,I4 x.cl,I4 x.lo,I4 x.hi,I4 x.ct,I4 x.fi]) Y (DI zeroValue70 i6 A6 AE))<|Xe (Xw sizeOf70 #[I4 x.tb,I4 x.cl,I4 x.lo,I4 x.hi,I4 x.ct,I4 x.fi])<|Z0<|Zn [2] ?_;refine Zx<|AJ<|Cs V results114 Y Wh (Am isAgg70 sizeOf70 Wn (V)) (by exact ⟨V,V⟩)
theorem lK{a b:RP}(ha:UZ M va a)(hb:UZ M vb b):BB prog 60 #[va,vb] [M] (.bool (decide (a=b))):=by
 obtain ⟨ax,X,cu,rfl,J,G,U⟩:=ha;obtain ⟨bn,af,cO,rfl,O,I,W⟩:=hb;refine Se func60 ntmps60 [0,1] ?_;intro u R;refine A0<|Ze (Bx #[_,_,_,_,_,_,_,_,_])<|AG fun b1=>Ze (Bx #[_,_,_,_,_,_,_,_,_])<|AG fun b2=>A4 Y<|A0<|A4 Y<|A0<|Zh 7 Cl V rfl JT Y<|Zl cH Y<|Zh 7 Cl V rfl JT Y<|Zl cH Y<|Xr [_,_,_] Y call115 Y V (jF G I)<|A4 Y<|Zq<|Az (n:=25) (0::1::3::3::15::3::3::127::255::511::1023::2047::4095::2047::10239::32767::65535::131071::262143::524287::262143::1310719::4194303::8388607::16777215::[]) 4227216 AE AE V<|A2 0 V (AP Y)<|A2 1 V (AP Y)<|D8 (t:=13) Y (fun g=>?_) (fun g=>?_);·
  rw [DE g];refine B3 2 V (AP Y)<|DQ 3 V Wh (AA (cs:=#[_,_,_,_,_,_,_,_,_]) S4 HN Y B1 As)<|B3 5 V (AP Y)<|DQ 6 V Wh (AA (cs:=#[_,_,_,_,_,_,_,_,_]) S4 HN Y B1 As)<|Yz 4 15 127 [6,3] [true,false] [(6,(_,_))] V Y V rfl V rfl (Zu [_] Y call114 Y V (Vx a ax X cu))<|D4<|BT<|Yw 7 255 V (Zu [_] Y call114 Y V (Vx b bn af cO))<|D4<|B3 8 V (fu AE i6 CM AF A6 Y Y)<|A2 9 V (AV Y Y)<|A2 10 V (AP Y)<|D8 (t:=22) Y (fun h2=>?_) (fun h2=>?_);·
   rw [DE h2];refine B3 11 V (AB (off:=6) Cl V rfl CI Y)<|DQ 12 V Wh (BO Fm Y As)<|B3 13 V (AB (off:=6) Cl V rfl CI Y)<|DQ 14 V Wh (BO Fm Y As)<|Yw 15 65535 V (Zu [_,_] Y call112 Y V (bJ J O))<|D4<|A2 16 V (AV Y Y)<|A2 17 V (AP Y)<|D8 (t:=29) Y (fun m=>?_) (fun m=>?_);·
    rw [DE m];refine B3 18 V (AB (off:=8) Cl V rfl HI Y)<|DQ 19 V Wh (BO I3 Y As)<|B3 20 V (AB (off:=8) Cl V rfl HI Y)<|DQ 21 V Wh (BO I3 Y As)<|Yw 22 8388607 V (Zu [_,_] Y call117 Y V (bI U W))<|D4<|A2 23 V (AV Y Y)<|A2 24 V (Aw Y)<|Ag<|Zn [4] ?_;refine Zx<|AJ<|AO V results60 Y (by exact ⟨by exact KZ ⟨fun B=>Yn.2 ⟨g,h2,m,B⟩,fun B=>(Yn.1 B).2.2.2⟩,V⟩)
   rw [Cd m];refine AM 18 V<|AM 19 V<|AM 20 V<|AM 21 V<|AM 22 V<|A2 23 V (AL Y Y)<|A2 24 V (Aw Y)<|Ag<|Zn [4] ?_;refine Zx<|AJ<|AO V results60 Y (by exact ⟨by exact Dz (fun e=>m (Yn.1 e).2.2.1),V⟩)
  rw [Cd h2];refine AM 11 V<|AM 12 V<|AM 13 V<|AM 14 V<|AM 15 V<|A2 16 V (AL Y Y)<|A2 17 V (AP Y)<|AM 18 V<|AM 19 V<|AM 20 V<|AM 21 V<|AM 22 V<|A2 23 V (AL Y Y)<|A2 24 V (Aw Y)<|Ag<|Zn [4] ?_;refine Zx<|AJ<|AO V results60 Y (by exact ⟨by exact Dz (fun e=>h2 (Yn.1 e).2.1),V⟩)
 rw [Cd g];refine AM 2 V<|AM 3 V<|AM 4 V<|AM 5 V<|AM 6 V<|AM 7 V<|AM 8 V<|A2 9 V (AL Y Y)<|A2 10 V (AP Y)<|AM 11 V<|AM 12 V<|AM 13 V<|AM 14 V<|AM 15 V<|A2 16 V (AL Y Y)<|A2 17 V (AP Y)<|AM 18 V<|AM 19 V<|AM 20 V<|AM 21 V<|AM 22 V<|A2 23 V (AL Y Y)<|A2 24 V (Aw Y)<|Ag<|Zn [4] ?_;refine Zx<|AJ<|AO V results60 Y (by exact ⟨by exact Dz (fun e=>g (Yn.1 e).1),V⟩)
theorem UB{m:AX->Bool}:∀{l:List AX} {i:Nat} {x:AX},i<Ca m l->l[i]?=some x->m x=false
 |[],i,x,_,hx=>by simp at hx
 |z::l,i,x,hi,hx=>by
  unfold Ca at hi;rw [Q1]at hi;by_cases hz:m z=true;· rw [An (by simp [hz])]at hi;simp at hi
  · have g:m z=false:=by simpa using hz
    rw [Ax (by simp [g])]at hi;rcases i with _|i
    · simp at hx;rw [<-hx];exact g
    · simp only [cQ]at hx
      exact UB (l:=l) (by unfold Ca;simp at hi;omega) hx
theorem Qb{g:AX->Bool}:∀{l:List AX} {x:AX},l[Ca g l]?=some x->g x=true
 |[],x,hx=>by simp at hx
 |z::l,x,hx=>by
  unfold Ca at hx;rw [Q1]at hx;by_cases hz:g z=true;· rw [An (by simp [hz])]at hx;simp at hx;rw [<-hx];exact hz
  · have m:g z=false:=by simpa using hz
    rw [Ax (by simp [m])]at hx;simp only [Dd,cQ]at hx;exact Qb (l:=l) hx
def ltV(c:Nat)(a b:AX):Prop:=Di a c<Di b c\/Di a c=Di b c/\a.k<b.k
variable{rs:List AX}
theorem TZ(g:BQ rs)(t:Int)(c:Nat):(BI rs t c).Pairwise (ltV c):=by
 have m:=Em g t c (-1000000000) 1000000000;have h2:(rs.filter (inR t c (-1000000000) 1000000000)).Pairwise (fun a b=>a.k≠b.k):=(QW g fun r h=>kF h).imp (fun h=>by omega)
 have B:(Dt rs t c (-1000000000) 1000000000).Pairwise (fun a b=>a.k≠b.k):=((ET rs t c (-1000000000) 1000000000).pairwise_iff (fun h=>h.symm)).2 h2;exact (m.and B).imp (fun{a b} h=>by unfold ltV;obtain ⟨G,I⟩:=h;unfold leV at G;omega)
variable{l:List AX}{j i:Nat}
theorem zw{R:AX->AX->Prop}(h:l.Pairwise R){a b:AX}(g:i<j)(m:l[i]?=some a)(B:l[j]?=some b):R a b:=by
 obtain ⟨hi,rfl⟩:=C4.1 m;obtain ⟨G,rfl⟩:=C4.1 B;exact fS.1 h i j hi G g
variable{t:Int}{c:Nat}
theorem ZU(G:BQ rs){a b:AX}(m:i<=j)(B:(BI rs t c)[i]?=some a)(g:(BI rs t c)[j]?=some b):Di a c<=Di b c:=by
 rcases Nat.eq_or_lt_of_le m with rfl|h
 · rw [B]at g;injection g with g;rw [g];exact Wg _
 · have:=zw (TZ G t c) h B g
   unfold ltV at this;omega
variable{r:AX}
theorem jr(B:BQ rs)(t c:Nat)(lo:Int)(g:(BI rs (t:Int) c)[i]?=some r):(Ca (geV c lo) (BI rs (t:Int) c)<=i->lo<=Di r c)/\(i<Ca (geV c lo) (BI rs (t:Int) c)->Di r c<lo):=by
 constructor
 · intro h
   have m:=(C4.1 g).1;have hx:(BI rs (t:Int) c)[Ca (geV c lo) (BI rs (t:Int) c)]?=some _:=B7 A1
   have G:=I0 (Qb hx);have h2:=ZU B h hx g
   omega
 · intro h
   have:=cL (UB h g);omega
theorem kH(B:BQ rs)(t c:Nat)(hi:Int)(g:(BI rs (t:Int) c)[i]?=some r):(Ca (gtV c hi) (BI rs (t:Int) c)<=i->hi<Di r c)/\(i<Ca (gtV c hi) (BI rs (t:Int) c)->Di r c<=hi):=by
 constructor
 · intro h
   have m:=(C4.1 g).1;have hx:(BI rs (t:Int) c)[Ca (gtV c hi) (BI rs (t:Int) c)]?=some _:=B7 A1
   have G:=I0 (Qb hx);have h2:=ZU B h hx g
   omega
 · intro h
   have:=cL (UB h g);omega
theorem UA(g:BQ rs)(t c:Nat)(lo hi:Int)(m:lo<=hi):Ca (geV c lo) (BI rs (t:Int) c)<=Ca (gtV c hi) (BI rs (t:Int) c):=by
 rcases E4 (Ca (gtV c hi) (BI rs (t:Int) c)) (Ca (geV c lo) (BI rs (t:Int) c))with h|h
 · have G:=H5 (geV c lo) (BI rs (t:Int) c)
   have hx:(BI rs (t:Int) c)[Ca (gtV c hi) (BI rs (t:Int) c)]?=some _:=B7 A1;have B:=(kH g t c hi hx).1 (D2 _)
   have h2:=(jr g t c lo hx).2 h;omega
 · exact h
theorem Og{f m:Nat}(h:((l.drop f).take m)[j]?=some r):j<m/\l[f+j]?=some r:=by
 rw [HJ]at h;split at h;· rw [Q2]at h;exact ⟨by assumption,h⟩
 · cases h
theorem ji(h:r∈BI rs t c):r∈rs/\r.t=t:=by
 have:=FF.1 ((ET rs t c _ _).mem_iff.1 h);exact ⟨this.1,kF this.2⟩
theorem Nu(m:BQ rs)(t c:Nat)(lo hi:Int)(g:lo<=hi):Bt (BI rs (t:Int) c) c lo<=toT (BI rs (t:Int) c) c hi/\toT (BI rs (t:Int) c) c hi<=(BI rs (t:Int) c).length/\(0<(BI rs (t:Int) c).length->Bt (BI rs (t:Int) c) c lo<toT (BI rs (t:Int) c) c hi):=by
 have B:=UA m t c lo hi g;have h2:=H5 (geV c lo) (BI rs (t:Int) c)
 have G:=H5 (gtV c hi) (BI rs (t:Int) c);unfold Bt toT;omega
theorem lw(m:BQ rs)(t c:Nat)(lo hi:Int)(g:lo<=hi):(En rs t c lo hi).rows.length=toT (BI rs (t:Int) c) c hi -Bt (BI rs (t:Int) c) c lo:=by
 have:=Nu m t c lo hi g;show(((BI rs (t:Int) c).drop _).take _).length=_
 rw [CC,CD];omega
theorem OE(B:BQ rs)(hn:rs.length<=2000)(U:∀r∈rs,r.ok)(t c:Nat)(ht:t<=3)(hc:c<=3)(lo hi:Int)(m:lo<=hi):Gh (En rs t c lo hi):=by
 have h1:=UA B t c lo hi m;have h2:=H5 (geV c lo) (BI rs (t:Int) c)
 have h3:=H5 (gtV c hi) (BI rs (t:Int) c);have h4:=Nu B t c lo hi m
 have I:=lw B t c lo hi m;have ax:=JL B (t:Int) c
 have hf:Bt (BI rs (t:Int) c) c lo=Ca (geV c lo) (BI rs (t:Int) c) -1:=rfl;have bn:toT (BI rs (t:Int) c) c hi=min (Ca (gtV c hi) (BI rs (t:Int) c)+1) (BI rs (t:Int) c).length:=rfl
 have hv:∀r:AX,Bl r ((c:Nat):Int)=Di r c:=fun r=>Li r c hc;refine ⟨⟨⟨?_,?_⟩,?_,?_⟩,m,⟨?_,?_⟩,⟨?_,?_⟩,?_,?_,?_,?_,?_⟩;· show(0:Int)<=(t:Int);omega
 · show(t:Int)<4;omega
 · show(0:Int)<=(c:Int);omega
 · show(c:Int)<4;omega
 · show(0:Int)<=((BI rs (t:Int) c).length:Int);omega
 · show((BI rs (t:Int) c).length:Int)<=2000;omega
 · show(0:Int)<=((Bt (BI rs (t:Int) c) c lo:Nat):Int);omega
 · show((Bt (BI rs (t:Int) c) c lo:Nat):Int)<=((BI rs (t:Int) c).length:Int);omega
 · rw [I];show _<=((BI rs (t:Int) c).length:Int) -((Bt (BI rs (t:Int) c) c lo:Nat):Int);omega
 · rw [I];intro h0;show((BI rs (t:Int) c).length:Int)=0;omega
 · intro j r G
   obtain ⟨hj,g⟩:=Og G;have X:=ji (Dg g)
   have O:=jr B t c lo g;have J:=kH B t c hi g
   refine ⟨⟨U r X.1,X.2,?_,?_⟩,?_⟩;· intro h;change Bl r (c:Int)<lo at h;rw [hv]at h;omega
   · intro h;change hi<Bl r (c:Int)at h;rw [hv]at h;rw [I];omega
   · intro af q hq
     obtain ⟨_,W⟩:=Og hq;have:=zw (TZ B (t:Int) c) A1 W g
     unfold Ue;show Bl q (c:Int)<Bl r (c:Int)\/Bl q (c:Int)=Bl r (c:Int)/\q.k<r.k
     rw [hv,hv];exact this
 · intro r G
   obtain ⟨_,g⟩:=Og G;have O:=jr B t c lo g
   show((Bt (BI rs (t:Int) c) c lo:Nat):Int)=0\/Bl r (c:Int)<lo;rw [hv];omega
 · intro r G
   rw [I]at G⊢;obtain ⟨hj,g⟩:=Og G;have J:=kH B t c hi g
   show((Bt (BI rs (t:Int) c) c lo:Nat):Int)+_=((BI rs (t:Int) c).length:Int)\/hi<Bl r (c:Int);rw [hv];omega
theorem eQ(G:BQ rs)(hn:rs.length<=2000)(O:∀r∈rs,r.ok)(t c:Nat)(X:t<=3)(hc:c<=3)(lo hi:Int)(m:lo<=hi):ES (En rs t c lo hi)=(BI rs (t:Int) c).filter (inR (t:Int) c lo hi):=by
 have J:=OE G hn O t c X hc lo hi m;have h4:=Nu G t c lo hi m
 have hf:Bt (BI rs (t:Int) c) c lo=Ca (geV c lo) (BI rs (t:Int) c) -1:=rfl;have af:toT (BI rs (t:Int) c) c hi=min (Ca (gtV c hi) (BI rs (t:Int) c)+1) (BI rs (t:Int) c).length:=rfl
 have hv:∀r:AX,Bl r ((c:Nat):Int)=Di r c:=fun r=>Li r c hc;rw [eP J];show(((BI rs (t:Int) c).drop (Bt (BI rs (t:Int) c) c lo)).take (toT (BI rs (t:Int) c) c hi -Bt (BI rs (t:Int) c) c lo)).filter _=_
 have e:BI rs (t:Int) c=(BI rs (t:Int) c).take (Bt (BI rs (t:Int) c) c lo)++(((BI rs (t:Int) c).drop (Bt (BI rs (t:Int) c) c lo)).take (toT (BI rs (t:Int) c) c hi -Bt (BI rs (t:Int) c) c lo)++(BI rs (t:Int) c).drop (toT (BI rs (t:Int) c) c hi)):=by
  have e1:(BI rs (t:Int) c).drop (toT (BI rs (t:Int) c) c hi)=((BI rs (t:Int) c).drop (Bt (BI rs (t:Int) c) c lo)).drop (toT (BI rs (t:Int) c) c hi -Bt (BI rs (t:Int) c) c lo):=by
   rw [bj];congr 1;omega
  rw [e1,K1,K1]
 conv=>rhs;rw [e]
 rw [IH,IH];have z1:((BI rs (t:Int) c).take (Bt (BI rs (t:Int) c) c lo)).filter (inR (t:Int) c lo hi)=[]:=by
  rw [mA];intro r B I;obtain ⟨i,g⟩:=HE B;rw [HJ]at g;split at g
  · have:=(jr G t c lo g).2 A1
    have:=I0 I;omega
  · cases g
 have z2:((BI rs (t:Int) c).drop (toT (BI rs (t:Int) c) c hi)).filter (inR (t:Int) c lo hi)=[]:=by
  rw [mA];intro r B I;obtain ⟨i,g⟩:=HE B;rw [Q2]at g;have U:=(C4.1 g).1
  have:=(kH G t c hi g).1 A1;have:=I0 I
  omega
 rw [z1,z2,Ln,DG];refine ju ?_;intro r B;have W:=ji (KB (Pc B))
 unfold inB inR;show decide (lo<=Bl r (c:Int)/\Bl r (c:Int)<=hi)=_
 rw [hv];exact decide_eq_decide.2 ⟨fun h=>⟨W.2,h⟩,fun h=>h.2⟩
theorem uz(B:BQ rs)(m:∀r∈rs,r.ok)(t c:Nat)(X:t<=3)(hc:c<=3)(lo hi:Int)(J:lo<=hi):(BI rs (t:Int) c).filter (inR (t:Int) c lo hi)=Dt rs (t:Int) c lo hi:=by
 refine Ve B ?_ ?_
 · have g:=(ET rs (t:Int) c (-1000000000) 1000000000).filter (inR (t:Int) c lo hi)
   refine g.trans ?_;rw [List.filter_filter];refine List.Perm.of_eq (ju ?_);intro r O;obtain ⟨⟨g,h2,G⟩,U,W⟩:=m r O;unfold inV at g h2 G;have I:-1000000000<=Di r c/\Di r c<=1000000000:=by
    unfold Di;split;· omega
    · split
      · omega
      · split<;>omega
   unfold inR;rw [<-Bool.decide_and];exact decide_eq_decide.2 ⟨fun h=>h.1,fun h=>⟨h,h.1,I⟩⟩
 · exact (Em B (t:Int) c (-1000000000) 1000000000).filter _
theorem Sj(B:BQ rs)(hn:rs.length<=2000)(m:∀r∈rs,r.ok)(t c:Nat)(G:t<=3)(hc:c<=3)(lo hi:Int)(g:lo<=hi):ES (En rs t c lo hi)=Dt rs (t:Int) c lo hi:=by rw [eQ B hn m t c G hc lo hi g,uz B m t c G hc lo hi g]
def CL(c:Int)(n:Nat):Nat:=((if c<0 then-(c+1)else c).tmod n).toNat
theorem Dv(c:Int)(n:Nat)(hn:0<n):CL c n<n:=by
 unfold CL;have g:0<=(if c<0 then-(c+1)else c):=by split<;>omega
 have h2:=Int.tmod_lt_of_pos (if c<0 then-(c+1)else c) (b:=(n:Int)) A1;have m:=Int.tmod_nonneg (n:Int) g
 omega
theorem ZH(c:Int)(n:Nat):(if c<0 then-(c+1)else c).tmod n=(CL c n:Int):=by
 unfold CL;have g:0<=(if c<0 then-(c+1)else c):=by split<;>omega
 have m:=Int.tmod_nonneg (n:Int) g;omega
theorem xg{c:Chg}{x:AX}(h:x∈EN rs c):x∈rs\/(c.has=true/\x=⟨c.t,c.k,c.n⟩):=by
 unfold EN at h;rcases Bm.1 h with h|h
 · rcases Bm.1 h with h|h
   · exact .inl (Pc h)
   · exact .inr (MN.1 h)
 · exact .inl (KB (KB h))
theorem yw{c:Chg}(h:c.ok)(g:c.has=true):AX.ok ⟨c.t,c.k,c.n⟩:=by
 obtain ⟨_,h2,_⟩:=h;rw [LV g]at h2;exact HL.1 fun m=>h2 (.inr ⟨g,m⟩)
theorem Vg:∀(cs:List Chg) (rs:List AX),(∀r∈rs,r.ok)->(∀c∈cs,c.ok)->∀r∈DU rs cs,r.ok
 |[],rs,h,_=>h
 |c::cs,rs,h,hc=>by
  have B:∀r∈EN rs c,r.ok:=fun r m=>by
   rcases xg m with m|⟨hh,rfl⟩
   · exact h r m
   · exact yw (hc c B4) hh
  exact Vg cs (EN rs c) B (fun c g=>hc c (by simp [g]))
theorem FC.rowsOk{l:List BP}(h:FC l):∀i,i<=l.length->∀r∈Bb (l.take i),r.ok
 |0,_=>by intro r g;simp [Bb]at g
 |i+1,hi=>by
  obtain ⟨r,g⟩:∃r,l[i]?=some r:=⟨_,B7 A1⟩;rw [Bn g,Gn];refine Vg _ _ (FC.rowsOk h i A1) fun c hc=>?_;obtain ⟨j,m⟩:=HE hc;exact (h i r g).1.ok.all j c m
theorem qV{p:B6}{n cap:Nat}{xs:List (List Int)}(h:Wm M (.slice p n cap) xs)(k:Nat)(G:k<=n):Wm M (.slice p k cap) (xs.take k):=by
 obtain ⟨J,g,e,I,B⟩:=h;injection e with e1 e2 e3
 subst e1 e2 e3;have m:(xs.take k).length=k:=by rw [CC];exact RT G
 refine ⟨p,cap,by rw [m],by omega,fun i z hz=>B i z ?_⟩;rw [HJ]at hz;split at hz;· exact hz
 · cases hz
def cs0:List Chg:=[⟨0,3,false,V3.zero,true,⟨10,0,0⟩⟩,⟨0,5,false,V3.zero,true,⟨10,21,30⟩⟩]
def l0(gc:Nat):List BP:=[⟨1,some ⟨gc,0,none⟩,2,cs0⟩]
def RP.cut(x:RP):RP:=⟨x.tb,x.cl,x.lo,x.hi,x.ct,x.fi,x.rows.drop 1,x.paths.drop 1,x.roots⟩
variable{v:A3}{x:RP}
theorem tW(hv:UZ M v x)(h:Gh x)(G:ES x=l):BZ prog 180 #[v] [M] (fun r H'=>∃B m,r= .tuple #[B,.bool true]/\Bd 5 72 B l.length (Af l) m/\H'=[m,M]):=by
 have g:=lM hv;rw [DE h,G]at g;exact g
variable{M':List A9}
theorem UZ.mono(h:UZ M v x)(g:∀c∈M,c∈M'):UZ M' v x:=by
 obtain ⟨I,G,J,e,m,h2,B⟩:=h;exact ⟨I,G,J,e,m.mono g,h2.mono g,B.mono g⟩
theorem TE:∀(n:Nat) (l:List Bs) (i:Nat),l.length<=n->(FJ l i).length<=l.length
 |n,l,i,hn=>by
  rcases E4 l.length 2 with h|h
  · rw [Vi A1];simp
  · have m:=PT h
    have h2:=PS l.length
    match n,hn with
    |0,hn=>omega
    |n+1,hn=>
    by_cases hi:i<Dc l.length
    · have g:=TE n (l.take (Dc l.length)) i (by rw [CC];omega)
      rw [CC]at g;rw [Qz h hi,BW];simp only [Fl];omega
    · have g:=TE n (l.drop (Dc l.length)) (i -Dc l.length) (by rw [CD];omega)
      rw [CD]at g;rw [P9 h hi,BW];simp only [Fl];omega
theorem ZC(m:BQ rs)(hn:rs.length<=2000)(t c:Nat)(lo hi:Int):∀l∈(En rs t c lo hi).paths,l.length<=1000000:=by
 intro l h;obtain ⟨x,_,rfl⟩:=C3.1 h;have g:=TE _ (OB (BI rs (t:Int) c)) (Bt (BI rs (t:Int) c) c lo+x) (D2 _)
 have h2:=JL m (t:Int) c;rw [GX]at g;omega
theorem tE(q:QM)(m:BF q):BB prog 147 #[.agg q.A98] [] (.tuple #[I4 q.tb,I4 q.cl,I4 q.lo,I4 q.hi]):=by
 refine Se func147 ntmps147 [0] ?_;intro u R;refine A0<|Ze (Bx q.A98)<|AG fun bq=>Za Y<|Za Y<|Za Y<|A4 Y<|Zq<|A0<|Zo Wh (AA (cs:=#[_,_,_,_,_,_,_]) F2 CN Y B1 As)<|Xr [_] Y call35 Y V (Jg q)<|Zv (Cn Y)<|A5<|AU Y (fun g=>?_) (fun g=>?_);·
  exfalso;simp [m]at g
 refine AC<|Zx<|Zq<|Az (n:=12) (0::1::0::4::0::16::0::64::3::271::831::2047::[]) 0 AE AE V<|A2 0 V (AB (off:=1) CT V rfl A6 Y)<|B9 1 V AF Y<|A2 2 V (AB (off:=2) CT V rfl A6 Y)<|B9 3 V AF Y<|A2 4 V (AB (off:=3) CT V rfl A6 Y)<|B9 5 V AF Y<|A2 6 V (AB (off:=4) CT V rfl A6 Y)<|B9 7 V AF Y<|A2 8 V (Aw Y)<|A2 9 V (Aw Y)<|A2 10 V (Aw Y)<|A2 11 V (Aw Y)<|Ag<|Zn [2,3,4,5] ?_;refine Zx<|AJ<|jk V results147 Y Y Y Y (by exact ⟨V,V⟩)
theorem qn(q:QM)(g:BF q):BB prog 84 #[.agg q.A98] [] (.agg #[I4 q.tb,I4 q.cl,I4 q.lo,I4 q.hi]):=by
 refine Se func84 ntmps84 [0] ?_;intro u R;refine A0<|Ze (Bx q.A98)<|AG fun bq=>Ze (Al i7 #[_,_,_,_])<|AG fun m=>A5<|A0<|Zo Wh (AA (cs:=#[_,_,_,_,_,_,_]) F2 CN Y B1 As)<|Xr [_] Y call147 Y V (tE q g)<|Zm Y<|Zd Y V<|Zd Y V<|Zd Y V<|Zd Y V<|Zh 0 OR V rfl A6 Y<|Xe (Zs A6 Y Y V (hi:=by decide))<|Zh 1 OR V rfl A6 Y<|Xe (Zs A6 Y Y V (hi:=by(simp;done)))<|Zh 2 OR V rfl A6 Y<|Xe (Zs A6 Y Y V (hi:=by(simp;done)))<|Zh 3 OR V rfl A6 Y<|Xe (Zs A6 Y Y V (hi:=by(simp;done)))<|Z0<|Zn [2] ?_;refine Zx<|A0<|Zo Wh (AA (cs:=#[_,_,_,_]) isAgg180 cF Y B1 (BK rfl))<|Xe (BM cF Y Y HT Wu (Dx rfl) Fc B1 (by exact BC _))<|A5<|AJ<|Cs rfl results84 Y Wh (Am isAgg180 cF Wn (BK rfl)) ir
theorem Um{P:Program}{env:Env}{d:Option Nat}{ty:AK}{pos:String}{af:Array Edge}{g:Option (Nat×Bool)}{x:Operand}{m at_:AK}{ok:Bool}{r:A3}(hx:∀a,ev a env x=v)(B:∀w:AD,(Instr.typeAssert v m at_ ok).run P w= .ok r w):OpP P ⟨d,.typeAssert x m at_ ok,ty,pos,af,g⟩ env [] r:=fun a w _=>by
 simp [execOp,hx a,B w]
theorem tz(w:AD):(Instr.typeAssert .nilIface 20 114 true).run prog w= .ok (.tuple #[.nilIface,.bool false]) w:=by kernel_rfl
theorem aY{u w:AD}{H:Hp}{b:Nat}{o:Obj}(h:Has b o H)(g:Sat u H w):w.heap[b]?=some o:=g.get _ h.mem
variable{q:QM}
theorem oD(m:BF q)(g:q.kd≠7):Ie q (Dt rs q.tb q.cl.toNat q.lo q.hi) []=Ci rs q:=by
 rw [PY m];unfold Ci FV CS;split;· rfl
 · split
   · rfl
   · split
     · rfl
     · split
       · rfl
       · first
         |rfl
         |(split
           · rename_i h;exact absurd h g
           · rfl)
theorem tP(B:BQ rs)(hn:rs.length<=2000)(g:∀r∈rs,r.ok)(q:QM)(G:BF q):Gh (En rs q.tb.toNat q.cl.toNat q.lo q.hi)/\ES (En rs q.tb.toNat q.cl.toNat q.lo q.hi)=Dt rs q.tb q.cl.toNat q.lo q.hi:=by
 obtain ⟨I,h2,m,_⟩:=id G;refine ⟨OE B hn g q.tb.toNat q.cl.toNat A1 A1 q.lo q.hi m.2.1,?_⟩;have h:=Sj B hn g q.tb.toNat q.cl.toNat A1 A1 q.lo q.hi m.2.1
 rwa [show((q.tb.toNat:Nat):Int)=q.tb by omega]at h
theorem rW(g:BF q):(En rs q.tb.toNat q.cl.toNat q.lo q.hi).tb=q.tb/\(En rs q.tb.toNat q.cl.toNat q.lo q.hi).cl=q.cl/\(En rs q.tb.toNat q.cl.toNat q.lo q.hi).lo=q.lo/\(En rs q.tb.toNat q.cl.toNat q.lo q.hi).hi=q.hi:=by
 obtain ⟨m,h2,_⟩:=id g;exact ⟨show((q.tb.toNat:Nat):Int)=q.tb by omega,show((q.cl.toNat:Nat):Int)=q.cl by omega,V,V⟩
theorem Kb:BB prog 124 #[.bool true] [] undef:=by
 refine Se func124 ntmps124 [0] ?_;intro u R;refine A0<|Zm Y<|Zv (Br Y)<|A5<|AU Y (fun g=>by cases g)<|fun g=>AC<|Cw V results124 (by exact ⟨V,V⟩)
theorem yz(pk:A3):Pv prog 123 #[pk] .returning .returning [] (fun H'=>H'=[]):=by
 refine YZ (env1:=[(3,.bool false),(2,.nilIface),(8,.bool false),(7,.nilIface),(4,.tuple #[.nilIface,.bool false]),(6,.tuple #[.nilIface,.bool false]),(5,.nilIface),(0,pk)]) func123 V ntmps123 V results123 ?hrec_1 ?hwalk_1
 case hrec_1=>
  intro u R c cs Q m G;show pW _ _ [0,1,2,3,4,5,6] _ _ _ _ _
  have g:({c with mode:= .returning}:Frame)=c:=by cases c;simp only at m;subst m;rfl
  rw [g]at G;refine gB V (by simp [recoverD,m]) V ?_;refine QV V (Um Y tz) V ?_;refine QV V (AP Y) V ?_;refine QV V (C8 Y V) V ?_;refine QV V (C8 Y V) V ?_;refine QV V (Aw Y) V ?_;refine QV V (Aw Y) V ?_;intro a w I;exact G a w I
 intro u R;refine Zb [0,2,3] ?_;refine A0<|Zm Y<|Zm Y<|Ae (t:=10) Y V (fun B=>by cases B)<|fun B=>A7 Y V<|A7 Y V<|A7 Y V<|Zv (AL Y Y)<|A5<|D9 Y<|AC<|Cw V results123 As
theorem tB(g:Nat)(B:A3):Pv prog 122 #[I5 g,B] .returning .returning [[(g,.cells #[.bool true] 4 (0,0))]] (fun H'=>H'=[[(g,.cells #[.bool true] 4 (0,0))]]):=by
 refine bQ func122 V ntmps122 V ?_;intro u R;refine Zb [0,1] ?_;refine A0<|Zl E6 Y ?_;refine Zv (Br Y)<|A5<|AU Y (fun m=>by cases m)<|fun m=>AC<|Cw V results122 As
structure RPZ where
 x:RP
 qr:B6
 cr:Nat
 qp:B6
 cp:Nat
 qt:B6
 ct:Nat
def Eh(z:RPZ):List A3:=[I4 z.x.tb,I4 z.x.cl,I4 z.x.lo,I4 z.x.hi,I4 z.x.ct,I4 z.x.fi,.slice z.qr z.x.rows.length z.cr,.slice z.qp z.x.paths.length z.cp,.slice z.qt z.x.roots.length z.ct]
def RPZ.ok(M:List A9)(z:RPZ):Prop:=DW M (.slice z.qr z.x.rows.length z.cr) z.x.rows/\Ir M (.slice z.qp z.x.paths.length z.cp) z.x.paths/\EL M (.slice z.qt z.x.roots.length z.ct) z.x.roots
theorem tM(h:UZ M v x):∃z:RPZ,z.x=x/\z.ok M/\v= .agg #[I4 z.x.tb,I4 z.x.cl,I4 z.x.lo,I4 z.x.hi,I4 z.x.ct,I4 z.x.fi,.slice z.qr z.x.rows.length z.cr,.slice z.qp z.x.paths.length z.cp,.slice z.qt z.x.roots.length z.ct]:=by
 obtain ⟨O,J,U,rfl,g,h2,m⟩:=h;obtain ⟨qr,cr,rfl,B⟩:=id g;obtain ⟨qp,cp,rfl,G⟩:=id h2;obtain ⟨qt,ct,rfl,I⟩:=id m;exact ⟨⟨x,qr,cr,qp,cp,qt,ct⟩,V,⟨g,h2,m⟩,V⟩
theorem RPZ.ok.mono{z:RPZ}(h:z.ok M)(g:∀c∈M,c∈M'):z.ok M':=⟨h.1.mono g,h.2.1.mono g,h.2.2.mono g⟩
theorem RPZ.ok.rp{z:RPZ}(h:z.ok M):UZ M (.agg #[I4 z.x.tb,I4 z.x.cl,I4 z.x.lo,I4 z.x.hi,I4 z.x.ct,I4 z.x.fi,.slice z.qr z.x.rows.length z.cr,.slice z.qp z.x.paths.length z.cp,.slice z.qt z.x.roots.length z.ct]) z.x:=⟨_,_,_,rfl,h⟩
def ZsU(M:List A9)(v:A3)(Z:List RPZ):Prop:=∃p cap,v= .slice p Z.length cap/\(Z.length<=maxLen/\Z.length<=cap)/\∀(i:Nat) (z:RPZ),Z[i]?=some z->z.ok M/\∃g off cur T zz,p=some ⟨g,off,none⟩/\(g,Obj.cells cur T zz)∈M/\off+i*9+9<=cur.size/\cur.extract (off+i*9) (off+i*9+9)=#[I4 z.x.tb,I4 z.x.cl,I4 z.x.lo,I4 z.x.hi,I4 z.x.ct,I4 z.x.fi,.slice z.qr z.x.rows.length z.cr,.slice z.qp z.x.paths.length z.cp,.slice z.qt z.x.roots.length z.ct]
def FW(M:List A9)(v:A3)(L:List RP):Prop:=∃Z,ZsU M v Z/\Z.map RPZ.x=L
variable{Z:List RPZ}
theorem ZsU.mono(h:ZsU M v Z)(m:∀c∈M,c∈M'):ZsU M' v Z:=by
 obtain ⟨p,cap,e,O,J⟩:=h;refine ⟨p,cap,e,O,fun i z hz=>?_⟩;obtain ⟨h2,g,off,cur,T,zz,B,G,I⟩:=J i z hz;exact ⟨h2.mono m,g,off,cur,T,zz,B,m _ G,I⟩
variable{L:List RP}
theorem FW.mono(h:FW M v L)(m:∀c∈M,c∈M'):FW M' v L:=by
 obtain ⟨Z,g,h2⟩:=h;exact ⟨Z,g.mono m,h2⟩
theorem Wv{s B:List A9}(h:Bd 9 146 v Z.length (Z.flatMap Eh) s)(hn:Z.length<=maxLen)(I:∀z∈Z,z.ok B):ZsU (s++B) v Z:=by
 obtain ⟨b,cap,rfl⟩:=h.form;refine ⟨b,cap,V,⟨hn,Ew h⟩,fun i z hz=>⟨(I z (Dg hz)).mono (fun c hc=>GB _ hc),?_⟩⟩;obtain ⟨g,G,cur,zz,hv,rfl,J,m⟩:=KH h i (C4.1 hz).1;injection hv with hv1 hv2 hv3
 refine ⟨g,0,cur,146,zz,hv1,E7 _ (C1.2 V),by omega,?_⟩;rw [DM];apply HX.1;rw [m];exact J7 _ 9 (fun _=>rfl) Z i z hz
theorem qg{s g:List A9}(h:Bd 9 146 v Z.length (Z.flatMap Eh) s)(hn:Z.length<=maxLen)(m:∀z∈Z,z.ok g):FW (s++g) v (Z.map RPZ.x):=⟨Z,Wv h hn m,rfl⟩
theorem FW.form(h:FW M v L):∃p cap,v= .slice p L.length cap/\L.length<=maxLen/\L.length<=cap:=by
 obtain ⟨Z,⟨p,cap,e,g,_⟩,rfl⟩:=h;rw [B8];exact ⟨p,cap,e,g⟩
theorem FW.at{M:List A9}{p:B6}{n cap:Nat}{L:List RP}(h:FW M (.slice p n cap) L){i:Nat}{x:RP}(hx:L[i]?=some x):∃z:RPZ,z.x=x/\z.ok M/\∃g off cur T zz,p=some ⟨g,off,none⟩/\(g,Obj.cells cur T zz)∈M/\off+i*9+9<=cur.size/\cur.extract (off+i*9) (off+i*9+9)=#[I4 z.x.tb,I4 z.x.cl,I4 z.x.lo,I4 z.x.hi,I4 z.x.ct,I4 z.x.fi,.slice z.qr z.x.rows.length z.cr,.slice z.qp z.x.paths.length z.cp,.slice z.qt z.x.roots.length z.ct]:=by
 obtain ⟨Z,⟨G,m,e,_,B⟩,rfl⟩:=h;injection e with e1 e2 e3
 subst e1;rw [E0]at hx;cases hz:Z[i]?with
 |none=>rw [hz]at hx;cases hx
 |some z=>
  rw [hz]at hx;injection hx with hx
  exact ⟨z,hx,B i z hz⟩
theorem FW.tail{p:B6}{n cap:Nat}(h:FW M (.slice p n cap) (x::L)):FW M (.slice (EY p 1 cap 9) (n -1) (cap -1)) L:=by
 obtain ⟨Z,⟨X,J,e,⟨I,m⟩,G⟩,B⟩:=h;injection e with e1 e2 e3
 subst e1 e2 e3
 match Z,B,I,m,G with
 |z::Z,B,I,m,G=>
  injection B with hZ1 hZ2
  rw [Dd]at I m;refine ⟨Z,⟨_,_,by rw [Dd,R0],⟨by omega,by omega⟩,fun i y hy=>?_⟩,hZ2⟩;obtain ⟨h2,g,off,cur,T,zz,rfl,O,W,U⟩:=G (i+1) y (by simpa using hy);have hi:=(C4.1 hy).1
  refine ⟨h2,g,off+1*9,cur,T,zz,?_,O,by omega,by rw [show off+1*9+i*9=off+(i+1)*9 by omega];exact U⟩;unfold EY;rw [An A1,NX,CW]
def XU(q:QM)(r:AX):Int×Int×Int×Int:=(q.ot,0,Bl r q.bq,Bl r q.bq)
def Ye(q:QM):Int×Int×Int×Int:=(q.tb,q.cl,q.lo,q.hi)
def RP.scan(x:RP):Int×Int×Int×Int:=(x.tb,x.cl,x.lo,x.hi)
noncomputable def P8(s:Int×Int×Int×Int):List RP->Option (List AX×List RP)
 |[]=>none
 |x::l=>if x.scan=s/\Gh x then some (ES x,l)else none
noncomputable def El(q:QM):List AX->List RP->Option (List AX×List RP)
 |[],l=>some ([],l)
 |r::rs,l=>(P8 (XU q r) l).bind fun a=>(El q rs a.2).map fun b=>(a.1++b.1,b.2)
noncomputable def Ea(q:QM)(L:List RP):Option CB:=
 if BF q then(P8 (Ye q) L).bind fun a=>if a.1.length<=100 then(if q.kd=7 then El q a.1 a.2 else some ([],a.2)).bind fun b=>if b.2=[]then some (FV q a.1 b.1)else none else none else none
theorem Sr{s:Int×Int×Int×Int}{a:List AX×List RP}(h:P8 s L=some a):∃x,L=x::a.2/\x.scan=s/\Gh x/\a.1=ES x:=by
 unfold P8 at h;split at h;· cases h
 · split at h
   · rename_i x l h9
     injection h with h
     subst h;exact ⟨x,V,h9.1,h9.2,V⟩
   · cases h
theorem Va{s:Int×Int×Int×Int}{l:List RP}(g:x.scan=s)(h2:Gh x):P8 s (x::l)=some (ES x,l):=Ax ⟨g,h2⟩
theorem M4{l:List RP}{b:List AX×List RP}(h:El q (r::rs) l=some b):∃a c,P8 (XU q r) l=some a/\El q rs a.2=some c/\b=(a.1++c.1,c.2):=by
 unfold El at h;cases ha:P8 (XU q r) l with
 |none=>rw [ha]at h;cases h
 |some a=>
  rw [ha,KK]at h;cases hc:El q rs a.2 with
  |none=>rw [hc]at h;cases h
  |some c=>rw [hc]at h;injection h with h;exact ⟨a,c,rfl,hc,h.symm⟩
theorem Oz{q:QM}:∀(rows:List AX) (i:Nat) (L:List RP) (b:List AX×List RP),i<=rows.length->El q rows L=some b->∃o g,El q (rows.take i) L=some (o,g)/\∃m,El q (rows.drop i) g=some (m,b.2)/\b.1=o++m
 |rows,0,L,b,_,h=>⟨[],L,rfl,b.1,by rw [RW];exact h,rfl⟩
 |r::rows,i+1,L,b,hi,h=>by
  obtain ⟨a,c,B,h2,rfl⟩:=M4 h;obtain ⟨o,g,G,m,I,J⟩:=Oz rows i a.2 c (by simpa using hi) h2;refine ⟨a.1++o,g,?_,m,by rw [List.drop_succ_cons];exact I,by rw [J,D3]⟩;rw [mc];unfold El;rw [B,KK,G];rfl
theorem Qx{q:QM}:∀(rows:List AX) (i:Nat) (r:AX) (L l':List RP) (o:List AX) (a:List AX×List RP),rows[i]?=some r->El q (rows.take i) L=some (o,l')->P8 (XU q r) l'=some a->El q (rows.take (i+1)) L=some (o++a.1,a.2)
 |r9::rows,0,r,L,l',o,a,hr,h,ha=>by
  injection hr with hr
  subst hr;injection h with h
  injection h with g h2
  subst g h2;show El q [r9] L=_
  unfold El;rw [ha,KK];show some (a.1++[],a.2)=some ([]++a.1,a.2)
  rw [DG,Ln]
 |r9::rows,i+1,r,L,l',o,a,hr,h,ha=>by
  rw [mc]at h⊢;obtain ⟨G,B,g,h2,m⟩:=M4 h;injection m with m h4
  have:=Qx rows i r G.2 B.2 B.1 a (by simpa using hr) h2 (by rw [<-h4];exact ha);unfold El;rw [g,KK,this,m,D3];rfl
theorem Qq{r:CB}(h:Ea q L=some r):∃x g,L=x::g/\BF q/\x.scan=Ye q/\Gh x/\(ES x).length<=100/\((q.kd≠7/\g=[]/\r=FV q (ES x) [])\/(q.kd=7/\∃o,El q (ES x) g=some (o,[])/\r=FV q (ES x) o)):=by
 unfold Ea at h;split at h
 · rename_i hq
   cases ha:P8 (Ye q) L with
   |none=>rw [ha]at h;cases h
   |some a=>
    obtain ⟨x,m,h2,B,G⟩:=Sr ha;rw [ha,KK]at h;split at h
    · rename_i h5
      rw [G]at h5 h;refine ⟨x,a.2,m,hq,h2,B,h5,?_⟩;split at h
      · rename_i h7
        cases hb:El q (ES x) a.2 with
        |none=>rw [hb]at h;cases h
        |some b=>
         rw [hb,KK]at h;split at h
         · rename_i h8
           injection h with h
           exact .inr ⟨h7,b.1,by rw [<-h8],h.symm⟩
         · cases h
      · rename_i h7
        rw [KK]at h;split at h
        · rename_i h8
          injection h with h
          exact .inl ⟨h7,h8,h.symm⟩
        · cases h
    · cases h
 · cases h
def Ff(rs:List AX)(q:QM):List RP:=En rs q.tb.toNat q.cl.toNat q.lo q.hi::(if q.kd=7 then(CS rs q).map fun r=>En rs q.ot.toNat 0 (Bl r q.bq) (Bl r q.bq)else [])
theorem Sq{rs:List AX}(m:BQ rs)(hn:rs.length<=2000)(g:∀r∈rs,r.ok){q:QM}(I:0<=q.ot/\q.ot<=3):∀l:List AX,El q l (l.map fun r=>En rs q.ot.toNat 0 (Bl r q.bq) (Bl r q.bq))=some (l.flatMap fun r=>Dt rs q.ot 0 (Bl r q.bq) (Bl r q.bq),[])
 |[]=>rfl
 |r::l=>by
  have e:((q.ot.toNat:Nat):Int)=q.ot:=by omega
  have B:=OE m hn g q.ot.toNat 0 A1 A1 (Bl r q.bq) (Bl r q.bq) (Wg _);have h2:=Sj m hn g q.ot.toNat 0 A1 A1 (Bl r q.bq) (Bl r q.bq) (Wg _)
  have G:=Sq m hn g I l;rw [e]at h2;unfold El;rw [Ek,Va (by show(((q.ot.toNat:Nat):Int),((0:Nat):Int),_,_)=(_,_,_,_);rw [e];rfl) B,KK];simp only [G,h2,NX,HW]
theorem oG{f:AX->Bool}{g:AX->List AX}{y:AX}(B:∀a b,f a=true->f b=true->(∃r,a∈g r)->(∃r,b∈g r)->a=b):∀l:List AX,(∃r∈l,y∈g r)->f y=true->(l.flatMap g).find? f=some y:=fun l ⟨r,G,hy⟩ h=>by
 cases hfi:(l.flatMap g).find? f with
 |none=>exact absurd h (by simpa using mu.1 hfi y (SM.2 ⟨r,G,hy⟩))
 |some x=>
  have m:=nb (p:=f) hfi;obtain ⟨I,_,hx⟩:=SM.1 (lr hfi);rw [B x y m h ⟨I,hx⟩ ⟨r,hy⟩]
theorem dh(G:BQ rs)(hn:rs.length<=2000)(J:∀r∈rs,r.ok)(m:BF q)(hl:(CS rs q).length<=100):Ea q (Ff rs q)=some (Ci rs q):=by
 have hk:=m.2.2.2;have hc:=m.2.1
 have ht:=m.1;obtain ⟨U,h2⟩:=tP G hn J q m;have O:=rW (rs:=rs) m
 have ax:(En rs q.tb.toNat q.cl.toNat q.lo q.hi).scan=Ye q:=by unfold RP.scan Ye;rw [O.1,O.2.1,O.2.2.1,O.2.2.2]
 unfold Ea Ff;rw [Ax m,Va ax U,KK];simp only [h2];rw [show Dt rs q.tb q.cl.toNat q.lo q.hi=CS rs q from rfl,Ax hl];by_cases B:q.kd=7
 · rw [Ax B,Ax B,Sq G hn J A1,KK,Ax rfl]
   unfold Ci FV;simp only [An (show¬q.kd=3 by omega),An (show¬q.kd=4 by omega),An (show¬q.kd=5 by omega),An (show¬q.kd=6 by omega),Ax B];congr 2;unfold Iy;have g:∀k x,x∈Dt rs q.ot 0 k k↔x∈rs/\x.t=q.ot/\x.k=k:=fun k x=>by
    rw [(ET rs q.ot 0 k k).mem_iff,FF];unfold inR Di;rw [G3,Ax rfl];constructor;· rintro ⟨a,b,c,d⟩;exact ⟨a,b,by omega⟩
    · rintro ⟨a,b,c⟩;exact ⟨a,b,by omega,by omega⟩
   have af:∀r∈CS rs q,Iw q ((CS rs q).flatMap fun r=>Dt rs q.ot 0 (Bl r q.bq) (Bl r q.bq)) r=Iw q (IW rs q.ot) r:=fun r hr=>by
    unfold Iw
    suffices e:De q ((CS rs q).flatMap fun r=>Dt rs q.ot 0 (Bl r q.bq) (Bl r q.bq)) (Bl r q.bq)=De q (IW rs q.ot) (Bl r q.bq) by rw [e]
    cases hp:De q (IW rs q.ot) (Bl r q.bq)with
    |none=>
     unfold De;refine mu.2 fun x hx I=>?_;obtain ⟨r',_,hx⟩:=SM.1 hx;have W:=(g _ x).1 hx
     have X:x.t=q.ot/\x.k=Bl r q.bq:=by simpa using I
     have:=(Fq G (q:=q) (Bl r q.bq) x).2 ⟨W.1,X⟩;rw [hp]at this;cases this
    |some x=>
     have I:=(Fq G (q:=q) (Bl r q.bq) x).1 hp;unfold De;refine oG (fun a b ha hb ⟨r1,U⟩ ⟨r2,h2⟩=>?_) _ ⟨r,hr,(g _ x).2 ⟨I.1,I.2⟩⟩ (DE I.2);have a1:=(g _ a).1 U
     have b1:=(g _ b).1 h2;have a2:a.t=q.ot/\a.k=Bl r q.bq:=by simpa using ha
     have b2:b.t=q.ot/\b.k=Bl r q.bq:=by simpa using hb
     have a3:=(Fq G (q:=q) (Bl r q.bq) a).2 ⟨a1.1,a2⟩;have b3:=(Fq G (q:=q) (Bl r q.bq) b).2 ⟨b1.1,b2⟩
     rw [a3]at b3;injection b3
   have:∀l:List AX,(∀r∈l,Iw q ((CS rs q).flatMap fun r=>Dt rs q.ot 0 (Bl r q.bq) (Bl r q.bq)) r=Iw q (IW rs q.ot) r)->l.flatMap (Iw q ((CS rs q).flatMap fun r=>Dt rs q.ot 0 (Bl r q.bq) (Bl r q.bq)))=l.flatMap (Iw q (IW rs q.ot)):=fun l=>by
    induction l with
    |nil=>intro _;rfl
    |cons r l ih=>intro h;rw [HW,HW,h r B4,ih fun x hx=>h x (by simp [hx])]
   exact this _ af
 · rw [An B,An B,KK,Ax rfl]
   rw [<-oD m B,PY m];rfl
theorem xk(v:A3)(p:Int)(rs:List AX)(s:List A9)(hv:Rh v p rs s)(O:BQ rs)(hn:rs.length<=2000)(B:∀r∈rs,r.ok)(t c lo hi:Int)(U:0<=t/\t<=3)(hc:0<=c/\c<=3)(m:lo<=hi)(g:AK)(G:Nat×Nat):
 BZ prog 83 #[v,I4 t,I4 c,I4 lo,I4 hi] [[(2,.cells (Er.map Ct).toArray g G)],s] (fun r H'=>∃(z:RPZ) (mem:List A9),z.x=En rs t.toNat c.toNat lo hi/\z.ok mem/\r= .tuple #[.agg #[I4 z.x.tb,I4 z.x.cl,I4 z.x.lo,I4 z.x.hi,I4 z.x.ct,I4 z.x.fi,.slice z.qr z.x.rows.length z.cr,.slice z.qp z.x.paths.length z.cp,.slice z.qt z.x.roots.length z.ct],I4 0]/\H'=[mem,[(2,.cells (Er.map Ct).toArray g G)],s]):=by
 have h:=fC v p rs s hv O hn B t.toNat c.toNat A1 A1 lo hi m g G;rw [show((t.toNat:Nat):Int)=t by omega,show((c.toNat:Nat):Int)=c by omega]at h;refine h.mono ?_;rintro r H' ⟨W,mem,rfl,J,rfl⟩;obtain ⟨z,I,h2,rfl⟩:=tM J;exact ⟨z,mem,I,h2,V,V⟩
theorem zP(Z:List RPZ):∀u∈Z.flatMap Eh,u.oneCell'=true:=by
 intro u g;obtain ⟨z,_,h⟩:=SM.1 g;unfold Eh at h;simp only [DB,RR,PF]at h;rcases h with rfl|rfl|rfl|rfl|rfl|rfl|rfl|rfl|rfl<;>rfl
theorem vh(Z:List RPZ):(Z.flatMap Eh).length=Z.length*9:=by
 induction Z with
 |nil=>rfl
 |cons z Z ih=>rw [HW,BW,ih,Dd];show 9+_=_;omega
theorem TL(q:QM)(g:0<=q.bq/\q.bq<=3)(r:AX):BB prog 86 #[.agg q.A98,.agg r.A97] [] (.agg #[I4 q.ot,I4 0,I4 (Bl r q.bq),I4 (Bl r q.bq)]):=by
 refine Se func86 ntmps86 [0,1] ?_;intro u R;refine A0<|Ze (Bx q.A98)<|AG fun bq=>Ze (Bx #[_,_,_,_,_])<|AG fun B=>Ze (Al i7 #[_,_,_,_])<|AG fun m=>A5<|A0<|Zo Wh (AA (cs:=#[_,_,_,_,_]) D0 B0 Y B1 (by exact BK V)) ?_;refine Zh 5 CT V rfl A6 Y<|Zl AF Y ?_;refine Xr [_,_] Y Sx Y V (Fy r q.bq g) ?_;refine A4 Y<|A0<|Zh 6 CT V rfl A6 Y<|Zl AF Y ?_;refine Zm Y<|Zm Y<|Zv (BL (vs:=[(0,_),(1,_),(2,_),(3,_)]) (cs:=#[_,_,_,_]) Y (AZ (pl:=#[(0,1),(1,1),(2,1),(3,1)]) i7 OR (fun _=>by kernel_rfl) rfl))<|Xe (BM cF Y Y (by(simp [Value.oneCell',Value.cells];done)) Wu (by exact Dx rfl) Fc AW (by exact BC _)) ?_;refine Z0<|Zn [4] ?_;refine Zx<|AJ<|Cs V results86 Y Wh (Am isAgg180 cF Wn (BK V)) (by exact ⟨V,V⟩)
theorem zT(v:A3)(p:Int)(rs:List AX)(s:List A9)(hv:Rh v p rs s)(hs:BQ rs)(hn:rs.length<=2000)(X:∀r∈rs,r.ok)(t B lo hi:Int)(ht:0<=t/\t<=3)(hc:0<=B/\B<=3)(W:lo<=hi)(I:AK)(zg:Nat×Nat)(bs J:Nat){g:B6}{G:List A9}(af:Bd 9 146 (.slice g Z.length c) Z.length (Z.flatMap Eh) G)(hZ:Z.length<=1000000):BZ prog 82 #[.agg #[I4 t,I4 B,I4 lo,I4 hi],I5 bs,I5 J] [[(2,.cells (Er.map Ct).toArray I zg)],s,[(bs,.cells #[v] 98 (0,0))],[(J,.cells #[.slice g Z.length c] 35 (0,0))],G] (fun r H'=>r=undef/\∃(z:RPZ) (mem:List A9) (g:B6) (c:Nat) (G:List A9),z.x=En rs t.toNat B.toNat lo hi/\z.ok mem/\Bd 9 146 (.slice g (Z.length+1) c) (Z.length+1) ((Z++[z]).flatMap Eh) G/\H'=[mem,G,[(2,.cells (Er.map Ct).toArray I zg)],s,[(bs,.cells #[v] 98 (0,0))],[(J,.cells #[.slice g (Z.length+1) c] 35 (0,0))]]):=by
 have d9:=mL;obtain ⟨sp,mb,es,ck,lm,rfl,cO⟩:=id hv;refine Se func82 ntmps82 [0,1,2] ?_;intro u R;refine A0<|Ze (Bx #[_,_,_,_])<|AG fun bx=>A5<|A0<|Zl isAgg98 Y<|Zh 0 OR V rfl A6 Y<|Zl AF Y<|Zh 1 OR V rfl A6 Y<|Zl AF Y<|Zh 2 OR V rfl A6 Y<|Zl AF Y<|Zh 3 OR V rfl A6 Y<|Zl AF Y<|Zc [_,_,_,_,_] Y call83 Y V (xk _ p rs s hv hs hn X t B lo hi ht hc W I zg) ?_;rintro _ _ ⟨_,⟨z,mem,bn,ax,rfl,rfl⟩,rfl⟩;refine Zm Y<|Zd Y V<|Zd Y V<|Ze (Al Z1 #[_,_,_,_,_,_,_,_,_])<|AG fun bp=>Xe (Xw HN #[I4 z.x.tb,I4 z.x.cl,I4 z.x.lo,I4 z.x.hi,I4 z.x.ct,I4 z.x.fi,.slice z.qr z.x.rows.length z.cr,.slice z.qp z.x.paths.length z.cp,.slice z.qt z.x.roots.length z.ct])<|AN Y<|Zn [2,4] ?_;refine Zx<|Zg<|Zl PC Y<|Zo Wh (AA (cs:=#[_,_,_,_,_,_,_,_,_]) S4 HN Y B1 As)<|Ze (Ai (vs:=[_]) (cs:=[_,_,_,_,_,_,_,_,_]) O2 HN Z1 Y V rfl V rfl V)<|AG fun gb=>Ze (BR (by_:=120) (sz:=9) O2 (V:Tryz.prog.info? 146=some Tryz.t146) V rfl V rfl Y (af) Y (DN 9 gb 1 1 146 (0,0) (Eh z) V) Wo Wo (by have:=zP [z];simpa using this) A1 A1) ?_;rintro _ _ ⟨cu,m,rfl⟩;obtain ⟨U,O,rfl⟩:=m.form;refine Xe (Zs MD Y Y rfl (hi:=by(simp;done)))<|Z0<|Cw rfl results82 (by exact ⟨rfl,z,mem,U,O,cu,bn,ax,BS m rfl (by rw [Pu];simp),rfl⟩)
set_option maxHeartbeats 1000000 in
theorem tm(v:A3)(p:Int)(rs:List AX)(s:List A9)(hv:Rh v p rs s)(hs:BQ rs)(hn:rs.length<=2000)(gy:∀r∈rs,r.ok)(q:QM)(hq:BF q)(hl:(CS rs q).length<=100)(Tg:AK)(zg:Nat×Nat):BZ prog 34 #[v,.agg q.A98] [[(2,.cells (Er.map Ct).toArray Tg zg)],s] (fun w H'=>∃vo mem,w= .tuple #[vo,I4 0]/\FW mem vo (Ff rs q)/\H'=[mem,[(2,.cells (Er.map Ct).toArray Tg zg)],s]):=by
 have qj:=mL;obtain ⟨sp,mb,es,ck,lm,rfl,q9⟩:=id hv;have d9:=hq.2.1
 have p8:=@Su rs q.tb q.cl.toNat q.lo q.hi;have o8:0<=q.bq/\q.bq<=3:=by have:=hq.2.2.2;omega
 have o9:0<=q.ot/\q.ot<=3:=by have:=hq.2.2.2;omega
 refine Se func34 ntmps34 [0,1] ?_;intro u R;refine A0<|Ze (Bx #[_])<|AG fun bs=>Ze (Bx q.A98)<|AG fun bq=>Za Y<|A4 Y<|Zq<|AQ<|A0<|Zl isAgg98 Y<|Zv (Be lP Y Y)<|A4 Y<|AU Y (fun cu=>by cases cu)<|fun cu=>A0<|Zo Wh (AA (cs:=#[_,_,_,_,_,_,_]) F2 CN Y B1 As)<|Xr [_] Y call35 Y V (Jg q)<|Zv (Cn Y)<|A4 Y<|AU Y (fun cO=>?_) (fun cO=>?_);·
  exfalso;simp [hq]at cO
 refine AC<|A8<|Zx<|A0<|Ze (Al zeroValue35 #[_])<|AG fun bo=>A5<|A0<|Zv (Bh (vs:=[]) (us:=[_,_]) Y Y)<|AN Y<|Zn [2,3,6,7] ?_;refine Zx<|A0<|Zo Wh (AA (cs:=#[_,_,_,_,_,_,_]) F2 CN Y B1 As)<|Xr [_] Y call84 Y V (qn q hq)<|Ze (Al i7 #[_,_,_,_])<|AG fun bx=>Xe (Xw cF #[I4 q.tb,I4 q.cl,I4 q.lo,I4 q.hi])<|A5<|A0<|Zl isAgg98 Y<|Zh 0 OR V rfl A6 Y<|Zl AF Y<|Zh 1 OR V rfl A6 Y<|Zl AF Y<|Zh 2 OR V rfl A6 Y<|Zl AF Y<|Zh 3 OR V rfl A6 Y<|Zl AF Y<|Zc [_,_,_,_,_] Y call85 Y V (lF _ p rs s hv q.tb q.cl q.lo q.hi d9) ?_;rintro _ _ ⟨_,⟨s1,h1,rfl⟩,rfl⟩;rw [show Dt rs q.tb q.cl.toNat q.lo q.hi=CS rs q from rfl]at h1 p8;obtain ⟨p1,c1,rfl⟩:=h1.form;obtain ⟨p7,pq,e7,⟨qb,pz⟩,l8⟩:=id (DY h1 A1);injection e7 with e71 e72 e73
 subst e71 e73;refine AN Y<|Zn [3,6,7,8,9] ?_;refine Zx<|Zq<|A0<|Zm Y<|Zv (AY BE Y)<|Zv (DK (n:=100) Y Y)<|A5<|Aq Y (fun l5=>by omega)<|fun l5=>AC<|Zx<|Zq<|BX<|Zg<|Zm Y<|Zo Wh (AA (cs:=#[_,_,_,_]) isAgg180 cF Y B1 As)<|Zc [_] Y call82 Y V (zT _ p rs s hv hs hn gy q.tb q.cl q.lo q.hi hq.1 d9 hq.2.2.1.2.1 Tg zg bs bo (Z:=[]) (Bf 9 _) (C5 _)) ?_;rintro _ _ ⟨_,⟨rfl,z0,FR,g0,c0,ax,j5,W,U,rfl⟩,rfl⟩;refine A5<|Zb [3,7,9,6] ?_;refine DL (e0:=[(3,_),(7,_),(9,_)]) (H0:=[[(bo,.cells #[.slice g0 (([]:List RPZ).length+1) c0] 35 (0,0))],ax,FR]) (fun e H=>∃(Z:List RPZ) (g:B6) (c:Nat) (I B:List A9),(Z.map RPZ.x=Ff rs q/\(∀z∈Z,z.ok B)/\Bd 9 146 (.slice g Z.length c) Z.length (Z.flatMap Eh) I/\Z.length<=1000)/\e=[]/\H=[[(bo,.cells #[.slice g Z.length c] 35 (0,0))],I,B]) Wp ?hx_1 ?hy_1
 case hx_1=>
  refine A0<|Zh 0 CT V rfl A6 Y<|Zl AF Y<|Zv (CK Y Y)<|A5<|Aq Y (fun af=>?_) (fun af=>?_);·
   refine A0<|Zm Y<|Zv (AY BE Y)<|Zm Y<|A5<|AQ<|Zb [43,3,6,7,41,42] ?_;refine BA (e0:=[(43,_)]) (fun m e H=>∃(k:Nat) (Z:List RPZ) (g:B6) (c:Nat) (I B:List A9),m=(CS rs q).length -k/\(k<=(CS rs q).length/\Z.map RPZ.x=En rs q.tb.toNat q.cl.toNat q.lo q.hi::((CS rs q).take k).map (fun r=>En rs q.ot.toNat 0 (Bl r q.bq) (Bl r q.bq))/\(∀z∈Z,z.ok B)/\Z.length=k+1/\Bd 9 146 (.slice g Z.length c) Z.length (Z.flatMap Eh) I)/\e=[(43,I4 (k:Int))]/\H=[[(bo,.cells #[.slice g Z.length c] 35 (0,0))],I,B]) (by exact ⟨0,[z0],g0,c0,ax,FR,rfl,⟨C5 _,by rw [Kd,Kf,Mp,j5],fun z hz=>by rw [C1.1 hz];exact W,rfl,U⟩,rfl,rfl⟩) Wp ?_;rintro _ _ _ ⟨k,Z,g,c,I,B,rfl,⟨hk,G,J,bn,O⟩,rfl,rfl⟩;refine A0<|Zv (Au Y Y)<|A5<|Zq<|Aq Y (fun gq=>?_) (fun gq=>?_);·
    obtain ⟨r9,ic⟩:∃r9,(CS rs q)[k]?=some r9:=⟨_,B7 gq⟩;obtain ⟨g8,off,cur,T,zz,rfl,l9,qa,gm⟩:=l8 k r9 ic;refine AC<|Zx<|Zq<|AQ<|A0<|BV (Ad BE B0 Y Y A1)<|CG (cs:=[(g8,.cells cur T zz)]) (by simp [l9]) (AA (cs:=r9.A97) D0 B0 Y A1 gm) V rfl<|Ze (Al F0 #[_,_,_,_,_])<|AG fun bx=>Xe (Xw B0 r9.A97)<|A5<|Zg<|Zm Y<|Zo Wh (AA (cs:=#[_,_,_,_,_,_,_]) F2 CN Y B1 As)<|Zo Wh (AA (cs:=#[_,_,_,_,_]) D0 B0 Y B1 As)<|Xr [_,_] Y call86 Y V (TL q o8 r9)<|Zc [_] Y call82 Y V (zT _ p rs s hv hs hn gy q.ot 0 (Bl r9 q.bq) (Bl r9 q.bq) o9 A1 (Wg _) Tg zg bs bo O A1) ?_;rintro _ _ ⟨_,⟨rfl,z5,X,g5,c5,pg,p9,kv,j3,rfl⟩,rfl⟩;refine Z0<|A8<|Zx<|CP (s1:=X) (s2:=B) Wo Wo ?_;refine Zg<|Ya (n:=1) Y Y<|Zm Y<|Z0<|Zn [43,3,6,7,41,42] ?_;refine Ab (e':=[(43,_)]) (by exact ⟨k+1,Z++[z5],g5,c5,pg,X++B,rfl,⟨by omega,by rw [C2,G,Bn ic,C2,Mp,p9];rfl,fun z hz=>by rcases Bm.1 hz with h9|h9;exact (J z h9).mono (fun c hc=>GB _ hc);rw [C1.1 h9];exact kv.mono (fun c hc=>E7 _ hc),by rw [BW,bn];rfl,by rw [BW];exact j3⟩,rfl,by rw [BW]⟩)
   have ek:k=(CS rs q).length:=by omega
   subst ek;rw [GS]at G;refine Ay<|Zt<|Zt<|AR<|Zn [6] ?_;refine BN (e':=[]) (by exact ⟨Z,_,_,I,B,⟨by unfold Ff;rw [Ax af];exact G,J,O,by omega⟩,rfl,rfl⟩)
  refine AC<|Zn [6] ?_;refine BN (e':=[]) (by exact ⟨[z0],g0,c0,ax,FR,⟨by unfold Ff;rw [An af,Mp,j5],fun z hz=>by rw [C1.1 hz];exact W,U,by simp⟩,rfl,rfl⟩)
 rintro _ _ ⟨Z,g,c,I,B,⟨G,J,O,bn⟩,rfl,rfl⟩;refine Zq<|CP (s1:=I) (s2:=B) Wo Wo ?_;refine Zg<|Zl PC Y<|Za Y<|A4 Y<|AJ<|Cv rfl results34 Y Y (by exact ⟨.slice g Z.length c,I++B,rfl,by rw [<-G];exact qg O A1 J,rfl⟩)
set_option maxHeartbeats 1000000 in
theorem rJ{p9:B6}{m:Nat}(hL:FW M (.slice p9 (L.length+1) m) (x::L))(G:Gh x){c lo hi:Int}(B:x.scan=(t,c,lo,hi))(W:Nat):BZ prog 125 #[I5 W,.agg #[I4 t,I4 c,I4 lo,I4 hi]] [[(W,.cells #[.slice p9 (L.length+1) m] 217 (0,0))],M] (fun r H'=>∃U,Bd 5 72 r (ES x).length (Af (ES x)) U/\H'=[U,[(W,.cells #[.slice (EY p9 1 m 9) L.length (m -1)] 217 (0,0))],M]):=by
 have d9:=mL;obtain ⟨p8,cu,e9,X,J⟩:=hL.form;injection e9 with e91 e92 e93
 subst e91 e93;rw [Dd]at X J;obtain ⟨z,bn,ax,g,off,cur,T,zz,rfl,af,cO,I⟩:=hL.at (i:=0) rfl;subst bn;unfold RP.scan at B;injection B with hd1 B
 injection B with hd2 B
 injection B with hd3 hd4
 refine Se func125 ntmps125 [0,1] ?_;intro u R;refine A0<|Ze (Bx #[_,_,_,_])<|AG fun bx=>A4 Y<|A0<|Zm Y<|Zp Y V<|Zh 0 ft V rfl MD Y<|Zl PC Y ?_;refine Zv (AY O2 Y)<|Zv (DK (n:=0) Y Y) ?_;rw [DE (show(0:Nat)<L.length+1 by omega)];refine Xr [_] Y call124 Y V (Kb) ?_;refine A5<|A0<|Zm Y<|Zp Y V<|Zh 0 ft V rfl MD Y<|Zl PC Y ?_;refine BV (Ad (j:=0) O2 HN Y Y A1)<|CG (cs:=[(g,.cells cur T zz)]) (by simp [af]) (AA (cs:=#[_,_,_,_,_,_,_,_,_]) S4 HN Y A1 I) V rfl ?_;refine Ze (Al Z1 #[_,_,_,_,_,_,_,_,_])<|AG fun bp=>Xe (Xw HN #[I4 z.x.tb,I4 z.x.cl,I4 z.x.lo,I4 z.x.hi,I4 z.x.ct,I4 z.x.fi,.slice z.qr z.x.rows.length z.cr,.slice z.qp z.x.paths.length z.cp,.slice z.qt z.x.roots.length z.ct]) ?_;refine Z0<|Zn [0,3,5] ?_;refine Zx<|A0<|Zm Y<|Zm Y<|Zp Y V<|Zh 0 ft V rfl MD Y<|Zl PC Y ?_;refine BV (CE (l:=1) O2 HN Y Y A1)<|Zp Y V<|Zh 0 ft V rfl MD Y<|Xe (Zs MD Y Y V (hi:=by(simp;done))) ?_;refine A5<|A0<|Zh 0 Cl V rfl A6 Y<|Zl AF Y (hv:=by exact (V:_=some (Value.int .i64 z.x.tb))) ?_;refine Zh 1 Cl V rfl A6 Y<|Zl AF Y (hv:=by exact (V:_=some (Value.int .i64 z.x.cl))) ?_;refine Zh 2 Cl V rfl A6 Y<|Zl AF Y (hv:=by exact (V:_=some (Value.int .i64 z.x.lo))) ?_;refine Zh 3 Cl V rfl A6 Y<|Zl AF Y (hv:=by exact (V:_=some (Value.int .i64 z.x.hi))) ?_;refine Zv (BL (vs:=[(0,I4 z.x.tb),(1,I4 z.x.cl),(2,I4 z.x.lo),(3,I4 z.x.hi)]) (cs:=#[I4 z.x.tb,I4 z.x.cl,I4 z.x.lo,I4 z.x.hi]) Y (AZ (pl:=#[(0,1),(1,1),(2,1),(3,1)]) i7 OR (fun _=>by kernel_rfl) AE))<|Zo Wh (AA (cs:=#[_,_,_,_]) isAgg180 cF Y B1 As) ?_;refine Zv (ZO AE OR AE AW AW AW AW CM AF Y Y) ?_;rw [DE (show z.x.tb=t/\z.x.cl=c/\z.x.lo=lo/\z.x.hi=hi from⟨hd1,hd2,hd3,hd4⟩)];refine Xr [_] Y call124 Y V (Kb) ?_;refine Z0<|Zn [5] ?_;refine Zx<|A0<|Zo Wh (AA (cs:=#[_,_,_,_,_,_,_,_,_]) S4 HN Y B1 As) ?_;refine Zc [_] Y call180 Y V (tW ax.rp G V) ?_;rintro _ _ ⟨_,⟨vr,U,rfl,O,rfl⟩,rfl⟩;obtain ⟨gr,c9,rfl⟩:=O.form
 refine Zm Y<|Zd Y V<|Zd Y V<|Za Y<|A4 Y<|A0<|Zm Y<|Xr [_] Y call124 Y V (Kb) ?_;refine A5<|A0<|Zm Y<|A4 Y<|AJ<|AO V results125 Y (by exact ⟨U,O,V⟩)
theorem Ov(h:Gh x):(ES x).length<=2000/\∀r∈ES x,r.ok:=by
 have B:=h.ct;have h2:=h.fi
 have G:=h.n;rw [eP h];refine ⟨by have:=ON (inB x) x.rows;omega,fun r m=>?_⟩;obtain ⟨j,g⟩:=HE (FF.1 m).1;exact (h.all j r g).1.1
theorem iN{α:Type}{l:List α}{k:Nat}{x:α}(h:l[k]?=some x):l.drop k=x::l.drop (k+1):=by
 obtain ⟨g,rfl⟩:=C4.1 h;exact S8 g
set_option maxHeartbeats 1000000 in
theorem XA(hL:FW M v L)(q:QM){r:CB}(hr:Ea q L=some r):BZ prog 69 #[.agg q.A98,v] [M] (fun w H'=>∃rv sr,w= .tuple #[.agg #[rv,I4 r.val,.bool r.fnd],.bool true]/\Bd 5 72 rv r.rows.length (Af r.rows) sr/\H'=[sr,M]):=by
 have sO:=mL;obtain ⟨x,L2,rfl,hq,ql,O,pq,J⟩:=Qq hr;obtain ⟨pv,cv,rfl,_⟩:=hL.form;rw [Dd]at hL;rw [Dd];have hT:=hL.tail
 rw [R0]at hT;have qa:0<=q.bq/\q.bq<=3:=by have:=hq.2.2.2;omega
 refine DT func69 V ntmps69 V ?_;intro u R;refine Zb [0,1] ?_;refine A0<|Ze (Bx q.A98)<|AG fun bq=>Ze (Al Gk #[_,_,_])<|AG fun bo=>Ze (Al W5 #[_])<|AG fun bk=>A5<|A0<|Zv (Bh (vs:=[]) (us:=[_,_]) Y Y)<|mV V Y ?_;refine A5<|A0<|Xe (Zs Cp Y Y V (hi:=by decide))<|A5<|A0<|fw V Y ?_;refine A5<|A0<|Zo Wh (AA (cs:=#[_,_,_,_,_,_,_]) F2 CN Y B1 As)<|Xr [_] Y call35 Y V (Jg q) ?_;rw [DE hq];refine Xr [_] Y call124 Y V (Kb)<|A5<|A0<|Zm Y<|Zv (BL (vs:=[(0,_)]) (cs:=#[_]) Y (AZ (pl:=#[(0,1)]) zeroValue217 ft (fun _=>by kernel_rfl) V))<|Ze (Bx #[_])<|AG fun br=>AN Y<|Zn [2,4,5,6] ?_;refine Zx<|A0<|Zm Y<|Zo Wh (AA (cs:=#[_,_,_,_,_,_,_]) F2 CN Y B1 As)<|Xr [_] Y call84 Y V (qn q hq)<|Zc [_,_] Y call125 Y V (rJ hL O ql br) ?_;rintro _ _ ⟨_,⟨sr,l5,rfl⟩,rfl⟩;obtain ⟨gr,sw,rfl⟩:=l5.form;have gy:=DY l5 A1
 obtain ⟨p7,qw,e7,⟨sM,qx⟩,pg⟩:=id gy;injection e7 with e71 e72 e73
 subst e71 e73;refine A4 Y<|A0<|Zm Y<|Zv (AY BE Y)<|Zv (Vv (n:=100) Y Y) ?_;rw [DE (show(ES x).length<=100 by omega)];refine Xr [_] Y call124 Y V (Kb)<|A5<|Zq<|BX<|Zg<|A4 Y<|Zb [8,2,4,5,6,7] ?_;refine DL (e0:=[(8,_)]) (H0:=[[(br,.cells #[_] 217 (0,0))],[]]) (fun e H=>∃(o:List AX) (vo:A3) (so:List A9) (pr:B6) (cr:Nat),(r=FV q (ES x) o/\Bd 5 72 vo o.length (Af o) so/\o.length<=200000)/\e=[(8,vo)]/\H=[[(br,.cells #[.slice pr 0 cr] 217 (0,0))],so]) Wp ?hx_1 ?hy_1
 case hx_1=>
  refine A0<|Zh 0 CT V rfl A6 Y<|Zl AF Y<|Zv (CK Y Y)<|A5<|Aq Y (fun cO=>?_) (fun cO=>?_);·
   obtain ⟨U,af,bn⟩:∃o,El q (ES x) L2=some (o,[])/\r=FV q (ES x) o:=by rcases J with⟨h9,_⟩|⟨_,h9⟩;exact absurd cO h9;exact h9
   refine A0<|Zm Y<|Zv (AY BE Y)<|Zm Y<|A5<|AQ<|Zb [8,31,2,4,5,6,7,29,30] ?_;refine BA (e0:=[(8,_),(31,_)]) (fun m e H=>∃(k:Nat) (o:List AX) (l9:List RP) (vo:A3) (so:List A9) (pr:B6) (cr:Nat),m=(ES x).length -k/\(k<=(ES x).length/\El q ((ES x).take k) L2=some (o,l9)/\Bd 5 72 vo o.length (Af o) so/\FW M (.slice pr l9.length cr) l9/\o.length<=2000*k)/\e=[(8,vo),(31,I4 (k:Int))]/\H=[[(br,.cells #[.slice pr l9.length cr] 217 (0,0))],so]) (by exact ⟨0,[],L2,.slice none 0 0,[],_,_,V,⟨C5 _,V,Bf 5 _,hT,C5 _⟩,V,V⟩) Wp ?_;rintro _ _ _ ⟨k,o,l9,vo,so,pr,cr,rfl,⟨hk,G,I,cu,ve⟩,rfl,rfl⟩;obtain ⟨go,co,rfl⟩:=I.form;refine A0<|Zv (Au Y Y)<|A5<|Zq<|Aq Y (fun j5=>?_) (fun j5=>?_);·
    obtain ⟨r9,d9⟩:∃r9,(ES x)[k]?=some r9:=⟨_,B7 j5⟩;obtain ⟨g,off,cur,T,zz,rfl,q9,qz,ic⟩:=pg k r9 d9;obtain ⟨o8,l8,W,o9,gm,_⟩:=Oz (ES x) k L2 (U,[]) A1 af;rw [G]at W;injection W with W
    injection W with h83 h84
    subst h83 h84;rw [iN d9]at gm;obtain ⟨a9,c9,gq,_,_⟩:=M4 gm;obtain ⟨x2,j3,kv,B,X⟩:=Sr gq;have pz:=(Ov B).1
    have qo:=Qx (ES x) k r9 L2 _ _ a9 d9 G gq;rw [j3,Dd];rw [j3,Dd]at cu;refine AC<|Zx<|Zq<|AQ<|A0<|BV (Ad BE B0 Y Y A1)<|CG (cs:=[(g,.cells cur T zz)]) (by simp [q9]) (AA (cs:=r9.A97) D0 B0 Y A1 ic) V rfl<|Ze (Al F0 #[_,_,_,_,_])<|AG fun bx=>Xe (Xw B0 r9.A97)<|A5<|Zg<|Zm Y<|Zm Y<|Zo Wh (AA (cs:=#[_,_,_,_,_,_,_]) F2 CN Y B1 As)<|Zo Wh (AA (cs:=#[_,_,_,_,_]) D0 B0 Y B1 As)<|Xr [_,_] Y call86 Y V (TL q qa r9)<|Zc [_,_] Y call125 Y V (rJ cu B kv br) ?_;rintro _ _ ⟨_,⟨s5,h5,rfl⟩,rfl⟩;rw [<-X]at h5;obtain ⟨g5,c5,rfl⟩:=h5.form;refine Ze (BR (by_:=40) (sz:=5) BE (rfl:Tryz.prog.info? 72=some Tryz.t72) rfl rfl rfl rfl Y (I) Y (jW h5) Wo Wo (by exact CU _) (by rw [X];omega) (by rw [X];omega)) ?_;rintro _ _ ⟨wh,ax,rfl⟩;obtain ⟨sJ,sj,rfl⟩:=ax.form;refine AN Y<|Zn [2,4,5,6,7,8,29,30,31] ?_;refine A8<|Zx<|Zg<|Ya (n:=1) Y Y<|Zm Y<|Z0<|Zn [8,31,2,4,5,6,7,29,30] ?_;refine Ab (e':=[(8,_),(31,_)]) (by exact ⟨k+1,o++a9.1,a9.2,_,_,_,_,rfl,⟨by omega,qo,BS ax (by rw [BW]) (by rw [Bi]),cu.tail,by rw [BW,X];omega⟩,rfl,rfl⟩)
   have ek:k=(ES x).length:=by omega
   subst ek;rw [GS,af]at G;injection G with G
   injection G with hrd1 hrd2
   subst hrd1 hrd2;have vz:=bn
   refine Ay<|Zt<|Zt<|AR<|Zn [8,2,4,5,6,7] ?_;refine BN (e':=[(8,_)]) (by exact ⟨U,.slice go U.length co,so,pr,cr,⟨bn,I,by omega⟩,V,V⟩)
  obtain ⟨p8,qj⟩:L2=[]/\r=FV q (ES x) []:=by rcases J with⟨_,h9⟩|⟨h9,_⟩;exact h9;exact absurd h9 cO
  subst p8;refine AC<|Zn [8,2,4,5,6,7] ?_;refine BN (e':=[(8,_)]) (by exact ⟨[],.slice none 0 0,[],EY pv 1 cv 9,cv -1,⟨qj,Bf 5 _,C5 _⟩,V,V⟩)
 rintro _ _ ⟨o,vo,so,pr,cr,⟨qb,I,vw⟩,rfl,rfl⟩;obtain ⟨go,co,rfl⟩:=I.form;have p9:=DY I A1
 refine A0<|Zm Y<|Zp Y V<|Zh 0 ft V rfl MD Y<|Zl PC Y<|Zv (AY O2 Y)<|Zv (CR (n:=0) Y Y) ?_;rw [DE (show(0:Nat)=0 from rfl)];refine Xr [_] Y call124 Y V (Kb)<|A5<|A0<|Zo Wh (AA (cs:=#[_,_,_,_,_,_,_]) F2 CN Y B1 As)<|Zm Y<|Zm Y<|Zc [_,_,_] Y call126 Y V (ul gy p9 q A1 (fun _ r hr=>X6 ((Ov O).2 r hr) q.bq)) ?_;rintro _ _ ⟨_,⟨w9,s3,rfl,h3,rfl⟩,rfl⟩;rw [PY hq,<-qb]at h3⊢;obtain ⟨p3,c3,rfl⟩:=h3.form;refine Xe (Xw B2 #[.slice p3 r.rows.length c3,I4 r.val,.bool r.fnd])<|Xe (Zs Cp Y Y V (hi:=by decide))<|Z0<|Zn [4,5] ?_;refine Zx<|AJ<|tL V rfl call123 (yz _) V call122 (tB bk _) Wp ?_;rintro _ rfl;refine ⟨_,[s3,M],fun a w hf hs=>Ui results69 ((CX a _ hf 4).trans rfl) (Am C6 B2 (by exact D2 _) (cs:=#[.slice p3 r.rows.length c3,I4 r.val,.bool r.fnd]) (BK rfl) w (aY (b:=bo) Wh hs)) ((CX a _ hf 5).trans rfl) (aA E6 (v:= .bool true) (i:=0) rfl w (aY (b:=bk) Wh hs)),⟨_,s3,rfl,h3,rfl⟩,Sub.amid (by repeat(first|exact Sub.refl _|exact Sub.nil _|(apply Sub.cons;(focus (repeat(first|exact One.here _ _|apply One.there))))|refine Sub.drop _ ?_))⟩
end Go.Proofs.YtfhjaegddfehhabGreatDoor
