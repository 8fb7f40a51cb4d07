/- statetree: Verify. -/
import Derived.Test.YtfhjaegddfehhaaGreatDoorTr8
set_option linter.unusedVariables false
set_option linter.unusedSimpArgs false
namespace Go.Proofs.YtfhjaegddfehhaaGreatDoor
open Go.Proofs.Tryz
open Go Go.RowKit Gw
set_option maxRecDepth 100000
attribute [local irreducible] Gw.At Gw.Nx Gw.Ops
structure q6(root:Bs)(x:RP):Prop where
 comp:Gd x
 n16:x.roots.length=16
 np:x.paths.length=x.rows.length
 root:Dl x.roots=root
 sum:∃d:Bs,d.length=32/\x.roots[4*x.tb.toNat+x.cl.toNat]?=some (U2 x.ct++d)/\(x.ct=0->d=Dl [])/\
  (x.ct≠0->∀(k:Nat) (r:AV) (pf:List Bs),x.rows[k]?=some r->x.paths[k]?=some pf->v7 d x.ct.toNat (x.fi.toNat+k) (QN r) pf=true)
noncomputable instance(root:Bs)(x:RP):Decidable (q6 root x):=Classical.propDecidable _
theorem wI{a b:Bs}(h:str a=str b):a=b:=by rw [<-La a,<-La b,h]
variable{M:List AA}
theorem ik{va vb:Value}{a b:List Bs}(ha:EN M va a)(hb:EN M vb b):BH prog 102 #[va,vb] [M] (.bool (decide (a=b))):=by
 have gy:=mL;obtain ⟨pa,ca,rfl,gm,W⟩:=ha;obtain ⟨pb,cb,rfl,gq,X⟩:=hb;refine Se func102 ntmps102 [0,1] ?_;intro u R;refine A0<|A3 Y<|Zq<|A0<|Zm Y<|Zv (AY D2 Y)<|Zm Y<|Zv (AY D2 Y)<|Zv (Dp Y Y)<|A5<|Aq Y (fun K=>?_) (fun K=>?_);·
  refine A0<|A3 Y<|AJ<|Zt<|AO rfl results102 Y (by exact ⟨EX (fun e=>K (by rw [e])),rfl⟩)
 have af:a.length=b.length:=by omega
 refine AC<|Zx<|Zq<|A0<|A3 Y<|AR<|Zb [5,0,1] ?_;refine BA (e0:=[(5,_)]) (fun m e H=>∃(i:Nat),m=a.length -i/\(i<=a.length/\∀j,j<i->a[j]?=b[j]?)/\e=[(5,I4 (i:Int))]/\H=[]) (by exact ⟨0,V,⟨C0 _,by intro j hj;omega⟩,V,V⟩) Wp ?_;rintro _ _ _ ⟨i,rfl,⟨hi,g⟩,rfl,rfl⟩;refine Zq<|A0<|Zm Y<|Zm Y<|Zv (AY D2 Y)<|Zv (Au Y Y)<|A5<|Aq Y (fun ax=>?_) (fun ax=>?_);·
  obtain ⟨x,hx⟩:∃x,a[i]?=some x:=⟨_,B3 A1⟩;obtain ⟨y,hy⟩:∃y,b[i]?=some y:=⟨_,B3 A1⟩;obtain ⟨g1,d9,B,T1,cu,rfl,bg,I⟩:=W i x hx;obtain ⟨g2,ek,G,T2,cO,rfl,bn,J⟩:=X i y hy;refine AC<|Zx<|Zq<|AR<|Zq<|Az (n:=9) (0::0::3::7::0::0::48::112::255::[]) 0 A6 A6 V<|A2 0 V (AP Y)<|A2 1 V (AP Y)<|A2 2 V (CB D2 Fi Y Y A1)<|CQ (b:=g1) (x:= .cells B T1 cu) (D':=15) 3 V rfl V (by simp [bg]) (BP HQ Y I) ?_;refine A2 4 V (AP Y)<|A2 5 V (AP Y)<|A2 6 V (CB D2 Fi Y Y A1)<|CQ (b:=g2) (x:= .cells G T2 cO) (D':=255) 7 V rfl V (by simp [bn]) (BP HQ Y J) ?_;refine A2 8 V (lD Y Y)<|Ag<|Zn [0,1,5,25] ?_;refine Zx<|Aq Y (fun O=>?_) (fun O=>?_);·
   refine A0<|A3 Y<|AJ<|Ad<|Zt<|Zt<|Ad<|Zt<|AO rfl results102 Y (by exact ⟨EX (fun e=>by rw [e,hy]at hx;injection hx with hx;exact O (by rw [hx])),rfl⟩)
  have U:x=y:=wI (HI.1 O);refine AC<|A8<|Zx<|Zg<|Zm Y<|Ya (n:=1) Y Y<|AG Y<|Zn [5,0,1] ?_;refine Ab (e':=[(5,_)]) (by exact ⟨i+1,rfl,⟨by omega,fun j hj=>by rcases E0 j i with h9|h9;exact g j h9;obtain rfl:j=i:=A1;rw [hx,hy];exact congrArg some U⟩,rfl,rfl⟩)
 refine Ay<|Zt<|Zt<|AU<|Zx<|A0<|A3 Y<|AJ<|AO V results102 Y (by exact ⟨Tz (RN af (fun j hj=>g j A1)),V⟩)
theorem wR{va vb:Value}{a b:List AV}(ha:Db M va a)(hb:Db M vb b):BH prog 103 #[va,vb] [M] (.bool (decide (a=b))):=by
 have gF:=mL;obtain ⟨pa,ca,rfl,gy,W⟩:=ha;obtain ⟨pb,cb,rfl,gB,X⟩:=hb;refine Se func103 ntmps103 [0,1] ?_;intro u R;refine A0<|A3 Y<|Zq<|A0<|Zm Y<|Zv (AY B5 Y)<|Zm Y<|Zv (AY B5 Y)<|Zv (Dp Y Y)<|A5<|Aq Y (fun K=>?_) (fun K=>?_);·
  refine A0<|A3 Y<|AJ<|Zt<|AO rfl results103 Y (by exact ⟨EX (fun e=>K (by rw [e])),rfl⟩)
 have af:a.length=b.length:=by omega
 refine AC<|Zx<|Zq<|A0<|A3 Y<|AR<|Zb [5,0,1] ?_;refine BA (e0:=[(5,_)]) (fun m e H=>∃(i:Nat),m=a.length -i/\(i<=a.length/\∀j,j<i->a[j]?=b[j]?)/\e=[(5,I4 (i:Int))]/\H=[]) (by exact ⟨0,V,⟨C0 _,by intro j hj;omega⟩,V,V⟩) Wp ?_;rintro _ _ _ ⟨i,rfl,⟨hi,g⟩,rfl,rfl⟩;refine Zq<|A0<|Zm Y<|Zm Y<|Zv (AY B5 Y)<|Zv (Au Y Y)<|A5<|Aq Y (fun ax=>?_) (fun ax=>?_);·
  obtain ⟨x,hx⟩:∃x,a[i]?=some x:=⟨_,B3 A1⟩;obtain ⟨y,hy⟩:∃y,b[i]?=some y:=⟨_,B3 A1⟩;obtain ⟨g1,gm,B,T1,cu,rfl,bg,d9,I⟩:=W i x hx;obtain ⟨g2,gq,G,T2,cO,rfl,bn,ek,J⟩:=X i y hy;refine AC<|Zx<|Zq<|AR<|Zq<|Az (n:=9) (0::0::3::7::0::0::48::112::255::[]) 0 A6 A6 V<|A2 0 V (AP Y)<|A2 1 V (AP Y)<|A2 2 V (Ac B5 AW Y Y A1)<|CQ (b:=g1) (x:= .cells B T1 cu) (D':=15) 3 V rfl V (by simp [bg]) (A9 (cs:=x.A58) CI AW Y A1 I) ?_;refine A2 4 V (AP Y)<|A2 5 V (AP Y)<|A2 6 V (Ac B5 AW Y Y A1)<|CQ (b:=g2) (x:= .cells G T2 cO) (D':=255) 7 V rfl V (by simp [bn]) (A9 (cs:=y.A58) CI AW Y A1 J) ?_;refine A2 8 V (Vd A6 FF A6 AH AH AH C5 HP AD A4 GS D3 Y Y)<|Ag<|Zn [0,1,5,25] ?_;refine Zx<|Aq Y (fun O=>?_) (fun O=>?_);·
   refine A0<|A3 Y<|AJ<|Ad<|Zt<|Zt<|Ad<|Zt<|AO rfl results103 Y (by exact ⟨EX (fun e=>by rw [e,hy]at hx;injection hx with hx;exact O (Wz.2 hx.symm)),rfl⟩)
  have U:x=y:=Wz.1 (HI.1 O);refine AC<|A8<|Zx<|Zg<|Zm Y<|Ya (n:=1) Y Y<|AG Y<|Zn [5,0,1] ?_;refine Ab (e':=[(5,_)]) (by exact ⟨i+1,rfl,⟨by omega,fun j hj=>by rcases E0 j i with h9|h9;exact g j h9;obtain rfl:j=i:=A1;rw [hx,hy];exact congrArg some U⟩,rfl,rfl⟩)
 refine Ay<|Zt<|Zt<|AU<|Zx<|A0<|A3 Y<|AJ<|AO V results103 Y (by exact ⟨Tz (RN af (fun j hj=>g j A1)),V⟩)
theorem pM{a b:RP}:a=b↔a.paths=b.paths/\(a.tb=b.tb/\a.cl=b.cl/\a.lo=b.lo/\a.hi=b.hi/\a.ct=b.ct/\a.fi=b.fi)/\a.rows=b.rows/\a.roots=b.roots:=by
 obtain ⟨U,W,X,a4,a5,a6,a7,a8,a9⟩:=a;obtain ⟨b1,b2,b3,b4,b5,b6,b7,b8,b9⟩:=b;simp only [RP.mk.injEq];constructor;· rintro ⟨g,h2,m,B,G,I,J,K,O⟩;exact ⟨K,⟨g,h2,m,B,G,I⟩,J,O⟩
 · rintro ⟨K,⟨g,h2,m,B,G,I⟩,J,O⟩;exact ⟨g,h2,m,B,G,I,J,K,O⟩
theorem Tu{m:AV->Bool}:∀{l:List AV} {i:Nat} {x:AV},i<Ce m l->l[i]?=some x->m x=false
 |[],i,x,_,hx=>by simp at hx
 |z::l,i,x,hi,hx=>by
  unfold Ce at hi;rw [PA]at hi;by_cases hz:m z=true;· rw [AK (by simp [hz])]at hi;simp at hi
  · have g:m z=false:=by simpa using hz
    rw [AM (by simp [g])]at hi;rcases i with _|i
    · simp at hx;rw [<-hx];exact g
    · simp only [cD]at hx
      exact Tu (l:=l) (by unfold Ce;simp at hi;omega) hx
theorem QK{g:AV->Bool}:∀{l:List AV} {x:AV},l[Ce g l]?=some x->g x=true
 |[],x,hx=>by simp at hx
 |z::l,x,hx=>by
  unfold Ce at hx;rw [PA]at hx;by_cases hz:g z=true;· rw [AK (by simp [hz])]at hx;simp at hx;rw [<-hx];exact hz
  · have m:g z=false:=by simpa using hz
    rw [AM (by simp [m])]at hx;simp only [DG,cD]at hx;exact QK (l:=l) hx
def ltV(c:Nat)(a b:AV):Prop:=Di a c<Di b c\/Di a c=Di b c/\a.k<b.k
variable{rs:List AV}
theorem TH(g:BQ rs)(t:Int)(c:Nat):(BG rs t c).Pairwise (ltV c):=by
 have m:=Eo g t c (-1000000000) 1000000000;have h2:(rs.filter (inR t c (-1000000000) 1000000000)).Pairwise (fun a b=>a.k≠b.k):=(QF g fun r h=>jN h).imp (fun h=>by omega)
 have B:(Dt rs t c (-1000000000) 1000000000).Pairwise (fun a b=>a.k≠b.k):=((ER rs t c (-1000000000) 1000000000).pairwise_iff (fun h=>h.symm)).2 h2;exact (m.and B).imp (fun{a b} h=>by unfold ltV;obtain ⟨G,I⟩:=h;unfold leV at G;omega)
variable{l:List AV}{j i:Nat}
theorem yn{R:AV->AV->Prop}(h:l.Pairwise R){a b:AV}(g:i<j)(m:l[i]?=some a)(B:l[j]?=some b):R a b:=by
 obtain ⟨hi,rfl⟩:=BE.1 m;obtain ⟨G,rfl⟩:=BE.1 B;exact eL.1 h i j hi G g
variable{t:Int}{c:Nat}
theorem Z4(G:BQ rs){a b:AV}(m:i<=j)(B:(BG rs t c)[i]?=some a)(g:(BG rs t c)[j]?=some b):Di a c<=Di b c:=by
 rcases Nat.eq_or_lt_of_le m with rfl|h
 · rw [B]at g;injection g with g;rw [g];exact ZS _
 · have:=yn (TH G t c) h B g
   unfold ltV at this;omega
variable{r:AV}
theorem jH(B:BQ rs)(t c:Nat)(lo:Int)(g:(BG rs (t:Int) c)[i]?=some r):(Ce (geV c lo) (BG rs (t:Int) c)<=i->lo<=Di r c)/\(i<Ce (geV c lo) (BG rs (t:Int) c)->Di r c<lo):=by
 constructor
 · intro h
   have m:=(BE.1 g).1;have hx:(BG rs (t:Int) c)[Ce (geV c lo) (BG rs (t:Int) c)]?=some _:=B3 A1
   have G:=Hb (QK hx);have h2:=Z4 B h hx g
   omega
 · intro h
   have:=aw (Tu h g);omega
theorem jP(B:BQ rs)(t c:Nat)(hi:Int)(g:(BG rs (t:Int) c)[i]?=some r):(Ce (gtV c hi) (BG rs (t:Int) c)<=i->hi<Di r c)/\(i<Ce (gtV c hi) (BG rs (t:Int) c)->Di r c<=hi):=by
 constructor
 · intro h
   have m:=(BE.1 g).1;have hx:(BG rs (t:Int) c)[Ce (gtV c hi) (BG rs (t:Int) c)]?=some _:=B3 A1
   have G:=Hb (QK hx);have h2:=Z4 B h hx g
   omega
 · intro h
   have:=aw (Tu h g);omega
theorem Tt(g:BQ rs)(t c:Nat)(lo hi:Int)(m:lo<=hi):Ce (geV c lo) (BG rs (t:Int) c)<=Ce (gtV c hi) (BG rs (t:Int) c):=by
 rcases E0 (Ce (gtV c hi) (BG rs (t:Int) c)) (Ce (geV c lo) (BG rs (t:Int) c))with h|h
 · have G:=Gx (geV c lo) (BG rs (t:Int) c)
   have hx:(BG rs (t:Int) c)[Ce (gtV c hi) (BG rs (t:Int) c)]?=some _:=B3 A1;have B:=(jP g t c hi hx).1 (CM _)
   have h2:=(jH g t c lo hx).2 h;omega
 · exact h
theorem OV{f m:Nat}(h:((l.drop f).take m)[j]?=some r):j<m/\l[f+j]?=some r:=by
 rw [HC]at h;split at h;· rw [NO]at h;exact ⟨by assumption,h⟩
 · cases h
theorem jB(h:r∈BG rs t c):r∈rs/\r.t=t:=by
 have:=FA.1 ((ER rs t c _ _).mem_iff.1 h);exact ⟨this.1,jN this.2⟩
theorem Nj(m:BQ rs)(t c:Nat)(lo hi:Int)(g:lo<=hi):Bp (BG rs (t:Int) c) c lo<=toT (BG rs (t:Int) c) c hi/\toT (BG rs (t:Int) c) c hi<=(BG rs (t:Int) c).length/\(0<(BG rs (t:Int) c).length->Bp (BG rs (t:Int) c) c lo<toT (BG rs (t:Int) c) c hi):=by
 have B:=Tt m t c lo hi g;have h2:=Gx (geV c lo) (BG rs (t:Int) c)
 have G:=Gx (gtV c hi) (BG rs (t:Int) c);unfold Bp toT;omega
theorem kY(m:BQ rs)(t c:Nat)(lo hi:Int)(g:lo<=hi):(Ep rs t c lo hi).rows.length=toT (BG rs (t:Int) c) c hi -Bp (BG rs (t:Int) c) c lo:=by
 have:=Nj m t c lo hi g;show(((BG rs (t:Int) c).drop _).take _).length=_
 rw [C3,C2];omega
theorem O5(B:BQ rs)(hn:rs.length<=2000)(O:∀r∈rs,r.ok)(t c:Nat)(ht:t<=3)(hc:c<=3)(lo hi:Int)(m:lo<=hi):Gd (Ep rs t c lo hi):=by
 have h1:=Tt B t c lo hi m;have h2:=Gx (geV c lo) (BG rs (t:Int) c)
 have h3:=Gx (gtV c hi) (BG rs (t:Int) c);have h4:=Nj B t c lo hi m
 have I:=kY B t c lo hi m;have ax:=JH B (t:Int) c
 have hf:Bp (BG rs (t:Int) c) c lo=Ce (geV c lo) (BG rs (t:Int) c) -1:=rfl;have bg:toT (BG rs (t:Int) c) c hi=min (Ce (gtV c hi) (BG rs (t:Int) c)+1) (BG rs (t:Int) c).length:=rfl
 have hv:∀r:AV,Bn r ((c:Nat):Int)=Di r c:=fun r=>LW r c hc;refine ⟨⟨⟨?_,?_⟩,?_,?_⟩,m,⟨?_,?_⟩,⟨?_,?_⟩,?_,?_,?_,?_,?_⟩;· show(0:Int)<=(t:Int);omega
 · show(t:Int)<4;omega
 · show(0:Int)<=(c:Int);omega
 · show(c:Int)<4;omega
 · show(0:Int)<=((BG rs (t:Int) c).length:Int);omega
 · show((BG rs (t:Int) c).length:Int)<=2000;omega
 · show(0:Int)<=((Bp (BG rs (t:Int) c) c lo:Nat):Int);omega
 · show((Bp (BG rs (t:Int) c) c lo:Nat):Int)<=((BG rs (t:Int) c).length:Int);omega
 · rw [I];show _<=((BG rs (t:Int) c).length:Int) -((Bp (BG rs (t:Int) c) c lo:Nat):Int);omega
 · rw [I];intro h0;show((BG rs (t:Int) c).length:Int)=0;omega
 · intro j r G
   obtain ⟨X,g⟩:=OV G;have W:=jB (DE g)
   have K:=jH B t c lo g;have J:=jP B t c hi g
   refine ⟨⟨O r W.1,W.2,?_,?_⟩,?_⟩;· intro h;change Bn r (c:Int)<lo at h;rw [hv]at h;omega
   · intro h;change hi<Bn r (c:Int)at h;rw [hv]at h;rw [I];omega
   · intro af q hq
     obtain ⟨_,U⟩:=OV hq;have:=yn (TH B (t:Int) c) A1 U g
     unfold UL;show Bn q (c:Int)<Bn r (c:Int)\/Bn q (c:Int)=Bn r (c:Int)/\q.k<r.k
     rw [hv,hv];exact this
 · intro r G
   obtain ⟨_,g⟩:=OV G;have K:=jH B t c lo g
   show((Bp (BG rs (t:Int) c) c lo:Nat):Int)=0\/Bn r (c:Int)<lo;rw [hv];omega
 · intro r G
   rw [I]at G⊢;obtain ⟨X,g⟩:=OV G;have J:=jP B t c hi g
   show((Bp (BG rs (t:Int) c) c lo:Nat):Int)+_=((BG rs (t:Int) c).length:Int)\/hi<Bn r (c:Int);rw [hv];omega
theorem dH(G:BQ rs)(hn:rs.length<=2000)(K:∀r∈rs,r.ok)(t c:Nat)(W:t<=3)(hc:c<=3)(lo hi:Int)(m:lo<=hi):EQ (Ep rs t c lo hi)=(BG rs (t:Int) c).filter (inR (t:Int) c lo hi):=by
 have J:=O5 G hn K t c W hc lo hi m;have h4:=Nj G t c lo hi m
 have hf:Bp (BG rs (t:Int) c) c lo=Ce (geV c lo) (BG rs (t:Int) c) -1:=rfl;have X:toT (BG rs (t:Int) c) c hi=min (Ce (gtV c hi) (BG rs (t:Int) c)+1) (BG rs (t:Int) c).length:=rfl
 have hv:∀r:AV,Bn r ((c:Nat):Int)=Di r c:=fun r=>LW r c hc;rw [dG J];show(((BG rs (t:Int) c).drop (Bp (BG rs (t:Int) c) c lo)).take (toT (BG rs (t:Int) c) c hi -Bp (BG rs (t:Int) c) c lo)).filter _=_
 have e:BG rs (t:Int) c=(BG rs (t:Int) c).take (Bp (BG rs (t:Int) c) c lo)++(((BG rs (t:Int) c).drop (Bp (BG rs (t:Int) c) c lo)).take (toT (BG rs (t:Int) c) c hi -Bp (BG rs (t:Int) c) c lo)++(BG rs (t:Int) c).drop (toT (BG rs (t:Int) c) c hi)):=by
  have e1:(BG rs (t:Int) c).drop (toT (BG rs (t:Int) c) c hi)=((BG rs (t:Int) c).drop (Bp (BG rs (t:Int) c) c lo)).drop (toT (BG rs (t:Int) c) c hi -Bp (BG rs (t:Int) c) c lo):=by
   rw [ZD];congr 1;omega
  rw [e1,Iv,Iv]
 conv=>rhs;rw [e]
 rw [Hi,Hi];have z1:((BG rs (t:Int) c).take (Bp (BG rs (t:Int) c) c lo)).filter (inR (t:Int) c lo hi)=[]:=by
  rw [kh];intro r B I;obtain ⟨i,g⟩:=GW B;rw [HC]at g;split at g
  · have:=(jH G t c lo g).2 A1
    have:=Hb I;omega
  · cases g
 have z2:((BG rs (t:Int) c).drop (toT (BG rs (t:Int) c) c hi)).filter (inR (t:Int) c lo hi)=[]:=by
  rw [kh];intro r B I;obtain ⟨i,g⟩:=GW B;rw [NO]at g;have O:=(BE.1 g).1
  have:=(jP G t c hi g).1 A1;have:=Hb I
  omega
 rw [z1,z2,LN,DB];refine i6 ?_;intro r B;have U:=jB (J0 (P0 B))
 unfold inB inR;show decide (lo<=Bn r (c:Int)/\Bn r (c:Int)<=hi)=_
 rw [hv];exact decide_eq_decide.2 ⟨fun h=>⟨U.2,h⟩,fun h=>h.2⟩
theorem uJ(B:BQ rs)(m:∀r∈rs,r.ok)(t c:Nat)(W:t<=3)(hc:c<=3)(lo hi:Int)(J:lo<=hi):(BG rs (t:Int) c).filter (inR (t:Int) c lo hi)=Dt rs (t:Int) c lo hi:=by
 refine VM B ?_ ?_
 · have g:=(ER rs (t:Int) c (-1000000000) 1000000000).filter (inR (t:Int) c lo hi)
   refine g.trans ?_;rw [List.filter_filter];refine List.Perm.of_eq (i6 ?_);intro r K;obtain ⟨⟨g,h2,G⟩,O,U⟩:=m r K;unfold inV at g h2 G;have I:-1000000000<=Di r c/\Di r c<=1000000000:=by
    unfold Di;split;· omega
    · split
      · omega
      · split<;>omega
   unfold inR;rw [<-Bool.decide_and];exact decide_eq_decide.2 ⟨fun h=>h.1,fun h=>⟨h,h.1,I⟩⟩
 · exact (Eo B (t:Int) c (-1000000000) 1000000000).filter _
theorem SH(B:BQ rs)(hn:rs.length<=2000)(m:∀r∈rs,r.ok)(t c:Nat)(G:t<=3)(hc:c<=3)(lo hi:Int)(g:lo<=hi):EQ (Ep rs t c lo hi)=Dt rs (t:Int) c lo hi:=by rw [dH B hn m t c G hc lo hi g,uJ B m t c G hc lo hi g]
def CG(c:Int)(n:Nat):Nat:=((if c<0 then-(c+1)else c).tmod n).toNat
theorem Dm(c:Int)(n:Nat)(hn:0<n):CG c n<n:=by
 unfold CG;have g:0<=(if c<0 then-(c+1)else c):=by split<;>omega
 have h2:=Int.tmod_lt_of_pos (if c<0 then-(c+1)else c) (b:=(n:Int)) A1;have m:=Int.tmod_nonneg (n:Int) g
 omega
theorem Yj(c:Int)(n:Nat):(if c<0 then-(c+1)else c).tmod n=(CG c n:Int):=by
 unfold CG;have g:0<=(if c<0 then-(c+1)else c):=by split<;>omega
 have m:=Int.tmod_nonneg (n:Int) g;omega
theorem wW{c:Chg}{x:AV}(h:x∈EK rs c):x∈rs\/(c.has=true/\x=⟨c.t,c.k,c.n⟩):=by
 unfold EK at h;rcases B9.1 h with h|h
 · rcases B9.1 h with h|h
   · exact .inl (P0 h)
   · exact .inr (M3.1 h)
 · exact .inl (J0 (J0 h))
theorem y7{c:Chg}(h:c.ok)(g:c.has=true):AV.ok ⟨c.t,c.k,c.n⟩:=by
 obtain ⟨_,h2,_⟩:=h;rw [L9 g]at h2;exact HI.1 fun m=>h2 (.inr ⟨g,m⟩)
theorem VO:∀(cs:List Chg) (rs:List AV),(∀r∈rs,r.ok)->(∀c∈cs,c.ok)->∀r∈DN rs cs,r.ok
 |[],rs,h,_=>h
 |c::cs,rs,h,hc=>by
  have B:∀r∈EK rs c,r.ok:=fun r m=>by
   rcases wW m with m|⟨hh,rfl⟩
   · exact h r m
   · exact y7 (hc c B0) hh
  exact VO cs (EK rs c) B (fun c g=>hc c (by simp [g]))
theorem FB.rowsOk{l:List BN}(h:FB l):∀i,i<=l.length->∀r∈BZ (l.take i),r.ok
 |0,_=>by intro r g;simp [BZ]at g
 |i+1,hi=>by
  obtain ⟨r,g⟩:∃r,l[i]?=some r:=⟨_,B3 A1⟩;rw [Bi g,Gi];refine VO _ _ (FB.rowsOk h i A1) fun c hc=>?_;obtain ⟨j,m⟩:=GW hc;exact (h i r g).1.ok.all j c m
theorem oq{p:Option Addr}{n cap:Nat}{xs:List (List Int)}(h:WN M (.slice p n cap) xs)(k:Nat)(G:k<=n):WN M (.slice p k cap) (xs.take k):=by
 obtain ⟨J,g,e,I,B⟩:=h;injection e with e1 e2 e3
 subst e1 e2 e3;have m:(xs.take k).length=k:=by rw [C3];exact Pc G
 refine ⟨p,cap,by rw [m],by omega,fun i z hz=>B i z ?_⟩;rw [HC]at hz;split at hz;· exact hz
 · cases hz
def cs0:List Chg:=[⟨0,3,false,V3.zero,true,⟨10,0,0⟩⟩,⟨0,5,false,V3.zero,true,⟨10,21,30⟩⟩]
def l0(gc:Nat):List BN:=[⟨1,some ⟨gc,0,none⟩,2,cs0⟩]
def RP.cut(x:RP):RP:=⟨x.tb,x.cl,x.lo,x.hi,x.ct,x.fi,x.rows.drop 1,x.paths.drop 1,x.roots⟩
variable{v:Value}{x:RP}
theorem zP(hv:UF M v x)(h:Gd x)(G:EQ x=l):Ba prog 172 #[v] [M] (fun r H'=>∃B m,r= .tuple #[B,.bool true]/\Bc 5 71 B l.length (Ae l) m/\H'=[m,M]):=by
 have g:=kH hv;rw [Cp h,G]at g;exact g
variable{M':List AA}
theorem UF.mono(h:UF M v x)(g:∀c∈M,c∈M'):UF M' v x:=by
 obtain ⟨I,G,J,e,m,h2,B⟩:=h;exact ⟨I,G,J,e,m.mono g,h2.mono g,B.mono g⟩
theorem Sj:∀(n:Nat) (l:List Bs) (i:Nat),l.length<=n->(FI l i).length<=l.length
 |n,l,i,hn=>by
  rcases E0 l.length 2 with h|h
  · rw [VQ A1];simp
  · have m:=PD h
    have h2:=P9 l.length
    match n,hn with
    |0,hn=>omega
    |n+1,hn=>
    by_cases hi:i<DZ l.length
    · have g:=Sj n (l.take (DZ l.length)) i (by rw [C3];omega)
      rw [C3]at g;rw [Qf h hi,B7];simp only [E3];omega
    · have g:=Sj n (l.drop (DZ l.length)) (i -DZ l.length) (by rw [C2];omega)
      rw [C2]at g;rw [Ol h hi,B7];simp only [E3];omega
theorem Yd(m:BQ rs)(hn:rs.length<=2000)(t c:Nat)(lo hi:Int):∀l∈(Ep rs t c lo hi).paths,l.length<=1000000:=by
 intro l h;obtain ⟨x,_,rfl⟩:=Bm.1 h;have g:=Sj _ (O1 (BG rs (t:Int) c)) (Bp (BG rs (t:Int) c) c lo+x) (CM _)
 have h2:=JH m (t:Int) c;rw [GU]at g;omega
theorem zJ(q:QM)(m:BJ q):BH prog 137 #[.agg q.A59] [] (.tuple #[I4 q.tb,I4 q.cl,I4 q.lo,I4 q.hi]):=by
 refine Se func137 ntmps137 [0] ?_;intro u R;refine A0<|Ze (Bx q.A59)<|AE fun bq=>Za Y<|Za Y<|Za Y<|A3 Y<|Zq<|A0<|Zo Wh (A9 (cs:=#[_,_,_,_,_,_,_]) Dd C7 Y As AN)<|Xr [_] Y call22 Y V (Jd q)<|Zv (D7 Y)<|A5<|AX Y (fun g=>?_) (fun g=>?_);·
  exfalso;simp [m]at g
 refine AC<|Zx<|Zq<|Az (n:=12) (0::1::0::4::0::16::0::64::3::271::831::2047::[]) 0 A6 A6 V<|A2 0 V (AB (off:=1) CC V rfl A4 Y)<|B2 1 V AD Y<|A2 2 V (AB (off:=2) CC V rfl A4 Y)<|B2 3 V AD Y<|A2 4 V (AB (off:=3) CC V rfl A4 Y)<|B2 5 V AD Y<|A2 6 V (AB (off:=4) CC V rfl A4 Y)<|B2 7 V AD Y<|A2 8 V (Av Y)<|A2 9 V (Av Y)<|A2 10 V (Av Y)<|A2 11 V (Av Y)<|Ag<|Zn [2,3,4,5] ?_;refine Zx<|AJ<|jC V results137 Y Y Y Y (by exact ⟨V,V⟩)
theorem pD(q:QM)(g:BJ q):BH prog 84 #[.agg q.A59] [] (.agg #[I4 q.tb,I4 q.cl,I4 q.lo,I4 q.hi]):=by
 refine Se func84 ntmps84 [0] ?_;intro u R;refine A0<|Ze (Bx q.A59)<|AE fun bq=>Ze (Al jx #[_,_,_,_])<|AE fun m=>A5<|A0<|Zo Wh (A9 (cs:=#[_,_,_,_,_,_,_]) Dd C7 Y As AN)<|Xr [_] Y call137 Y V (zJ q g)<|Zm Y<|Zd Y V<|Zd Y V<|Zd Y V<|Zd Y V<|Zh 0 NX V rfl A4 Y<|Xe (Zs A4 Y Y V (hi:=by decide))<|Zh 1 NX V rfl A4 Y<|Xe (Zs A4 Y Y V (hi:=by(simp;done)))<|Zh 2 NX V rfl A4 Y<|Xe (Zs A4 Y Y V (hi:=by(simp;done)))<|Zh 3 NX V rfl A4 Y<|Xe (Zs A4 Y Y V (hi:=by(simp;done)))<|Z0<|Zn [2] ?_;refine Zx<|A0<|Zo Wh (A9 (cs:=#[_,_,_,_]) isAgg180 cN Y As (BK rfl))<|Xe (BL cN Y Y HK Wu (Dw rfl) E6 As (by exact BB _))<|A5<|AJ<|Cu rfl results84 Y Wh (Am isAgg180 cN Wn (BK rfl)) gA
theorem UV{P:Program}{env:Env}{d:Option Nat}{ty:TypeId}{pos:String}{af:Array Edge}{g:Option (Nat×Bool)}{x:Operand}{m at_:TypeId}{ok:Bool}{r:Value}(hx:∀a,ev a env x=v)(B:∀w:World,(Instr.typeAssert v m at_ ok).run P w= .ok r w):OpP P ⟨d,.typeAssert x m at_ ok,ty,pos,af,g⟩ env [] r:=fun a w _=>by
 simp [execOp,hx a,B w]
theorem zw(w:World):(Instr.typeAssert .nilIface 20 89 true).run prog w= .ok (.tuple #[.nilIface,.bool false]) w:=by kernel_rfl
theorem ZY{u w:World}{H:Hp}{b:Nat}{o:Obj}(h:Has b o H)(g:Sat u H w):w.heap[b]?=some o:=g.get _ h.mem
variable{q:QM}
theorem mr(m:BJ q)(g:q.kd≠7):Ia q (Dt rs q.tb q.cl.toNat q.lo q.hi) []=Cf rs q:=by
 rw [PI m];unfold Cf FQ CR;split;· rfl
 · split
   · rfl
   · split
     · rfl
     · split
       · rfl
       · first
         |rfl
         |(split
           · rename_i h;exact absurd h g
           · rfl)
theorem zN(B:BQ rs)(hn:rs.length<=2000)(g:∀r∈rs,r.ok)(q:QM)(G:BJ q):Gd (Ep rs q.tb.toNat q.cl.toNat q.lo q.hi)/\EQ (Ep rs q.tb.toNat q.cl.toNat q.lo q.hi)=Dt rs q.tb q.cl.toNat q.lo q.hi:=by
 obtain ⟨I,h2,m,_⟩:=id G;refine ⟨O5 B hn g q.tb.toNat q.cl.toNat A1 A1 q.lo q.hi m.2.1,?_⟩;have h:=SH B hn g q.tb.toNat q.cl.toNat A1 A1 q.lo q.hi m.2.1
 rwa [show((q.tb.toNat:Nat):Int)=q.tb by omega]at h
theorem qQ(g:BJ q):(Ep rs q.tb.toNat q.cl.toNat q.lo q.hi).tb=q.tb/\(Ep rs q.tb.toNat q.cl.toNat q.lo q.hi).cl=q.cl/\(Ep rs q.tb.toNat q.cl.toNat q.lo q.hi).lo=q.lo/\(Ep rs q.tb.toNat q.cl.toNat q.lo q.hi).hi=q.hi:=by
 obtain ⟨m,h2,_⟩:=id g;exact ⟨show((q.tb.toNat:Nat):Int)=q.tb by omega,show((q.cl.toNat:Nat):Int)=q.cl by omega,V,V⟩
theorem KQ:BH prog 113 #[.bool true] [] undef:=by
 refine Se func113 ntmps113 [0] ?_;intro u R;refine A0<|Zm Y<|Zv (Br Y)<|A5<|AX Y (fun g=>by cases g)<|fun g=>AC<|Cw V results113 (by exact ⟨V,V⟩)
theorem yA(pk:Value):PY prog 112 #[pk] .returning .returning [] (fun H'=>H'=[]):=by
 refine YE (env1:=[(3,.bool false),(2,.nilIface),(8,.bool false),(7,.nilIface),(4,.tuple #[.nilIface,.bool false]),(6,.tuple #[.nilIface,.bool false]),(5,.nilIface),(0,pk)]) func112 V ntmps112 V results112 ?hrec_1 ?hwalk_1
 case hrec_1=>
  intro u R c cs Q m G;show oF _ _ [0,1,2,3,4,5,6] _ _ _ _ _
  have g:({c with mode:= .returning}:Frame)=c:=by cases c;simp only at m;subst m;rfl
  rw [g]at G;refine eQ V (by simp [recoverD,m]) V ?_;refine QE V (UV Y zw) V ?_;refine QE V (AP Y) V ?_;refine QE V (Bz Y V) V ?_;refine QE V (Bz Y V) V ?_;refine QE V (Av Y) V ?_;refine QE V (Av Y) V ?_;intro a w I;exact G a w I
 intro u R;refine Zb [0,2,3] ?_;refine A0<|Zm Y<|Zm Y<|Af (t:=10) Y V (fun B=>by cases B)<|fun B=>A7 Y V<|A7 Y V<|A7 Y V<|Zv (AL Y Y)<|A5<|DI Y<|AC<|Cw V results112 AN
theorem zD(g:Nat)(B:Value):PY prog 111 #[I5 g,B] .returning .returning [[(g,.cells #[.bool true] 4 (0,0))]] (fun H'=>H'=[[(g,.cells #[.bool true] 4 (0,0))]]):=by
 refine aZ func111 V ntmps111 V ?_;intro u R;refine Zb [0,1] ?_;refine A0<|Zl DM Y ?_;refine Zv (Br Y)<|A5<|AX Y (fun m=>by cases m)<|fun m=>AC<|Cw V results111 AN
structure RPZ where
 x:RP
 qr:Option Addr
 cr:Nat
 qp:Option Addr
 cp:Nat
 qt:Option Addr
 ct:Nat
def Ej(z:RPZ):List Value:=[I4 z.x.tb,I4 z.x.cl,I4 z.x.lo,I4 z.x.hi,I4 z.x.ct,I4 z.x.fi,.slice z.qr z.x.rows.length z.cr,.slice z.qp z.x.paths.length z.cp,.slice z.qt z.x.roots.length z.ct]
def RPZ.ok(M:List AA)(z:RPZ):Prop:=Db M (.slice z.qr z.x.rows.length z.cr) z.x.rows/\MV M (.slice z.qp z.x.paths.length z.cp) z.x.paths/\EN M (.slice z.qt z.x.roots.length z.ct) z.x.roots
theorem zM(h:UF M v x):∃z:RPZ,z.x=x/\z.ok M/\v= .agg #[I4 z.x.tb,I4 z.x.cl,I4 z.x.lo,I4 z.x.hi,I4 z.x.ct,I4 z.x.fi,.slice z.qr z.x.rows.length z.cr,.slice z.qp z.x.paths.length z.cp,.slice z.qt z.x.roots.length z.ct]:=by
 obtain ⟨K,J,O,rfl,g,h2,m⟩:=h;obtain ⟨qr,cr,rfl,B⟩:=id g;obtain ⟨qp,cp,rfl,G⟩:=id h2;obtain ⟨qt,ct,rfl,I⟩:=id m;exact ⟨⟨x,qr,cr,qp,cp,qt,ct⟩,V,⟨g,h2,m⟩,V⟩
theorem RPZ.ok.mono{z:RPZ}(h:z.ok M)(g:∀c∈M,c∈M'):z.ok M':=⟨h.1.mono g,h.2.1.mono g,h.2.2.mono g⟩
theorem RPZ.ok.rp{z:RPZ}(h:z.ok M):UF M (.agg #[I4 z.x.tb,I4 z.x.cl,I4 z.x.lo,I4 z.x.hi,I4 z.x.ct,I4 z.x.fi,.slice z.qr z.x.rows.length z.cr,.slice z.qp z.x.paths.length z.cp,.slice z.qt z.x.roots.length z.ct]) z.x:=⟨_,_,_,rfl,h⟩
def ZsU(M:List AA)(v:Value)(Z:List RPZ):Prop:=∃p cap,v= .slice p Z.length cap/\(Z.length<=maxLen/\Z.length<=cap)/\∀(i:Nat) (z:RPZ),Z[i]?=some z->z.ok M/\∃g off cur T zz,p=some ⟨g,off,none⟩/\(g,Obj.cells cur T zz)∈M/\off+i*9+9<=cur.size/\cur.extract (off+i*9) (off+i*9+9)=#[I4 z.x.tb,I4 z.x.cl,I4 z.x.lo,I4 z.x.hi,I4 z.x.ct,I4 z.x.fi,.slice z.qr z.x.rows.length z.cr,.slice z.qp z.x.paths.length z.cp,.slice z.qt z.x.roots.length z.ct]
def Fu(M:List AA)(v:Value)(L:List RP):Prop:=∃Z,ZsU M v Z/\Z.map RPZ.x=L
variable{Z:List RPZ}
theorem ZsU.mono(h:ZsU M v Z)(m:∀c∈M,c∈M'):ZsU M' v Z:=by
 obtain ⟨p,cap,e,K,J⟩:=h;refine ⟨p,cap,e,K,fun i z hz=>?_⟩;obtain ⟨h2,g,off,cur,T,zz,B,G,I⟩:=J i z hz;exact ⟨h2.mono m,g,off,cur,T,zz,B,m _ G,I⟩
variable{L:List RP}
theorem Fu.mono(h:Fu M v L)(m:∀c∈M,c∈M'):Fu M' v L:=by
 obtain ⟨Z,g,h2⟩:=h;exact ⟨Z,g.mono m,h2⟩
theorem WR{s B:List AA}(h:Bc 9 143 v Z.length (Z.flatMap Ej) s)(hn:Z.length<=maxLen)(I:∀z∈Z,z.ok B):ZsU (s++B) v Z:=by
 obtain ⟨b,cap,rfl⟩:=h.form;refine ⟨b,cap,V,⟨hn,Ex h⟩,fun i z hz=>⟨(I z (DE hz)).mono (fun c hc=>G2 _ hc),?_⟩⟩;obtain ⟨g,G,cur,zz,hv,rfl,J,m⟩:=JE h i (BE.1 hz).1;injection hv with hv1 hv2 hv3
 refine ⟨g,0,cur,143,zz,hv1,Dg _ (BT.2 V),by omega,?_⟩;rw [D0];apply HD.1;rw [m];exact IM _ 9 (fun _=>rfl) Z i z hz
theorem pJ{s g:List AA}(h:Bc 9 143 v Z.length (Z.flatMap Ej) s)(hn:Z.length<=maxLen)(m:∀z∈Z,z.ok g):Fu (s++g) v (Z.map RPZ.x):=⟨Z,WR h hn m,rfl⟩
theorem Fu.form(h:Fu M v L):∃p cap,v= .slice p L.length cap/\L.length<=maxLen/\L.length<=cap:=by
 obtain ⟨Z,⟨p,cap,e,g,_⟩,rfl⟩:=h;rw [B4];exact ⟨p,cap,e,g⟩
theorem Fu.at{M:List AA}{p:Option Addr}{n cap:Nat}{L:List RP}(h:Fu M (.slice p n cap) L){i:Nat}{x:RP}(hx:L[i]?=some x):∃z:RPZ,z.x=x/\z.ok M/\∃g off cur T zz,p=some ⟨g,off,none⟩/\(g,Obj.cells cur T zz)∈M/\off+i*9+9<=cur.size/\cur.extract (off+i*9) (off+i*9+9)=#[I4 z.x.tb,I4 z.x.cl,I4 z.x.lo,I4 z.x.hi,I4 z.x.ct,I4 z.x.fi,.slice z.qr z.x.rows.length z.cr,.slice z.qp z.x.paths.length z.cp,.slice z.qt z.x.roots.length z.ct]:=by
 obtain ⟨Z,⟨G,m,e,_,B⟩,rfl⟩:=h;injection e with e1 e2 e3
 subst e1;rw [DO]at hx;cases hz:Z[i]?with
 |none=>rw [hz]at hx;cases hx
 |some z=>
  rw [hz]at hx;injection hx with hx
  exact ⟨z,hx,B i z hz⟩
theorem Fu.tail{p:Option Addr}{n cap:Nat}(h:Fu M (.slice p n cap) (x::L)):Fu M (.slice (EY p 1 cap 9) (n -1) (cap -1)) L:=by
 obtain ⟨Z,⟨W,J,e,⟨I,m⟩,G⟩,B⟩:=h;injection e with e1 e2 e3
 subst e1 e2 e3
 match Z,B,I,m,G with
 |z::Z,B,I,m,G=>
  injection B with hZ1 hZ2
  rw [DG]at I m;refine ⟨Z,⟨_,_,by rw [DG,RR],⟨by omega,by omega⟩,fun i y hy=>?_⟩,hZ2⟩;obtain ⟨h2,g,off,cur,T,zz,rfl,K,U,O⟩:=G (i+1) y (by simpa using hy);have hi:=(BE.1 hy).1
  refine ⟨h2,g,off+1*9,cur,T,zz,?_,K,by omega,by rw [show off+1*9+i*9=off+(i+1)*9 by omega];exact O⟩;unfold EY;rw [AK A1,N1,CY]
def XB(q:QM)(r:AV):Int×Int×Int×Int:=(q.ot,0,Bn r q.bq,Bn r q.bq)
def YH(q:QM):Int×Int×Int×Int:=(q.tb,q.cl,q.lo,q.hi)
def RP.scan(x:RP):Int×Int×Int×Int:=(x.tb,x.cl,x.lo,x.hi)
noncomputable def Oj(s:Int×Int×Int×Int):List RP->Option (List AV×List RP)
 |[]=>none
 |x::l=>if x.scan=s/\Gd x then some (EQ x,l)else none
noncomputable def En(q:QM):List AV->List RP->Option (List AV×List RP)
 |[],l=>some ([],l)
 |r::rs,l=>(Oj (XB q r) l).bind fun a=>(En q rs a.2).map fun b=>(a.1++b.1,b.2)
noncomputable def Eb(q:QM)(L:List RP):Option CE:=
 if BJ q then(Oj (YH q) L).bind fun a=>if a.1.length<=100 then(if q.kd=7 then En q a.1 a.2 else some ([],a.2)).bind fun b=>if b.2=[]then some (FQ q a.1 b.1)else none else none else none
theorem SV{s:Int×Int×Int×Int}{a:List AV×List RP}(h:Oj s L=some a):∃x,L=x::a.2/\x.scan=s/\Gd x/\a.1=EQ x:=by
 unfold Oj at h;split at h;· cases h
 · split at h
   · rename_i x l h9
     injection h with h
     subst h;exact ⟨x,V,h9.1,h9.2,V⟩
   · cases h
theorem VI{s:Int×Int×Int×Int}{l:List RP}(g:x.scan=s)(h2:Gd x):Oj s (x::l)=some (EQ x,l):=AM ⟨g,h2⟩
theorem Lm{l:List RP}{b:List AV×List RP}(h:En q (r::rs) l=some b):∃a c,Oj (XB q r) l=some a/\En q rs a.2=some c/\b=(a.1++c.1,c.2):=by
 unfold En at h;cases ha:Oj (XB q r) l with
 |none=>rw [ha]at h;cases h
 |some a=>
  rw [ha,I3]at h;cases hc:En q rs a.2 with
  |none=>rw [hc]at h;cases h
  |some c=>rw [hc]at h;injection h with h;exact ⟨a,c,rfl,hc,h.symm⟩
theorem Oi{q:QM}:∀(rows:List AV) (i:Nat) (L:List RP) (b:List AV×List RP),i<=rows.length->En q rows L=some b->∃o g,En q (rows.take i) L=some (o,g)/\∃m,En q (rows.drop i) g=some (m,b.2)/\b.1=o++m
 |rows,0,L,b,_,h=>⟨[],L,rfl,b.1,by rw [Pr];exact h,rfl⟩
 |r::rows,i+1,L,b,hi,h=>by
  obtain ⟨a,c,B,h2,rfl⟩:=Lm h;obtain ⟨o,g,G,m,I,J⟩:=Oi rows i a.2 c (by simpa using hi) h2;refine ⟨a.1++o,g,?_,m,by rw [List.drop_succ_cons];exact I,by rw [J,Cd]⟩;rw [kn];unfold En;rw [B,I3,G];rfl
theorem Qb{q:QM}:∀(rows:List AV) (i:Nat) (r:AV) (L l':List RP) (o:List AV) (a:List AV×List RP),rows[i]?=some r->En q (rows.take i) L=some (o,l')->Oj (XB q r) l'=some a->En q (rows.take (i+1)) L=some (o++a.1,a.2)
 |r9::rows,0,r,L,l',o,a,hr,h,ha=>by
  injection hr with hr
  subst hr;injection h with h
  injection h with g h2
  subst g h2;show En q [r9] L=_
  unfold En;rw [ha,I3];show some (a.1++[],a.2)=some ([]++a.1,a.2)
  rw [DB,LN]
 |r9::rows,i+1,r,L,l',o,a,hr,h,ha=>by
  rw [kn]at h⊢;obtain ⟨G,B,g,h2,m⟩:=Lm h;injection m with m h4
  have:=Qb rows i r G.2 B.2 B.1 a (by simpa using hr) h2 (by rw [<-h4];exact ha);unfold En;rw [g,I3,this,m,Cd];rfl
theorem QU{r:CE}(h:Eb q L=some r):∃x g,L=x::g/\BJ q/\x.scan=YH q/\Gd x/\(EQ x).length<=100/\((q.kd≠7/\g=[]/\r=FQ q (EQ x) [])\/(q.kd=7/\∃o,En q (EQ x) g=some (o,[])/\r=FQ q (EQ x) o)):=by
 unfold Eb at h;split at h
 · rename_i hq
   cases ha:Oj (YH q) L with
   |none=>rw [ha]at h;cases h
   |some a=>
    obtain ⟨x,m,h2,B,G⟩:=SV ha;rw [ha,I3]at h;split at h
    · rename_i h5
      rw [G]at h5 h;refine ⟨x,a.2,m,hq,h2,B,h5,?_⟩;split at h
      · rename_i h7
        cases hb:En q (EQ x) a.2 with
        |none=>rw [hb]at h;cases h
        |some b=>
         rw [hb,I3]at h;split at h
         · rename_i h8
           injection h with h
           exact .inr ⟨h7,b.1,by rw [<-h8],h.symm⟩
         · cases h
      · rename_i h7
        rw [I3]at h;split at h
        · rename_i h8
          injection h with h
          exact .inl ⟨h7,h8,h.symm⟩
        · cases h
    · cases h
 · cases h
def Fe(rs:List AV)(q:QM):List RP:=Ep rs q.tb.toNat q.cl.toNat q.lo q.hi::(if q.kd=7 then(CR rs q).map fun r=>Ep rs q.ot.toNat 0 (Bn r q.bq) (Bn r q.bq)else [])
theorem SS{rs:List AV}(m:BQ rs)(hn:rs.length<=2000)(g:∀r∈rs,r.ok){q:QM}(I:0<=q.ot/\q.ot<=3):∀l:List AV,En q l (l.map fun r=>Ep rs q.ot.toNat 0 (Bn r q.bq) (Bn r q.bq))=some (l.flatMap fun r=>Dt rs q.ot 0 (Bn r q.bq) (Bn r q.bq),[])
 |[]=>rfl
 |r::l=>by
  have e:((q.ot.toNat:Nat):Int)=q.ot:=by omega
  have B:=O5 m hn g q.ot.toNat 0 A1 A1 (Bn r q.bq) (Bn r q.bq) (ZS _);have h2:=SH m hn g q.ot.toNat 0 A1 A1 (Bn r q.bq) (Bn r q.bq) (ZS _)
  have G:=SS m hn g I l;rw [e]at h2;unfold En;rw [DQ,VI (by show(((q.ot.toNat:Nat):Int),((0:Nat):Int),_,_)=(_,_,_,_);rw [e];rfl) B,I3];simp only [G,h2,N1,HL]
theorem nE{f:AV->Bool}{g:AV->List AV}{y:AV}(B:∀a b,f a=true->f b=true->(∃r,a∈g r)->(∃r,b∈g r)->a=b):∀l:List AV,(∃r∈l,y∈g r)->f y=true->(l.flatMap g).find? f=some y:=fun l ⟨r,G,hy⟩ h=>by
 cases hfi:(l.flatMap g).find? f with
 |none=>exact absurd h (by simpa using l4.1 hfi y (S0.2 ⟨r,G,hy⟩))
 |some x=>
  have m:=lj (p:=f) hfi;obtain ⟨I,_,hx⟩:=S0.1 (kc hfi);rw [B x y m h ⟨I,hx⟩ ⟨r,hy⟩]
theorem bZ(G:BQ rs)(hn:rs.length<=2000)(J:∀r∈rs,r.ok)(m:BJ q)(hl:(CR rs q).length<=100):Eb q (Fe rs q)=some (Cf rs q):=by
 have hk:=m.2.2.2;have hc:=m.2.1
 have ht:=m.1;obtain ⟨O,h2⟩:=zN G hn J q m;have K:=qQ (rs:=rs) m
 have af:(Ep rs q.tb.toNat q.cl.toNat q.lo q.hi).scan=YH q:=by unfold RP.scan YH;rw [K.1,K.2.1,K.2.2.1,K.2.2.2]
 unfold Eb Fe;rw [AM m,VI af O,I3];simp only [h2];rw [show Dt rs q.tb q.cl.toNat q.lo q.hi=CR rs q from rfl,AM hl];by_cases B:q.kd=7
 · rw [AM B,AM B,SS G hn J A1,I3,AM rfl]
   unfold Cf FQ;simp only [AK (show¬q.kd=3 by omega),AK (show¬q.kd=4 by omega),AK (show¬q.kd=5 by omega),AK (show¬q.kd=6 by omega),AM B];congr 2;unfold Ip;have g:∀k x,x∈Dt rs q.ot 0 k k↔x∈rs/\x.t=q.ot/\x.k=k:=fun k x=>by
    rw [(ER rs q.ot 0 k k).mem_iff,FA];unfold inR Di;rw [Fl,AM rfl];constructor;· rintro ⟨a,b,c,d⟩;exact ⟨a,b,by omega⟩
    · rintro ⟨a,b,c⟩;exact ⟨a,b,by omega,by omega⟩
   have X:∀r∈CR rs q,Io q ((CR rs q).flatMap fun r=>Dt rs q.ot 0 (Bn r q.bq) (Bn r q.bq)) r=Io q (IR rs q.ot) r:=fun r hr=>by
    unfold Io
    suffices e:Dc q ((CR rs q).flatMap fun r=>Dt rs q.ot 0 (Bn r q.bq) (Bn r q.bq)) (Bn r q.bq)=Dc q (IR rs q.ot) (Bn r q.bq) by rw [e]
    cases hp:Dc q (IR rs q.ot) (Bn r q.bq)with
    |none=>
     unfold Dc;refine l4.2 fun x hx I=>?_;obtain ⟨r',_,hx⟩:=S0.1 hx;have U:=(g _ x).1 hx
     have W:x.t=q.ot/\x.k=Bn r q.bq:=by simpa using I
     have:=(Fp G (q:=q) (Bn r q.bq) x).2 ⟨U.1,W⟩;rw [hp]at this;cases this
    |some x=>
     have I:=(Fp G (q:=q) (Bn r q.bq) x).1 hp;unfold Dc;refine nE (fun a b ha hb ⟨r1,O⟩ ⟨r2,h2⟩=>?_) _ ⟨r,hr,(g _ x).2 ⟨I.1,I.2⟩⟩ (Cp I.2);have a1:=(g _ a).1 O
     have b1:=(g _ b).1 h2;have a2:a.t=q.ot/\a.k=Bn r q.bq:=by simpa using ha
     have b2:b.t=q.ot/\b.k=Bn r q.bq:=by simpa using hb
     have a3:=(Fp G (q:=q) (Bn r q.bq) a).2 ⟨a1.1,a2⟩;have b3:=(Fp G (q:=q) (Bn r q.bq) b).2 ⟨b1.1,b2⟩
     rw [a3]at b3;injection b3
   have:∀l:List AV,(∀r∈l,Io q ((CR rs q).flatMap fun r=>Dt rs q.ot 0 (Bn r q.bq) (Bn r q.bq)) r=Io q (IR rs q.ot) r)->l.flatMap (Io q ((CR rs q).flatMap fun r=>Dt rs q.ot 0 (Bn r q.bq) (Bn r q.bq)))=l.flatMap (Io q (IR rs q.ot)):=fun l=>by
    induction l with
    |nil=>intro _;rfl
    |cons r l ih=>intro h;rw [HL,HL,h r B0,ih fun x hx=>h x (by simp [hx])]
   exact this _ X
 · rw [AK B,AK B,I3,AM rfl]
   rw [<-mr m B,PI m];rfl
theorem wY(v:Value)(p:Int)(rs:List AV)(s:List AA)(hv:RH v p rs s)(K:BQ rs)(hn:rs.length<=2000)(B:∀r∈rs,r.ok)(t c lo hi:Int)(O:0<=t/\t<=3)(hc:0<=c/\c<=3)(m:lo<=hi)(g:TypeId)(G:Nat×Nat):
 Ba prog 83 #[v,I4 t,I4 c,I4 lo,I4 hi] [[(4,.cells (Et.map Cs).toArray g G)],s] (fun r H'=>∃(z:RPZ) (mem:List AA),z.x=Ep rs t.toNat c.toNat lo hi/\z.ok mem/\r= .tuple #[.agg #[I4 z.x.tb,I4 z.x.cl,I4 z.x.lo,I4 z.x.hi,I4 z.x.ct,I4 z.x.fi,.slice z.qr z.x.rows.length z.cr,.slice z.qp z.x.paths.length z.cp,.slice z.qt z.x.roots.length z.ct],I4 0]/\H'=[mem,[(4,.cells (Et.map Cs).toArray g G)],s]):=by
 have h:=dR v p rs s hv K hn B t.toNat c.toNat A1 A1 lo hi m g G;rw [show((t.toNat:Nat):Int)=t by omega,show((c.toNat:Nat):Int)=c by omega]at h;refine h.mono ?_;rintro r H' ⟨U,mem,rfl,J,rfl⟩;obtain ⟨z,I,h2,rfl⟩:=zM J;exact ⟨z,mem,I,h2,V,V⟩
theorem yS(Z:List RPZ):∀u∈Z.flatMap Ej,u.oneCell'=true:=by
 intro u g;obtain ⟨z,_,h⟩:=S0.1 g;unfold Ej at h;simp only [D4,RW,RC]at h;rcases h with rfl|rfl|rfl|rfl|rfl|rfl|rfl|rfl|rfl<;>rfl
theorem sE(Z:List RPZ):(Z.flatMap Ej).length=Z.length*9:=by
 induction Z with
 |nil=>rfl
 |cons z Z ih=>rw [HL,B7,ih,DG];show 9+_=_;omega
theorem Su(q:QM)(g:0<=q.bq/\q.bq<=3)(r:AV):BH prog 86 #[.agg q.A59,.agg r.A58] [] (.agg #[I4 q.ot,I4 0,I4 (Bn r q.bq),I4 (Bn r q.bq)]):=by
 refine Se func86 ntmps86 [0,1] ?_;intro u R;refine A0<|Ze (Bx q.A59)<|AE fun bq=>Ze (Bx #[_,_,_,_,_])<|AE fun B=>Ze (Al jx #[_,_,_,_])<|AE fun m=>A5<|A0<|Zo Wh (A9 (cs:=#[_,_,_,_,_]) CI AW Y As (by exact BK V)) ?_;refine Zh 5 CC V rfl A4 Y<|Zl AD Y ?_;refine Xr [_,_] Y SD Y V (Fy r q.bq g) ?_;refine A3 Y<|A0<|Zh 6 CC V rfl A4 Y<|Zl AD Y ?_;refine Zm Y<|Zm Y<|Zv (BM (vs:=[(0,_),(1,_),(2,_),(3,_)]) (cs:=#[_,_,_,_]) Y (AZ (pl:=#[(0,1),(1,1),(2,1),(3,1)]) jx NX (fun _=>by kernel_rfl) rfl))<|Xe (BL cN Y Y (by(simp [Value.oneCell',Value.cells];done)) Wu (by exact Dw rfl) E6 AH (by exact BB _)) ?_;refine Z0<|Zn [4] ?_;refine Zx<|AJ<|Cu V results86 Y Wh (Am isAgg180 cN Wn (BK V)) (by exact ⟨V,V⟩)
theorem yX(v:Value)(p:Int)(rs:List AV)(s:List AA)(hv:RH v p rs s)(hs:BQ rs)(hn:rs.length<=2000)(W:∀r∈rs,r.ok)(t B lo hi:Int)(ht:0<=t/\t<=3)(hc:0<=B/\B<=3)(U:lo<=hi)(I:TypeId)(zg:Nat×Nat)(bs J:Nat){g:Option Addr}{G:List AA}(X:Bc 9 143 (.slice g Z.length c) Z.length (Z.flatMap Ej) G)(hZ:Z.length<=1000000):Ba prog 82 #[.agg #[I4 t,I4 B,I4 lo,I4 hi],I5 bs,I5 J] [[(4,.cells (Et.map Cs).toArray I zg)],s,[(bs,.cells #[v] 120 (0,0))],[(J,.cells #[.slice g Z.length c] 41 (0,0))],G] (fun r H'=>r=undef/\∃(z:RPZ) (mem:List AA) (g:Option Addr) (c:Nat) (G:List AA),z.x=Ep rs t.toNat B.toNat lo hi/\z.ok mem/\Bc 9 143 (.slice g (Z.length+1) c) (Z.length+1) ((Z++[z]).flatMap Ej) G/\H'=[mem,G,[(4,.cells (Et.map Cs).toArray I zg)],s,[(bs,.cells #[v] 120 (0,0))],[(J,.cells #[.slice g (Z.length+1) c] 41 (0,0))]]):=by
 have cu:=mL;obtain ⟨sp,mb,es,ck,lm,rfl,bn⟩:=id hv;refine Se func82 ntmps82 [0,1,2] ?_;intro u R;refine A0<|Ze (Bx #[_,_,_,_])<|AE fun bx=>A5<|A0<|Zl isAgg120 Y<|Zh 0 NX V rfl A4 Y<|Zl AD Y<|Zh 1 NX V rfl A4 Y<|Zl AD Y<|Zh 2 NX V rfl A4 Y<|Zl AD Y<|Zh 3 NX V rfl A4 Y<|Zl AD Y<|Zc [_,_,_,_,_] Y call83 Y V (wY _ p rs s hv hs hn W t B lo hi ht hc U I zg) ?_;rintro _ _ ⟨_,⟨z,mem,ax,af,rfl,rfl⟩,rfl⟩;refine Zm Y<|Zd Y V<|Zd Y V<|Ze (Al cL #[_,_,_,_,_,_,_,_,_])<|AE fun bp=>Xe (Xw Hv #[I4 z.x.tb,I4 z.x.cl,I4 z.x.lo,I4 z.x.hi,I4 z.x.ct,I4 z.x.fi,.slice z.qr z.x.rows.length z.cr,.slice z.qp z.x.paths.length z.cp,.slice z.qt z.x.roots.length z.ct])<|AG Y<|Zn [2,4] ?_;refine Zx<|Zg<|Zl Lq Y<|Zo Wh (A9 (cs:=#[_,_,_,_,_,_,_,_,_]) Wk Hv Y As AN)<|Ze (Ah (vs:=[_]) (cs:=[_,_,_,_,_,_,_,_,_]) N4 Hv cL Y V rfl V rfl V)<|AE fun gb=>Ze (BR (by_:=120) (sz:=9) N4 (V:Tryz.prog.info? 143=some Tryz.t143) V rfl V rfl Y (X) Y (D8 9 gb 1 1 143 (0,0) (Ej z) V) Wo Wo (by have:=yS [z];simpa using this) A1 A1) ?_;rintro _ _ ⟨bg,m,rfl⟩;obtain ⟨O,K,rfl⟩:=m.form;refine Xe (Zs K0 Y Y rfl (hi:=by(simp;done)))<|Z0<|Cw rfl results82 (by exact ⟨rfl,z,mem,O,K,bg,ax,af,BS m rfl (by rw [N6];simp),rfl⟩)
set_option maxHeartbeats 1000000 in
theorem zX(v:Value)(p:Int)(rs:List AV)(s:List AA)(hv:RH v p rs s)(hs:BQ rs)(hn:rs.length<=2000)(gq:∀r∈rs,r.ok)(q:QM)(hq:BJ q)(hl:(CR rs q).length<=100)(Tg:TypeId)(zg:Nat×Nat):Ba prog 38 #[v,.agg q.A59] [[(4,.cells (Et.map Cs).toArray Tg zg)],s] (fun w H'=>∃vo mem,w= .tuple #[vo,I4 0]/\Fu mem vo (Fe rs q)/\H'=[mem,[(4,.cells (Et.map Cs).toArray Tg zg)],s]):=by
 have pz:=mL;obtain ⟨sp,mb,es,ck,lm,rfl,p9⟩:=id hv;have cO:=hq.2.1
 have l9:=@SX rs q.tb q.cl.toNat q.lo q.hi;have l5:0<=q.bq/\q.bq<=3:=by have:=hq.2.2.2;omega
 have l8:0<=q.ot/\q.ot<=3:=by have:=hq.2.2.2;omega
 refine Se func38 ntmps38 [0,1] ?_;intro u R;refine A0<|Ze (Bx #[_])<|AE fun bs=>Ze (Bx q.A59)<|AE fun bq=>Za Y<|A3 Y<|Zq<|AR<|A0<|Zl isAgg120 Y<|Zv (Be ml Y Y)<|A3 Y<|AX Y (fun bn=>by cases bn)<|fun bn=>A0<|Zo Wh (A9 (cs:=#[_,_,_,_,_,_,_]) Dd C7 Y As AN)<|Xr [_] Y call22 Y V (Jd q)<|Zv (D7 Y)<|A3 Y<|AX Y (fun cu=>?_) (fun cu=>?_);·
  exfalso;simp [hq]at cu
 refine AC<|A8<|Zx<|A0<|Ze (Al zeroValue41 #[_])<|AE fun bo=>A5<|A0<|Zv (Bg (vs:=[]) (us:=[_,_]) Y Y)<|AG Y<|Zn [2,3,6,7] ?_;refine Zx<|A0<|Zo Wh (A9 (cs:=#[_,_,_,_,_,_,_]) Dd C7 Y As AN)<|Xr [_] Y call84 Y V (pD q hq)<|Ze (Al jx #[_,_,_,_])<|AE fun bx=>Xe (Xw cN #[I4 q.tb,I4 q.cl,I4 q.lo,I4 q.hi])<|A5<|A0<|Zl isAgg120 Y<|Zh 0 NX V rfl A4 Y<|Zl AD Y<|Zh 1 NX V rfl A4 Y<|Zl AD Y<|Zh 2 NX V rfl A4 Y<|Zl AD Y<|Zh 3 NX V rfl A4 Y<|Zl AD Y<|Zc [_,_,_,_,_] Y call85 Y V (jy _ p rs s hv q.tb q.cl q.lo q.hi cO) ?_;rintro _ _ ⟨_,⟨s1,h1,rfl⟩,rfl⟩;rw [show Dt rs q.tb q.cl.toNat q.lo q.hi=CR rs q from rfl]at h1 l9;obtain ⟨p1,c1,rfl⟩:=h1.form;obtain ⟨p7,o9,e7,⟨pq,p8⟩,j5⟩:=id (DU h1 A1);injection e7 with e71 e72 e73
 subst e71 e73;refine AG Y<|Zn [3,6,7,8,9] ?_;refine Zx<|Zq<|A0<|Zm Y<|Zv (AY B5 Y)<|Zv (DF (n:=100) Y Y)<|A5<|Aq Y (fun j3=>by omega)<|fun j3=>AC<|Zx<|Zq<|BU<|Zg<|Zm Y<|Zo Wh (A9 (cs:=#[_,_,_,_]) isAgg180 cN Y As AN)<|Zc [_] Y call82 Y V (yX _ p rs s hv hs hn gq q.tb q.cl q.lo q.hi hq.1 cO hq.2.2.1.2.1 Tg zg bs bo (Z:=[]) (Bf 9 _) (C0 _)) ?_;rintro _ _ ⟨_,⟨rfl,z0,Ee,g0,c0,ax,gF,U,O,rfl⟩,rfl⟩;refine A5<|Zb [3,7,9,6] ?_;refine DJ (e0:=[(3,_),(7,_),(9,_)]) (H0:=[[(bo,.cells #[.slice g0 (([]:List RPZ).length+1) c0] 41 (0,0))],ax,Ee]) (fun e H=>∃(Z:List RPZ) (g:Option Addr) (c:Nat) (I B:List AA),(Z.map RPZ.x=Fe rs q/\(∀z∈Z,z.ok B)/\Bc 9 143 (.slice g Z.length c) Z.length (Z.flatMap Ej) I/\Z.length<=1000)/\e=[]/\H=[[(bo,.cells #[.slice g Z.length c] 41 (0,0))],I,B]) Wp ?hx_1 ?hy_1
 case hx_1=>
  refine A0<|Zh 0 CC V rfl A4 Y<|Zl AD Y<|Zv (CP Y Y)<|A5<|Aq Y (fun af=>?_) (fun af=>?_);·
   refine A0<|Zm Y<|Zv (AY B5 Y)<|Zm Y<|A5<|AR<|Zb [43,3,6,7,41,42] ?_;refine BA (e0:=[(43,_)]) (fun m e H=>∃(k:Nat) (Z:List RPZ) (g:Option Addr) (c:Nat) (I B:List AA),m=(CR rs q).length -k/\(k<=(CR rs q).length/\Z.map RPZ.x=Ep rs q.tb.toNat q.cl.toNat q.lo q.hi::((CR rs q).take k).map (fun r=>Ep rs q.ot.toNat 0 (Bn r q.bq) (Bn r q.bq))/\(∀z∈Z,z.ok B)/\Z.length=k+1/\Bc 9 143 (.slice g Z.length c) Z.length (Z.flatMap Ej) I)/\e=[(43,I4 (k:Int))]/\H=[[(bo,.cells #[.slice g Z.length c] 41 (0,0))],I,B]) (by exact ⟨0,[z0],g0,c0,ax,Ee,rfl,⟨C0 _,by rw [ID,J1,MD,gF],fun z hz=>by rw [BT.1 hz];exact U,rfl,O⟩,rfl,rfl⟩) Wp ?_;rintro _ _ _ ⟨k,Z,g,c,I,B,rfl,⟨hk,G,J,bg,K⟩,rfl,rfl⟩;refine A0<|Zv (Au Y Y)<|A5<|Zq<|Aq Y (fun gm=>?_) (fun gm=>?_);·
    obtain ⟨X,gy⟩:∃X,(CR rs q)[k]?=some X:=⟨_,B3 gm⟩;obtain ⟨g8,off,cur,T,zz,rfl,kv,pg,d9⟩:=j5 k X gy;refine AC<|Zx<|Zq<|AR<|A0<|Bb (Ac B5 AW Y Y A1)<|CS (cs:=[(g8,.cells cur T zz)]) (by simp [kv]) (A9 (cs:=X.A58) CI AW Y A1 d9) V rfl<|Ze (Al DS #[_,_,_,_,_])<|AE fun bx=>Xe (Xw AW X.A58)<|A5<|Zg<|Zm Y<|Zo Wh (A9 (cs:=#[_,_,_,_,_,_,_]) Dd C7 Y As AN)<|Zo Wh (A9 (cs:=#[_,_,_,_,_]) CI AW Y As AN)<|Xr [_,_] Y call86 Y V (Su q l5 X)<|Zc [_] Y call82 Y V (yX _ p rs s hv hs hn gq q.ot 0 (Bn X q.bq) (Bn X q.bq) l8 A1 (ZS _) Tg zg bs bo K A1) ?_;rintro _ _ ⟨_,⟨rfl,z5,W,g5,c5,o8,lw,ic,gB,rfl⟩,rfl⟩;refine Z0<|A8<|Zx<|CK (s1:=W) (s2:=B) Wo Wo ?_;refine Zg<|Ya (n:=1) Y Y<|Zm Y<|Z0<|Zn [43,3,6,7,41,42] ?_;refine Ab (e':=[(43,_)]) (by exact ⟨k+1,Z++[z5],g5,c5,o8,W++B,rfl,⟨by omega,by rw [BW,G,Bi gy,BW,MD,lw];rfl,fun z hz=>by rcases B9.1 hz with h9|h9;exact (J z h9).mono (fun c hc=>G2 _ hc);rw [BT.1 h9];exact ic.mono (fun c hc=>Dg _ hc),by rw [B7,bg];rfl,by rw [B7];exact gB⟩,rfl,by rw [B7]⟩)
   have ek:k=(CR rs q).length:=by omega
   subst ek;rw [GB]at G;refine Ay<|Zt<|Zt<|AU<|Zn [6] ?_;refine BO (e':=[]) (by exact ⟨Z,_,_,I,B,⟨by unfold Fe;rw [AM af];exact G,J,K,by omega⟩,rfl,rfl⟩)
  refine AC<|Zn [6] ?_;refine BO (e':=[]) (by exact ⟨[z0],g0,c0,ax,Ee,⟨by unfold Fe;rw [AK af,MD,gF],fun z hz=>by rw [BT.1 hz];exact U,O,by simp⟩,rfl,rfl⟩)
 rintro _ _ ⟨Z,g,c,I,B,⟨G,J,K,bg⟩,rfl,rfl⟩;refine Zq<|CK (s1:=I) (s2:=B) Wo Wo ?_;refine Zg<|Zl Lq Y<|Za Y<|A3 Y<|AJ<|Cv rfl results38 Y Y (by exact ⟨.slice g Z.length c,I++B,rfl,by rw [<-G];exact pJ K A1 J,rfl⟩)
set_option maxHeartbeats 1000000 in
theorem qE{p9:Option Addr}{m:Nat}(hL:Fu M (.slice p9 (L.length+1) m) (x::L))(G:Gd x){c lo hi:Int}(B:x.scan=(t,c,lo,hi))(U:Nat):Ba prog 114 #[I5 U,.agg #[I4 t,I4 c,I4 lo,I4 hi]] [[(U,.cells #[.slice p9 (L.length+1) m] 215 (0,0))],M] (fun r H'=>∃O,Bc 5 71 r (EQ x).length (Ae (EQ x)) O/\H'=[O,[(U,.cells #[.slice (EY p9 1 m 9) L.length (m -1)] 215 (0,0))],M]):=by
 have cu:=mL;obtain ⟨p8,bg,e9,W,J⟩:=hL.form;injection e9 with e91 e92 e93
 subst e91 e93;rw [DG]at W J;obtain ⟨z,ax,af,g,off,cur,T,zz,rfl,X,bn,I⟩:=hL.at (i:=0) rfl;subst ax;unfold RP.scan at B;injection B with hd1 B
 injection B with hd2 B
 injection B with hd3 hd4
 refine Se func114 ntmps114 [0,1] ?_;intro u R;refine A0<|Ze (Bx #[_,_,_,_])<|AE fun bx=>A3 Y<|A0<|Zm Y<|Zp Y V<|Zh 0 ey V rfl K0 Y<|Zl Lq Y ?_;refine Zv (AY N4 Y)<|Zv (DF (n:=0) Y Y) ?_;rw [Cp (show(0:Nat)<L.length+1 by omega)];refine Xr [_] Y call113 Y V (KQ) ?_;refine A5<|A0<|Zm Y<|Zp Y V<|Zh 0 ey V rfl K0 Y<|Zl Lq Y ?_;refine Bb (Ac (j:=0) N4 Hv Y Y A1)<|CS (cs:=[(g,.cells cur T zz)]) (by simp [X]) (A9 (cs:=#[_,_,_,_,_,_,_,_,_]) Wk Hv Y A1 I) V rfl ?_;refine Ze (Al cL #[_,_,_,_,_,_,_,_,_])<|AE fun bp=>Xe (Xw Hv #[I4 z.x.tb,I4 z.x.cl,I4 z.x.lo,I4 z.x.hi,I4 z.x.ct,I4 z.x.fi,.slice z.qr z.x.rows.length z.cr,.slice z.qp z.x.paths.length z.cp,.slice z.qt z.x.roots.length z.ct]) ?_;refine Z0<|Zn [0,3,5] ?_;refine Zx<|A0<|Zm Y<|Zm Y<|Zp Y V<|Zh 0 ey V rfl K0 Y<|Zl Lq Y ?_;refine Bb (C9 (l:=1) N4 Hv Y Y A1)<|Zp Y V<|Zh 0 ey V rfl K0 Y<|Xe (Zs K0 Y Y V (hi:=by(simp;done))) ?_;refine A5<|A0<|Zh 0 C4 V rfl A4 Y<|Zl AD Y (hv:=by exact (V:_=some (Value.int .i64 z.x.tb))) ?_;refine Zh 1 C4 V rfl A4 Y<|Zl AD Y (hv:=by exact (V:_=some (Value.int .i64 z.x.cl))) ?_;refine Zh 2 C4 V rfl A4 Y<|Zl AD Y (hv:=by exact (V:_=some (Value.int .i64 z.x.lo))) ?_;refine Zh 3 C4 V rfl A4 Y<|Zl AD Y (hv:=by exact (V:_=some (Value.int .i64 z.x.hi))) ?_;refine Zv (BM (vs:=[(0,I4 z.x.tb),(1,I4 z.x.cl),(2,I4 z.x.lo),(3,I4 z.x.hi)]) (cs:=#[I4 z.x.tb,I4 z.x.cl,I4 z.x.lo,I4 z.x.hi]) Y (AZ (pl:=#[(0,1),(1,1),(2,1),(3,1)]) jx NX (fun _=>by kernel_rfl) A6))<|Zo Wh (A9 (cs:=#[_,_,_,_]) isAgg180 cN Y As AN) ?_;refine Zv (Yt A6 NX A6 AH AH AH AH C5 AD Y Y) ?_;rw [Cp (show z.x.tb=t/\z.x.cl=c/\z.x.lo=lo/\z.x.hi=hi from⟨hd1,hd2,hd3,hd4⟩)];refine Xr [_] Y call113 Y V (KQ) ?_;refine Z0<|Zn [5] ?_;refine Zx<|A0<|Zo Wh (A9 (cs:=#[_,_,_,_,_,_,_,_,_]) Wk Hv Y As AN) ?_;refine Zc [_] Y call172 Y V (zP af.rp G V) ?_;rintro _ _ ⟨_,⟨vr,O,rfl,K,rfl⟩,rfl⟩;obtain ⟨gr,c9,rfl⟩:=K.form
 refine Zm Y<|Zd Y V<|Zd Y V<|Za Y<|A3 Y<|A0<|Zm Y<|Xr [_] Y call113 Y V (KQ) ?_;refine A5<|A0<|Zm Y<|A3 Y<|AJ<|AO V results114 Y (by exact ⟨O,K,V⟩)
theorem Oe(h:Gd x):(EQ x).length<=2000/\∀r∈EQ x,r.ok:=by
 have B:=h.ct;have h2:=h.fi
 have G:=h.n;rw [dG h];refine ⟨by have:=On (inB x) x.rows;omega,fun r m=>?_⟩;obtain ⟨j,g⟩:=GW (FA.1 m).1;exact (h.all j r g).1.1
theorem gI{α:Type}{l:List α}{k:Nat}{x:α}(h:l[k]?=some x):l.drop k=x::l.drop (k+1):=by
 obtain ⟨g,rfl⟩:=BE.1 h;exact RK g
set_option maxHeartbeats 1000000 in
theorem Wl(hL:Fu M v L)(q:QM){r:CE}(hr:Eb q L=some r):Ba prog 69 #[.agg q.A59,v] [M] (fun w H'=>∃rv sr,w= .tuple #[.agg #[rv,I4 r.val,.bool r.fnd],.bool true]/\Bc 5 71 rv r.rows.length (Ae r.rows) sr/\H'=[sr,M]):=by
 have qy:=mL;obtain ⟨x,L2,rfl,hq,pz,K,l5,J⟩:=QU hr;obtain ⟨pv,cv,rfl,_⟩:=hL.form;rw [DG]at hL;rw [DG];have hT:=hL.tail
 rw [RR]at hT;have p9:0<=q.bq/\q.bq<=3:=by have:=hq.2.2.2;omega
 refine DL func69 V ntmps69 V ?_;intro u R;refine Zb [0,1] ?_;refine A0<|Ze (Bx q.A59)<|AE fun bq=>Ze (Al GC #[_,_,_])<|AE fun bo=>Ze (Al T0 #[_])<|AE fun bk=>A5<|A0<|Zv (Bg (vs:=[]) (us:=[_,_]) Y Y)<|lI V Y ?_;refine A5<|A0<|Xe (Zs CH Y Y V (hi:=by decide))<|A5<|A0<|eP V Y ?_;refine A5<|A0<|Zo Wh (A9 (cs:=#[_,_,_,_,_,_,_]) Dd C7 Y As AN)<|Xr [_] Y call22 Y V (Jd q) ?_;rw [Cp hq];refine Xr [_] Y call113 Y V (KQ)<|A5<|A0<|Zm Y<|Zv (BM (vs:=[(0,_)]) (cs:=#[_]) Y (AZ (pl:=#[(0,1)]) zeroValue215 ey (fun _=>by kernel_rfl) V))<|Ze (Bx #[_])<|AE fun br=>AG Y<|Zn [2,4,5,6] ?_;refine Zx<|A0<|Zm Y<|Zo Wh (A9 (cs:=#[_,_,_,_,_,_,_]) Dd C7 Y As AN)<|Xr [_] Y call84 Y V (pD q hq)<|Zc [_,_] Y call114 Y V (qE hL K pz br) ?_;rintro _ _ ⟨_,⟨sr,ic,rfl⟩,rfl⟩;obtain ⟨gr,qo,rfl⟩:=ic.form;have gm:=DU ic A1
 obtain ⟨p7,qa,e7,⟨qx,qb⟩,kv⟩:=id gm;injection e7 with e71 e72 e73
 subst e71 e73;refine A3 Y<|A0<|Zm Y<|Zv (AY B5 Y)<|Zv (Ve (n:=100) Y Y) ?_;rw [Cp (show(EQ x).length<=100 by omega)];refine Xr [_] Y call113 Y V (KQ)<|A5<|Zq<|BU<|Zg<|A3 Y<|Zb [8,2,4,5,6,7] ?_;refine DJ (e0:=[(8,_)]) (H0:=[[(br,.cells #[_] 215 (0,0))],[]]) (fun e H=>∃(o:List AV) (vo:Value) (so:List AA) (pr:Option Addr) (cr:Nat),(r=FQ q (EQ x) o/\Bc 5 71 vo o.length (Ae o) so/\o.length<=200000)/\e=[(8,vo)]/\H=[[(br,.cells #[.slice pr 0 cr] 215 (0,0))],so]) Wp ?hx_1 ?hy_1
 case hx_1=>
  refine A0<|Zh 0 CC V rfl A4 Y<|Zl AD Y<|Zv (CP Y Y)<|A5<|Aq Y (fun bn=>?_) (fun bn=>?_);·
   obtain ⟨O,X,ax⟩:∃o,En q (EQ x) L2=some (o,[])/\r=FQ q (EQ x) o:=by rcases J with⟨h9,_⟩|⟨_,h9⟩;exact absurd bn h9;exact h9
   refine A0<|Zm Y<|Zv (AY B5 Y)<|Zm Y<|A5<|AR<|Zb [8,31,2,4,5,6,7,29,30] ?_;refine BA (e0:=[(8,_),(31,_)]) (fun m e H=>∃(k:Nat) (o:List AV) (l9:List RP) (vo:Value) (so:List AA) (pr:Option Addr) (cr:Nat),m=(EQ x).length -k/\(k<=(EQ x).length/\En q ((EQ x).take k) L2=some (o,l9)/\Bc 5 71 vo o.length (Ae o) so/\Fu M (.slice pr l9.length cr) l9/\o.length<=2000*k)/\e=[(8,vo),(31,I4 (k:Int))]/\H=[[(br,.cells #[.slice pr l9.length cr] 215 (0,0))],so]) (by exact ⟨0,[],L2,.slice none 0 0,[],_,_,V,⟨C0 _,V,Bf 5 _,hT,C0 _⟩,V,V⟩) Wp ?_;rintro _ _ _ ⟨k,o,l9,vo,so,pr,cr,rfl,⟨hk,G,I,bg,qz⟩,rfl,rfl⟩;obtain ⟨go,co,rfl⟩:=I.form;refine A0<|Zv (Au Y Y)<|A5<|Zq<|Aq Y (fun gB=>?_) (fun gB=>?_);·
    obtain ⟨r9,cu⟩:∃r9,(EQ x)[k]?=some r9:=⟨_,B3 gB⟩;obtain ⟨g,off,cur,T,zz,rfl,p8,qj,gq⟩:=kv k r9 cu;obtain ⟨o8,l8,U,o9,cO,_⟩:=Oi (EQ x) k L2 (O,[]) A1 X;rw [G]at U;injection U with U
    injection U with h83 h84
    subst h83 h84;rw [gI cu]at cO;obtain ⟨a9,c9,d9,_,_⟩:=Lm cO;obtain ⟨x2,gy,gF,B,W⟩:=SV d9;have lw:=(Oe B).1
    have q9:=Qb (EQ x) k r9 L2 _ _ a9 cu G d9;rw [gy,DG];rw [gy,DG]at bg;refine AC<|Zx<|Zq<|AR<|A0<|Bb (Ac B5 AW Y Y A1)<|CS (cs:=[(g,.cells cur T zz)]) (by simp [p8]) (A9 (cs:=r9.A58) CI AW Y A1 gq) V rfl<|Ze (Al DS #[_,_,_,_,_])<|AE fun bx=>Xe (Xw AW r9.A58)<|A5<|Zg<|Zm Y<|Zm Y<|Zo Wh (A9 (cs:=#[_,_,_,_,_,_,_]) Dd C7 Y As AN)<|Zo Wh (A9 (cs:=#[_,_,_,_,_]) CI AW Y As AN)<|Xr [_,_] Y call86 Y V (Su q p9 r9)<|Zc [_,_] Y call114 Y V (qE bg B gF br) ?_;rintro _ _ ⟨_,⟨s5,h5,rfl⟩,rfl⟩;rw [<-W]at h5;obtain ⟨g5,c5,rfl⟩:=h5.form;refine Ze (BR (by_:=40) (sz:=5) B5 (rfl:Tryz.prog.info? 71=some Tryz.t71) rfl rfl rfl rfl Y (I) Y (iW h5) Wo Wo (by exact CV _) (by rw [W];omega) (by rw [W];omega)) ?_;rintro _ _ ⟨sJ,af,rfl⟩;obtain ⟨qw,ql,rfl⟩:=af.form;refine AG Y<|Zn [2,4,5,6,7,8,29,30,31] ?_;refine A8<|Zx<|Zg<|Ya (n:=1) Y Y<|Zm Y<|Z0<|Zn [8,31,2,4,5,6,7,29,30] ?_;refine Ab (e':=[(8,_),(31,_)]) (by exact ⟨k+1,o++a9.1,a9.2,_,_,_,_,rfl,⟨by omega,q9,BS af (by rw [B7]) (by rw [Bh]),bg.tail,by rw [B7,W];omega⟩,rfl,rfl⟩)
   have ek:k=(EQ x).length:=by omega
   subst ek;rw [GB,X]at G;injection G with G
   injection G with hrd1 hrd2
   subst hrd1 hrd2;have sw:=ax
   refine Ay<|Zt<|Zt<|AU<|Zn [8,2,4,5,6,7] ?_;refine BO (e':=[(8,_)]) (by exact ⟨O,.slice go O.length co,so,pr,cr,⟨ax,I,by omega⟩,V,V⟩)
  obtain ⟨j3,pq⟩:L2=[]/\r=FQ q (EQ x) []:=by rcases J with⟨_,h9⟩|⟨h9,_⟩;exact h9;exact absurd h9 bn
  subst j3;refine AC<|Zn [8,2,4,5,6,7] ?_;refine BO (e':=[(8,_)]) (by exact ⟨[],.slice none 0 0,[],EY pv 1 cv 9,cv -1,⟨pq,Bf 5 _,C0 _⟩,V,V⟩)
 rintro _ _ ⟨o,vo,so,pr,cr,⟨pg,I,sj⟩,rfl,rfl⟩;obtain ⟨go,co,rfl⟩:=I.form;have j5:=DU I A1
 refine A0<|Zm Y<|Zp Y V<|Zh 0 ey V rfl K0 Y<|Zl Lq Y<|Zv (AY N4 Y)<|Zv (Cb (n:=0) Y Y) ?_;rw [Cp (show(0:Nat)=0 from rfl)];refine Xr [_] Y call113 Y V (KQ)<|A5<|A0<|Zo Wh (A9 (cs:=#[_,_,_,_,_,_,_]) Dd C7 Y As AN)<|Zm Y<|Zm Y<|Zc [_,_,_] Y call115 Y V (uB gm j5 q A1 (fun _ r hr=>Wd ((Oe K).2 r hr) q.bq)) ?_;rintro _ _ ⟨_,⟨sF,s3,rfl,h3,rfl⟩,rfl⟩;rw [PI hq,<-pg]at h3⊢;obtain ⟨p3,c3,rfl⟩:=h3.form;refine Xe (Xw Ax #[.slice p3 r.rows.length c3,I4 r.val,.bool r.fnd])<|Xe (Zs CH Y Y V (hi:=by decide))<|Z0<|Zn [4,5] ?_;refine Zx<|AJ<|rT V rfl call112 (yA _) V call111 (zD bk _) Wp ?_;rintro _ rfl;refine ⟨_,[s3,M],fun a w hf hs=>UQ results69 ((Ca a _ hf 4).trans rfl) (Am Bk Ax (by exact CM _) (cs:=#[.slice p3 r.rows.length c3,I4 r.val,.bool r.fnd]) (BK rfl) w (ZY (b:=bo) Wh hs)) ((Ca a _ hf 5).trans rfl) (Z9 DM (v:= .bool true) (i:=0) rfl w (ZY (b:=bk) Wh hs)),⟨_,s3,rfl,h3,rfl⟩,Sub.amid (by repeat(first|exact Sub.refl _|exact Sub.nil _|(apply Sub.cons;(focus (repeat(first|exact One.here _ _|apply One.there))))|refine Sub.drop _ ?_))⟩
end Go.Proofs.YtfhjaegddfehhaaGreatDoor
