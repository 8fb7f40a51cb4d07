/- statetree: Prove. -/
import Derived.Test.YtfhjaegddfehhabGreatDoorTr6
set_option linter.unusedVariables false
set_option linter.unusedSimpArgs false
namespace Go.Proofs.YtfhjaegddfehhabGreatDoor
open Go.Proofs.Tryz
open Go Go.RowKit Gw
set_option maxRecDepth 100000
attribute [local irreducible] Gw.At Gw.Nx Gw.Ops
def Ca(pd:AX->Bool)(l:List AX):Nat:=(l.takeWhile (fun x=>!pd x)).length
theorem H5(g:AX->Bool)(l:List AX):Ca g l<=l.length:=(List.takeWhile_sublist _).length_le
theorem UC{g:AX->Bool}:∀{l:List AX} {i:Nat} {x:AX},l[i]?=some x->g x=true->(∀(j:Nat) (y:AX),j<i->l[j]?=some y->g y=false)->Ca g l=i
 |[],i,x,hx,_,_=>by simp at hx
 |z::l,0,x,hx,hp,_=>by
  simp only [ao,WD]at hx;subst hx;simp [Ca,hp]
 |z::l,i+1,x,hx,hp,hno=>by
  simp only [cQ]at hx;have h0:=hno 0 z A1 rfl
  have m:=UC (l:=l) hx hp (fun j y B hy=>hno (j+1) y A1 hy);unfold Ca at m⊢;rw [Q1,Ax (by simp [h0]),Dd,m]
theorem O9{m:AX->Bool}:∀{l:List AX},(∀(j:Nat) (y:AX),l[j]?=some y->m y=false)->Ca m l=l.length
 |[],_=>rfl
 |z::l,hno=>by
  have h0:=hno 0 z rfl;have g:=O9 (l:=l) (fun j y hy=>hno (j+1) y hy)
  unfold Ca at g⊢;rw [Q1,Ax (by simp [h0]),Dd,g,Dd]
def RZ(n len:Nat):Int:=if n<len then(n:Int)else-1
def geV(c:Nat)(lo:Int)(r:AX):Bool:=decide (lo<=Di r c)
def gtV(c:Nat)(hi:Int)(r:AX):Bool:=decide (hi<Di r c)
theorem wa(v lo:Int)(bl:Nat):BB prog 143 #[I4 v,I5 bl] [[(bl,.cells #[I4 lo] 3 (0,0))]] (.bool (decide (lo<=v))):=by
 refine Se func143 ntmps143 [0,1] ?_;intro u R;refine A0<|A4 Y<|A0<|Zm Y<|Zl AF Y<|Zv (He Y Y)<|A4 Y<|AJ<|AO V results143 Y (by exact ⟨V,V⟩)
theorem yq(r:AX)(c:Nat)(hc:c<=3)(lo:Int)(m g bl:Nat):BB prog 141 #[.agg r.A97,I5 m,I5 g] [[(m,.cells #[.func (.func 143) #[] #[I5 bl]] 78 (0,0))],[(g,.cells #[I4 (c:Int)] 3 (0,0))],[(bl,.cells #[I4 lo] 3 (0,0))]] (.bool (geV c lo r)):=by
 refine Se func141 ntmps141 [0,1,2] ?_;intro u R;refine A0<|Ze (Bx #[_,_,_,_,_])<|AG fun B=>A4 Y<|Zq<|Az (n:=6) (0::0::0::6::15::31::[]) 24 AE AE V<|B9 0 V isAgg78 Y ?_;refine Fk 1 V Wh (Pa #[_,_,_,_,_] D0 B0 Y) ?_;refine B9 2 V AF Y ?_;refine Yz 3 6 15 [2,1,0] [false,false,true] [(0,(_,_))] V Y V rfl V rfl (Zu [_,_] Y Sx Y V (Om r c hc))<|D4<|BT<|Yw 4 31 V (Zu [_] Y call143 Y V (wa (Di r c) lo bl))<|D4<|A2 5 V (Aw Y)<|Ag<|Zx<|AJ<|AO V results141 Y (by exact ⟨V,V⟩)
variable{M:List A9}{v:A3}{L:List AX}
theorem zG(hv:DW M v L)(hn:L.length<=1000000)(c:Nat)(hc:c<=3)(lo:Int)(O J bl:Nat):BB prog 140 #[v,.func (.func 141) #[] #[I5 O,I5 J]] [[(O,.cells #[.func (.func 143) #[] #[I5 bl]] 78 (0,0))],[(J,.cells #[I4 (c:Int)] 3 (0,0))],[(bl,.cells #[I4 lo] 3 (0,0))],M] (I4 (RZ (Ca (geV c lo) L) L.length)):=by
 have af:=mL;obtain ⟨p,cap,rfl,hl,hg⟩:=hv;refine Se func140 ntmps140 [0,1] ?_;intro u R;refine A0<|A4 Y<|Zq<|A0<|Zm Y<|Zv (AY BE Y)<|Zm Y<|A5<|AQ<|Zb [8,0,1,7] ?_;refine BA (e0:=[(8,_)]) (fun m e H=>∃(i:Nat),m=L.length -i/\(i<=L.length/\∀(j:Nat) (y:AX),j<i->L[j]?=some y->geV c lo y=false)/\e=[(8,I4 (i:Int))]/\H=[]) (by exact ⟨0,V,⟨C5 _,by intro j y hj;omega⟩,V,V⟩) Wp ?_;rintro _ _ _ ⟨i,rfl,⟨hi,G⟩,rfl,rfl⟩;refine A0<|Zv (Au Y Y)<|A5<|Zq<|Aq Y (fun B=>?_) (fun B=>?_);·
  obtain ⟨x,hx⟩:∃x,L[i]?=some x:=⟨_,B7 B⟩;obtain ⟨g,off,cur,T,zz,rfl,W,Z,I⟩:=hg i x hx;refine AC<|Zx<|Zq<|AQ<|A0<|Zm Y<|A4 Y<|A0<|Zm Y<|Zm Y<|Zm Y<|BV (Ad BE B0 Y Y A1)<|CG (cs:=[(g,.cells cur T zz)]) (by simp [W]) (AA (cs:=x.A97) D0 B0 Y A1 I) V rfl<|Xr [_] Y call141 Y V (yq x c hc lo O J bl)<|A5<|AU Y (fun X=>?_) (fun X=>?_);·
   refine A0<|Zm Y<|A4 Y<|AJ<|Ac<|Zt<|Zt<|Ac<|Zt<|AO rfl ee Y (by exact ⟨by rw [UC hx X G];unfold RZ;rw [Ax B],rfl⟩)
  refine AC<|A8<|Zx<|Zg<|Ya (n:=1) Y Y<|Zm Y<|Z0<|Zn [8,0,1,7] ?_;refine Ab (e':=[(8,_)]) (by exact ⟨i+1,rfl,⟨by omega,fun j y hj hy=>by rcases E4 j i with h9|h9;exact G j y h9 hy;obtain rfl:j=i:=A1;rw [hx]at hy;injection hy with hy;rw [<-hy];exact X⟩,rfl,rfl⟩)
 have U:Ca (geV c lo) L=L.length:=O9 (fun j y hy=>G j y (by have:=(C4.1 hy).1;omega) hy);refine Ay<|Zt<|Zt<|AR<|Zx<|A0<|A4 Y<|AJ<|AO rfl ee Y (by exact ⟨by rw [U];unfold RZ;rw [An A1],rfl⟩)
theorem we{J X:A3}(hv:DW M J L)(hn:L.length<=1000000)(c:Nat)(hc:c<=3)(lo:Int)(I m bl:Nat):BB prog 139 #[.func (.func 143) #[] #[I5 bl],I5 I,I5 m] [[(I,.cells #[J,X] 238 (0,0))],[(m,.cells #[I4 (c:Int)] 3 (0,0))],[(bl,.cells #[I4 lo] 3 (0,0))],M] (I4 ((Ca (geV c lo) L:Nat):Int)):=by
 have W:=mL;obtain ⟨p,cap,rfl,hl,Z⟩:=id hv;have U:=H5 (geV c lo) L
 refine Se func139 ntmps139 [0,1,2] ?_;intro u R;refine A0<|Ze (Bx #[_])<|AG fun O=>A4 Y<|A0<|Zh 0 Nd V rfl CI Y<|Zl Fm Y<|Zv (Bh (vs:=[]) (us:=[_,_]) Y Y)<|Xr [_,_] Y call140 Y V (zG hv hn c hc lo O m bl)<|A4 Y<|Zq<|A0<|Zm Y<|Zv (Dw Y Y)<|A5<|Aq Y (fun g=>?_) (fun g=>?_);·
  have B:Ca (geV c lo) L=L.length:=by
   rcases E4 (Ca (geV c lo) L) L.length with h9|h9
   · unfold RZ at g;rw [Ax h9]at g;omega
   · omega
  refine A0<|Zh 0 Nd V rfl CI Y<|Zl Fm Y<|Zv (AY BE Y)<|AN Y<|Zn [4] ?_;refine Zx<|AJ<|Zt<|AO rfl results139 Y (by exact ⟨by rw [B],rfl⟩)
 have G:Ca (geV c lo) L<L.length:=by
  rcases E4 (Ca (geV c lo) L) L.length with h9|h9
  · exact h9
  · unfold RZ at g;rw [An A1]at g;omega
 refine AC<|Zx<|A0<|Zm Y<|A4 Y<|AJ<|AO rfl results139 Y (by exact ⟨by unfold RZ;rw [Ax G],rfl⟩)
theorem wZ(v lo:Int)(bl:Nat):BB prog 144 #[I4 v,I5 bl] [[(bl,.cells #[I4 lo] 3 (0,0))]] (.bool (decide (lo<v))):=by
 refine Se func144 ntmps144 [0,1] ?_;intro u R;refine A0<|A4 Y<|A0<|Zm Y<|Zl AF Y<|Zv (Et Y Y)<|A4 Y<|AJ<|AO V results144 Y (by exact ⟨V,V⟩)
theorem yp(r:AX)(c:Nat)(hc:c<=3)(lo:Int)(m g bl:Nat):BB prog 141 #[.agg r.A97,I5 m,I5 g] [[(m,.cells #[.func (.func 144) #[] #[I5 bl]] 78 (0,0))],[(g,.cells #[I4 (c:Int)] 3 (0,0))],[(bl,.cells #[I4 lo] 3 (0,0))]] (.bool (gtV c lo r)):=by
 refine Se func141 ntmps141 [0,1,2] ?_;intro u R;refine A0<|Ze (Bx #[_,_,_,_,_])<|AG fun B=>A4 Y<|Zq<|Az (n:=6) (0::0::0::6::15::31::[]) 24 AE AE V<|B9 0 V isAgg78 Y ?_;refine Fk 1 V Wh (Pa #[_,_,_,_,_] D0 B0 Y) ?_;refine B9 2 V AF Y ?_;refine Yz 3 6 15 [2,1,0] [false,false,true] [(0,(_,_))] V Y V rfl V rfl (Zu [_,_] Y Sx Y V (Om r c hc))<|D4<|BT<|Yw 4 31 V (Zu [_] Y call144 Y V (wZ (Di r c) lo bl))<|D4<|A2 5 V (Aw Y)<|Ag<|Zx<|AJ<|AO V results141 Y (by exact ⟨V,V⟩)
theorem zF(hv:DW M v L)(hn:L.length<=1000000)(c:Nat)(hc:c<=3)(lo:Int)(O J bl:Nat):BB prog 140 #[v,.func (.func 141) #[] #[I5 O,I5 J]] [[(O,.cells #[.func (.func 144) #[] #[I5 bl]] 78 (0,0))],[(J,.cells #[I4 (c:Int)] 3 (0,0))],[(bl,.cells #[I4 lo] 3 (0,0))],M] (I4 (RZ (Ca (gtV c lo) L) L.length)):=by
 have af:=mL;obtain ⟨p,cap,rfl,hl,hg⟩:=hv;refine Se func140 ntmps140 [0,1] ?_;intro u R;refine A0<|A4 Y<|Zq<|A0<|Zm Y<|Zv (AY BE Y)<|Zm Y<|A5<|AQ<|Zb [8,0,1,7] ?_;refine BA (e0:=[(8,_)]) (fun m e H=>∃(i:Nat),m=L.length -i/\(i<=L.length/\∀(j:Nat) (y:AX),j<i->L[j]?=some y->gtV c lo y=false)/\e=[(8,I4 (i:Int))]/\H=[]) (by exact ⟨0,V,⟨C5 _,by intro j y hj;omega⟩,V,V⟩) Wp ?_;rintro _ _ _ ⟨i,rfl,⟨hi,G⟩,rfl,rfl⟩;refine A0<|Zv (Au Y Y)<|A5<|Zq<|Aq Y (fun B=>?_) (fun B=>?_);·
  obtain ⟨x,hx⟩:∃x,L[i]?=some x:=⟨_,B7 B⟩;obtain ⟨g,off,cur,T,zz,rfl,W,Z,I⟩:=hg i x hx;refine AC<|Zx<|Zq<|AQ<|A0<|Zm Y<|A4 Y<|A0<|Zm Y<|Zm Y<|Zm Y<|BV (Ad BE B0 Y Y A1)<|CG (cs:=[(g,.cells cur T zz)]) (by simp [W]) (AA (cs:=x.A97) D0 B0 Y A1 I) V rfl<|Xr [_] Y call141 Y V (yp x c hc lo O J bl)<|A5<|AU Y (fun X=>?_) (fun X=>?_);·
   refine A0<|Zm Y<|A4 Y<|AJ<|Ac<|Zt<|Zt<|Ac<|Zt<|AO rfl ee Y (by exact ⟨by rw [UC hx X G];unfold RZ;rw [Ax B],rfl⟩)
  refine AC<|A8<|Zx<|Zg<|Ya (n:=1) Y Y<|Zm Y<|Z0<|Zn [8,0,1,7] ?_;refine Ab (e':=[(8,_)]) (by exact ⟨i+1,rfl,⟨by omega,fun j y hj hy=>by rcases E4 j i with h9|h9;exact G j y h9 hy;obtain rfl:j=i:=A1;rw [hx]at hy;injection hy with hy;rw [<-hy];exact X⟩,rfl,rfl⟩)
 have U:Ca (gtV c lo) L=L.length:=O9 (fun j y hy=>G j y (by have:=(C4.1 hy).1;omega) hy);refine Ay<|Zt<|Zt<|AR<|Zx<|A0<|A4 Y<|AJ<|AO rfl ee Y (by exact ⟨by rw [U];unfold RZ;rw [An A1],rfl⟩)
theorem wb{J X:A3}(hv:DW M J L)(hn:L.length<=1000000)(c:Nat)(hc:c<=3)(lo:Int)(I m bl:Nat):BB prog 139 #[.func (.func 144) #[] #[I5 bl],I5 I,I5 m] [[(I,.cells #[J,X] 238 (0,0))],[(m,.cells #[I4 (c:Int)] 3 (0,0))],[(bl,.cells #[I4 lo] 3 (0,0))],M] (I4 ((Ca (gtV c lo) L:Nat):Int)):=by
 have W:=mL;obtain ⟨p,cap,rfl,hl,Z⟩:=id hv;have U:=H5 (gtV c lo) L
 refine Se func139 ntmps139 [0,1,2] ?_;intro u R;refine A0<|Ze (Bx #[_])<|AG fun O=>A4 Y<|A0<|Zh 0 Nd V rfl CI Y<|Zl Fm Y<|Zv (Bh (vs:=[]) (us:=[_,_]) Y Y)<|Xr [_,_] Y call140 Y V (zF hv hn c hc lo O m bl)<|A4 Y<|Zq<|A0<|Zm Y<|Zv (Dw Y Y)<|A5<|Aq Y (fun g=>?_) (fun g=>?_);·
  have B:Ca (gtV c lo) L=L.length:=by
   rcases E4 (Ca (gtV c lo) L) L.length with h9|h9
   · unfold RZ at g;rw [Ax h9]at g;omega
   · omega
  refine A0<|Zh 0 Nd V rfl CI Y<|Zl Fm Y<|Zv (AY BE Y)<|AN Y<|Zn [4] ?_;refine Zx<|AJ<|Zt<|AO rfl results139 Y (by exact ⟨by rw [B],rfl⟩)
 have G:Ca (gtV c lo) L<L.length:=by
  rcases E4 (Ca (gtV c lo) L) L.length with h9|h9
  · exact h9
  · unfold RZ at g;rw [An A1]at g;omega
 refine AC<|Zx<|A0<|Zm Y<|A4 Y<|AJ<|AO rfl results139 Y (by exact ⟨by unfold RZ;rw [Ax G],rfl⟩)
theorem RD(t c:Int):BB prog 137 #[I4 t,I4 c] [] (.bool (decide ((0<=t/\t<4)/\0<=c/\c<4))):=by
 refine Se func137 ntmps137 [0,1] ?_;intro u R;refine A0<|A4 Y<|A0<|Zm Y<|Zv (He Y Y)<|Zm Y<|Aj (t:=7) Y V (fun g=>?_) (fun g=>?_);·
  refine Zf Y Y<|Yg (Dw Y Y)<|Zv (AV Y Y)<|Zm Y<|Aj (t:=11) Y V (fun h2=>?_) (fun h2=>?_);·
   refine Zf Y Y<|Yg (He Y Y)<|Zv (AV Y Y)<|Zm Y<|Aj (t:=15) Y V (fun m=>?_) (fun m=>?_);·
    refine Zf Y Y<|Yg (Dw Y Y)<|Zv (AV Y Y)<|AN Y<|Zn [4] ?_;refine Zx<|AJ<|AO V results137 Y (by exact ⟨by exact congrArg Value.bool (decide_eq_decide.2 A1),V⟩)
   refine A7 Y V<|A7 Y V<|Zv (AL Y Y)<|AN Y<|Zn [4] ?_;refine Zx<|AJ<|AO V results137 Y (by exact ⟨by exact congrArg Value.bool (Cd A1).symm,V⟩)
  refine A7 Y V<|A7 Y V<|Zv (AL Y Y)<|Zm Y<|A7 Y V<|A7 Y V<|Zv (AL Y Y)<|AN Y<|Zn [4] ?_;refine Zx<|AJ<|AO V results137 Y (by exact ⟨by exact congrArg Value.bool (Cd A1).symm,V⟩)
 refine A7 Y V<|A7 Y V<|Zv (AL Y Y)<|Zm Y<|A7 Y V<|A7 Y V<|Zv (AL Y Y)<|Zm Y<|A7 Y V<|A7 Y V<|Zv (AL Y Y)<|AN Y<|Zn [4] ?_;refine Zx<|AJ<|AO V results137 Y (by exact ⟨by exact congrArg Value.bool (Cd A1).symm,V⟩)
structure RP where
 tb:Int
 cl:Int
 lo:Int
 hi:Int
 ct:Int
 fi:Int
 rows:List AX
 paths:List (List Bs)
 roots:List Bs
deriving DecidableEq
def Bt(L:List AX)(c:Nat)(lo:Int):Nat:=Ca (geV c lo) L -1
def toT(L:List AX)(c:Nat)(hi:Int):Nat:=min (Ca (gtV c hi) L+1) L.length
def JJ(L:List AX)(f k:Nat):List (List Bs):=(List.range k).map fun j=>FJ (OB L) (f+j)
def En(rs:List AX)(t c:Nat)(lo hi:Int):RP:=
 ⟨t,c,lo,hi,(BI rs (t:Int) c).length,(Bt (BI rs (t:Int) c) c lo:Nat),((BI rs (t:Int) c).drop (Bt (BI rs (t:Int) c) c lo)).take (toT (BI rs (t:Int) c) c hi -Bt (BI rs (t:Int) c) c lo),
   JJ (BI rs (t:Int) c) (Bt (BI rs (t:Int) c) c lo) (toT (BI rs (t:Int) c) c hi -Bt (BI rs (t:Int) c) c lo),dY rs⟩
def K6(M:List A9)(pvs:List A3)(ps:List (List Bs)):Prop:=pvs.length=ps.length/\∀(i:Nat) (v:A3) (l:List Bs),pvs[i]?=some v->ps[i]?=some l->EL M v l
theorem QO(M:List A9):K6 M [] []:=⟨rfl,by intro i v l h;simp at h⟩
theorem K6.snoc{B:List A9}{g:List A3}{ps:List (List Bs)}(h:K6 M g ps){l:List Bs}(hv:EL B v l)(I:∀c∈M,c∈B):K6 B (g++[v]) (ps++[l]):=by
 obtain ⟨G,h2⟩:=h;refine ⟨by rw [BW,BW,G];rfl,?_⟩;intro i w k hi m;rcases E4 i g.length with h9|h9
 · rw [cP h9]at hi
   rw [cP A1]at m;exact (h2 i w k hi m).mono I
 · rw [T0 h9]at hi
   rw [T0 A1]at m;rw [G]at hi;cases h:i -ps.length with
   |zero=>rw [h]at hi m;simp at hi m;rw [<-hi,<-m];exact hv
   |succ n=>rw [h]at hi;simp at hi
theorem R3(L:List AX)(f k:Nat):JJ L f (k+1)=JJ L f k++[FJ (OB L) (f+k)]:=by unfold JJ;rw [kB,C2];rfl
theorem fM(L:List AX)(f k:Nat):(JJ L f k).length=k:=by unfold JJ;rw [B8,cU]
theorem jd{e:AK}{n:Nat}{xs:List A3}{s:List A9}(h:Bd 1 e v n xs s):n<=maxLen:=by
 obtain ⟨_,⟨_,h0,_⟩|⟨_,_,_,_,_,_,g,h2,_⟩⟩:=h;· omega
 · omega
theorem YU(rs:List AX):(dY rs).length=16:=by unfold dY;rw [B8];rfl
set_option maxHeartbeats 4000000 in
theorem fD(v:A3)(p:Int)(rs:List AX)(s:List A9)(hv:Rh v p rs s)(hs:BQ rs)(hn:rs.length<=2000)(j5:∀r∈rs,r.ok)(t c:Nat)(ht:t<=3)(hc:c<=3)(lo hi:Int)(r9:lo<=hi)(Tg:AK)(zg:Nat×Nat):
 BZ prog 83 #[v,I4 (t:Int),I4 (c:Int),I4 lo,I4 hi] [[(2,.cells (Er.map Ct).toArray Tg zg)],s] (fun r H'=>∃vr vp vt U sp J Z so,r= .tuple #[.agg #[I4 (t:Int),I4 (c:Int),I4 lo,I4 hi,I4 (((BI rs (t:Int) c).length:Nat):Int),I4 (((Bt (BI rs (t:Int) c) c lo):Nat):Int),vr,vp,vt],I4 0]/\Bd 5 72 vr (((BI rs (t:Int) c).drop (Bt (BI rs (t:Int) c) c lo)).take ((toT (BI rs (t:Int) c) c hi) -(Bt (BI rs (t:Int) c) c lo))).length (Af (((BI rs (t:Int) c).drop (Bt (BI rs (t:Int) c) c lo)).take ((toT (BI rs (t:Int) c) c hi) -(Bt (BI rs (t:Int) c) c lo)))) U/\Bd 1 45 vp ((toT (BI rs (t:Int) c) c hi) -(Bt (BI rs (t:Int) c) c lo)) J sp/\K6 Z J (JJ (BI rs (t:Int) c) (Bt (BI rs (t:Int) c) c lo) ((toT (BI rs (t:Int) c) c hi) -(Bt (BI rs (t:Int) c) c lo)))/\Bd 1 9 vt 16 ((dY rs).map GJ) so/\H'=[U,sp,Z,so,[(2,.cells (Er.map Ct).toArray Tg zg)],s]):=by
 have sw:=mL;obtain ⟨vw,vo,ql,qj,sO,rfl,qa⟩:=id hv;have sj:=JL hs (t:Int) c
 have qo:=H5 (geV c lo) (BI rs (t:Int) c);have qw:=H5 (gtV c hi) (BI rs (t:Int) c)
 have qz:(Bt (BI rs (t:Int) c) c lo)=Ca (geV c lo) (BI rs (t:Int) c) -1:=rfl;have sM:(toT (BI rs (t:Int) c) c hi)=min (Ca (gtV c hi) (BI rs (t:Int) c)+1) (BI rs (t:Int) c).length:=rfl
 refine Se func83 ntmps83 [0,1,2,3,4] ?_;intro u R;refine A0<|Ze (Bx #[_])<|AG fun bc=>Ze (Bx #[_])<|AG fun bl=>Ze (Bx #[_])<|AG fun bh=>Ze (Al Z1 #[_,_,_,_,_,_,_,_,_])<|AG fun qb=>A4 Y<|Zq<|AQ<|A0<|Zm Y<|Zv (Be lP Y Y)<|A4 Y<|AU Y (fun h1=>by cases h1)<|fun h1=>A0<|Zm Y<|Zl AF Y ?_;refine Xr [_,_] Y call137 Y V (RD (t:Int) (c:Int)) ?_;rw [DE (show((0<=(t:Int)/\(t:Int)<4)/\0<=(c:Int)/\(c:Int)<4) by omega)];refine Zv (Br Y)<|Zm Y<|Ae (t:=29) Y V (fun h2=>by cases h2)<|fun h2=>Yl AF Y ?_;refine Yl AF Y ?_;refine Yg (Et Y Y)<|Zv (AL Y Y)<|AN Y<|Zn [0,1,7,8,9,10,24] ?_;refine Zx<|Aq Y (fun h3=>by omega)<|fun h3=>AC<|A8<|Zx<|A0<|Zm Y<|Zm Y<|Zl AF Y ?_;refine Zc [_,_,_] Y call138 Y V (TY _ p rs s hv hs hn j5 (t:Int) c hc) ?_;rintro _ _ ⟨_,⟨vr,ve,sr,se,rfl,hO,rfl⟩,rfl⟩;obtain ⟨qr,cr,rfl⟩:=hO.1.form;obtain ⟨qe,ce,rfl⟩:=hO.2.form;have o8:=DY hO.1 A1
 have pq:EL se (.slice qe (BI rs (t:Int) c).length ce) (OB (BI rs (t:Int) c)):=Gj (BS hO.2 (GX _).symm rfl) (by rw [GX];omega);obtain ⟨p9,q9,e9,sJ,hg⟩:=id o8;injection e9 with e91 e92 e93
 subst e91 e93;refine Ze (Al hQ #[_,_])<|AG fun ob=>Xe (Xw ew #[.slice qr (BI rs (t:Int) c).length cr,.slice qe (BI rs (t:Int) c).length ce]) ?_;refine A5<|A0<|Zv (Bh (vs:=[]) (us:=[_,_]) Y Y)<|A4 Y<|A0<|Zm Y<|Zv (Bh (vs:=[]) (us:=[_]) Y Y)<|Xr [_] Y call139 Y V (we o8 A1 c hc lo ob bc bl) ?_
 (refine BV (GN Y Y (IntWalk.i64_in _ ?_)) ?_;(focus (omega)))
 refine Zv (fq Y Y)<|AN Y<|Zn [0,1,7,8,9,10,12,13,14] ?_;refine Zx<|Zq<|Az (n:=9) (0::0::3::7::0::16::48::127::255::[]) 4 AE AE V<|A2 0 V (AP Y)<|A2 1 V (Bh (vs:=[]) (us:=[_]) Y Y)<|A2 4 V (AB (off:=0) Nd V rfl CI Y)<|B9 5 V Fm Y ?_;refine A2 6 V (AY BE Y)<|Zz (l:=[2])<|B5 [true] [(5,(_,_))] V rfl (Zu [_] Y call139 Y V (wb o8 A1 c hc hi ob bc bh)) ?_ (fun _ _ h=>h.elim) Ah;rintro _ _ ⟨rfl,rfl⟩;refine BT<|A2 3 V (ED (n:=1) Y Y A1)<|A2 7 V (Mv Y Y)<|A2 8 V (Aw Y)<|Ag<|Zx<|Zq<|Az (n:=13) (0::0::0::0::0::16::48::0::0::256::1023::0::4095::[]) 6656 AE AE V<|A2 0 V (AP Y)<|B9 1 V AF Y ?_;refine B9 2 V AF Y ?_;refine B9 3 V AF Y ?_;refine A2 4 V (AB (off:=0) Nd V rfl CI Y)<|B9 5 V Fm Y ?_;refine A2 6 V (AY BE Y)<|A2 7 V (AP Y)<|A2 8 V (AP Y)<|Zz (l:=[9,11])<|B5 [true,true,true,true] [(5,(_,_)),(3,(_,_)),(2,(_,_)),(1,(_,_))] V rfl (Zw [_] Y call145 Y V (VM _ p rs s hv hs hn j5 Tg zg)) ?_ Bw ?_;·
  rintro _ _ ⟨_,⟨so,kv,rfl⟩,rfl⟩;refine ⟨Zk (Zk (Zk (Zk (Aa)))),?_⟩;obtain ⟨qt,ct,rfl⟩:=kv.form;refine A2 10 V (BL (vs:=[(0,I4 (t:Int)),(1,I4 (c:Int)),(2,I4 lo),(3,I4 hi),(4,I4 (((BI rs (t:Int) c).length:Nat):Int)),(5,I4 (((Bt (BI rs (t:Int) c) c lo):Nat):Int)),(8,.slice qt 16 ct)]) (cs:=#[I4 (t:Int),I4 (c:Int),I4 lo,I4 hi,I4 (((BI rs (t:Int) c).length:Nat):Int),I4 (((Bt (BI rs (t:Int) c) c lo):Nat):Int),.slice none 0 0,.slice none 0 0,.slice qt 16 ct]) Y (AZ (pl:=#[(0,1),(1,1),(2,1),(3,1),(4,1),(5,1),(6,1),(7,1),(8,1)]) Z1 Cl (fun _=>by kernel_rfl) AE))<|Yz 11 0 4095 [5,3,2,1] [true,true,true,true] [(5,(_,_)),(3,(_,_)),(2,(_,_)),(1,(_,_))] V Y V rfl V rfl (Al Z1 #[_,_,_,_,_,_,_,_,_])<|AG fun pb=>BT<|Yw 12 8191 V (Xw HN #[I4 (t:Int),I4 (c:Int),I4 lo,I4 hi,I4 (((BI rs (t:Int) c).length:Nat):Int),I4 (((Bt (BI rs (t:Int) c) c lo):Nat):Int),.slice none 0 0,.slice none 0 0,.slice qt 16 ct])<|D4<|Ag<|Zn [10,12,14,15,16] ?_;refine Zx<|Zq<|A0<|Zm Y<|A4 Y<|AQ<|BX<|BX<|BX<|Zb [17,10,12,15,16] ?_;refine BA (e0:=[(17,_)]) (fun m e H=>∃(k:Nat) (cO:A3) (U:List A9) (vp:A3) (sp:List A9) (J:List A3) (Z:List A9),m=(toT (BI rs (t:Int) c) c hi) -(Bt (BI rs (t:Int) c) c lo) -k/\(k<=(toT (BI rs (t:Int) c) c hi) -(Bt (BI rs (t:Int) c) c lo)/\Bd 5 72 cO k (Af (((BI rs (t:Int) c).drop (Bt (BI rs (t:Int) c) c lo)).take k)) U/\Bd 1 45 vp k J sp/\K6 Z J (JJ (BI rs (t:Int) c) (Bt (BI rs (t:Int) c) c lo) k))/\e=[(17,I4 (((Bt (BI rs (t:Int) c) c lo)+k:Nat):Int))]/\H=[[(pb,.cells #[I4 (t:Int),I4 (c:Int),I4 lo,I4 hi,I4 (((BI rs (t:Int) c).length:Nat):Int),I4 (((Bt (BI rs (t:Int) c) c lo):Nat):Int),cO,vp,.slice qt 16 ct] 146 (0,0))],U,sp,Z]) (by exact ⟨0,.slice none 0 0,[],.slice none 0 0,[],[],[],rfl,⟨C5 _,by rw [Kd];exact Bf 5 _,Bf 1 _,QO _⟩,rfl,rfl⟩) Wp ?_;rintro _ _ _ ⟨k,cO,U,vp,sp,J,Z,rfl,⟨hk,X,W,hP⟩,rfl,rfl⟩;obtain ⟨q2,c2,rfl⟩:=X.form;obtain ⟨q3,c3,rfl⟩:=W.form;refine Zq<|A0<|Zm Y<|Zm Y<|Zv (Au Y Y)<|A5<|Aq Y (fun o9=>?_) (fun o9=>?_);·
   obtain ⟨x,hx⟩:∃x,(BI rs (t:Int) c)[(Bt (BI rs (t:Int) c) c lo)+k]?=some x:=⟨_,B7 A1⟩;obtain ⟨g,off,cur,T,zz,rfl,p8,pz,j3⟩:=hg _ x hx;have cu:((BI rs (t:Int) c).drop (Bt (BI rs (t:Int) c) c lo))[k]?=some x:=by rw [Q2];exact hx
   refine AC<|Zx<|Zq<|AQ<|A0<|Zh 1 Nd V rfl HI Y<|Zl I3 Y ?_;refine Zm Y<|Zc [_,_] Y call146 Y rfl (TD pq (by rw [GX];omega) (fun s h=>by have:=Xx (fun r hr=>j5 r (Ml hr)) s h;omega) ((Bt (BI rs (t:Int) c) c lo)+k) (by rw [GX];omega) Tg zg) ?_;rintro _ _ ⟨_,⟨pg,I,rfl,O,rfl⟩,rfl⟩;have bn:(FJ (OB (BI rs (t:Int) c)) ((Bt (BI rs (t:Int) c) c lo)+k)).length<=maxLen:=jd O
   have l9:=Gj O bn;have ax:=R3 (BI rs (t:Int) c) (Bt (BI rs (t:Int) c) c lo) k▸hP.snoc (l9.mono (fun c h=>E7 Z h)) (fun c h=>GB I h)
   obtain ⟨qx,cx,rfl⟩:=O.form;refine Zm Y<|Zd Y V<|Zd Y V<|Za Y<|A4 Y<|CP (s1:=I) (s2:=Z) Wo Wo ?_;refine Az (n:=18) (0::1::0::4::0::28::60::124::255::0::512::0::2048::8191::2047::32767::65535::131071::[]) 176512 AE AE V<|A2 0 V (AB (off:=6) Cl V rfl CI Y)<|B9 1 V Fm Y ?_;refine A2 2 V (AB (off:=0) Nd V rfl CI Y)<|B9 3 V Fm Y ?_;refine A2 4 V (AP Y)<|A2 5 V (Ad BE B0 Y Y A1)<|Ce (b:=g) (x:= .cells cur T zz) (D':=127) 6 V rfl V (by simp [p8]) (AA (cs:=x.A97) D0 B0 Y A1 j3) ?_;refine A2 9 V (AB (off:=7) Cl V rfl JT Y)<|B9 10 V cH Y ?_;refine A2 11 V (AP Y)<|Zz (l:=[7,12])<|B5 [true,false,false,true] [(10,(_,_)),(1,(_,_))] V rfl (Ai (vs:=[_]) (cs:=[_,_,_,_,_]) BE B0 F0 Y V rfl V rfl V) ?_ (fun _ _ h=>h.elim) ?_;·
    rintro _ _ ⟨af,rfl,rfl⟩;refine BT<|Zz (l:=[8,12])<|B5 [true,false] [(10,(_,_))] V rfl (BR (by_:=40) (sz:=5) BE (V:Tryz.prog.info? 72=some Tryz.t72) V rfl V rfl Y (X) Y (DN 5 af 1 1 72 (0,0) [I4 x.t,I4 x.k,I4 x.v.a,I4 x.v.b,I4 x.v.c] V) Wo Wo GP A1 A1) ?hk_7 (fun _ _ h=>h.elim) ?hl_7
    case hk_7=>
     rintro _ _ ⟨l5,B,rfl⟩;refine ⟨Zk (Aa),?_⟩;obtain ⟨gq,d9,rfl⟩:=B.form;refine A2 14 V (AB (off:=6) Cl V rfl CI Y)<|Zz (l:=[12])<|B5 [true] [(10,(_,_))] V rfl (Ai (vs:=[_]) (cs:=[_]) It HI W4 Y V rfl V rfl V) ?_ (fun _ _ h=>h.elim) Ah;rintro _ _ ⟨gy,rfl,rfl⟩;refine BT<|Yw 13 32767 V (E8 (by_:=24) (sz:=1) (news:=[_]) It (V:Tryz.prog.info? 45=some Tryz.t45) V rfl V rfl Y W Y Wo Wh As V cM AW A1 A1) ?_;rintro _ _ ⟨l8,G,rfl⟩;obtain ⟨ic,gm,rfl⟩:=G.form;refine Yw 15 65535 V (Zs CI Y Y V (hc:=by exact (V:_=(#[I4 (t:Int),I4 (c:Int),I4 lo,I4 hi,I4 (((BI rs (t:Int) c).length:Nat):Int),I4 (((Bt (BI rs (t:Int) c) c lo):Nat):Int),_,_,.slice qt 16 ct]:AH))) (hi:=by(simp;done)))<|D4<|A2 16 V (AB (off:=7) Cl V rfl JT Y)<|Zz (l:=[17])<|B5 [] [] V rfl (Zs JT Y Y V (hc:=by exact (V:_=(#[I4 (t:Int),I4 (c:Int),I4 lo,I4 hi,I4 (((BI rs (t:Int) c).length:Nat):Int),I4 (((Bt (BI rs (t:Int) c) c lo):Nat):Int),_,_,.slice qt 16 ct]:AH))) (hi:=by(simp;done))) ?_ (fun _ _ h=>h.elim) Ah;rintro _ _ ⟨rfl,rfl⟩;refine BT<|Ag<|Zn [10,12,15,16,17] ?_;refine A8<|Zx<|Zg<|Zm Y<|Ya (n:=1) Y Y<|AN Y<|Zn [17,10,12,15,16] ?_;refine Ab (e':=[(17,_)]) (by exact ⟨k+1,_,_,_,_,J++[_],I++Z,rfl,⟨by omega,BS B rfl (by rw [Bn cu,Bi];rfl),BS G rfl rfl,ax⟩,rfl,rfl⟩)
    refine B5 [true,true] [(10,(_,_)),(1,(_,_))] V rfl (Ai (vs:=[_]) (cs:=[_]) It HI W4 Y V rfl V rfl V) ?_ (fun _ _ h=>h.elim) Ah;rintro _ _ ⟨gy,rfl,rfl⟩;refine BT<|Yz 8 255 8191 [10,1] [true,false] [(10,(_,_))] V Y V rfl V rfl (BR (by_:=40) (sz:=5) BE (V:Tryz.prog.info? 72=some Tryz.t72) V rfl V rfl Y (X) Y (DN 5 af 1 1 72 (0,0) [I4 x.t,I4 x.k,I4 x.v.a,I4 x.v.b,I4 x.v.c] V) Wo Wo GP A1 A1) ?_;rintro _ _ ⟨l5,B,rfl⟩;refine ⟨Zk (Aa),?_⟩;obtain ⟨gq,d9,rfl⟩:=B.form;refine A2 14 V (AB (off:=6) Cl V rfl CI Y)<|Zz (l:=[13])<|B5 [false] [] V rfl (E8 (by_:=24) (sz:=1) (news:=[_]) It (V:Tryz.prog.info? 45=some Tryz.t45) V rfl V rfl Y W Y Wo Wh As V cM AW A1 A1) ?hk_15 (fun _ _ h=>h.elim) ?hl_15
    case hk_15=>
     rintro _ _ ⟨l8,G,rfl⟩;refine ⟨Aa,?_⟩;obtain ⟨ic,gm,rfl⟩:=G.form;refine Yw 15 65535 V (Zs CI Y Y V (hc:=by exact (V:_=(#[I4 (t:Int),I4 (c:Int),I4 lo,I4 hi,I4 (((BI rs (t:Int) c).length:Nat):Int),I4 (((Bt (BI rs (t:Int) c) c lo):Nat):Int),_,_,.slice qt 16 ct]:AH))) (hi:=by(simp;done)))<|D4<|A2 16 V (AB (off:=7) Cl V rfl JT Y)<|Zz (l:=[17])<|B5 [] [] V rfl (Zs JT Y Y V (hc:=by exact (V:_=(#[I4 (t:Int),I4 (c:Int),I4 lo,I4 hi,I4 (((BI rs (t:Int) c).length:Nat):Int),I4 (((Bt (BI rs (t:Int) c) c lo):Nat):Int),_,_,.slice qt 16 ct]:AH))) (hi:=by(simp;done))) ?_ (fun _ _ h=>h.elim) Ah;rintro _ _ ⟨rfl,rfl⟩;refine BT<|Ag<|Zn [10,12,15,16,17] ?_;refine A8<|Zx<|Zg<|Zm Y<|Ya (n:=1) Y Y<|AN Y<|Zn [17,10,12,15,16] ?_;refine Ab (e':=[(17,_)]) (by exact ⟨k+1,_,_,_,_,J++[_],I++Z,rfl,⟨by omega,BS B rfl (by rw [Bn cu,Bi];rfl),BS G rfl rfl,ax⟩,rfl,rfl⟩)
    exact Ah
   refine B5 [true,true,true,true] [(10,(_,_)),(6,(_,_)),(3,(_,_)),(1,(_,_))] V rfl (Ai (vs:=[_]) (cs:=[_]) It HI W4 Y V rfl V rfl V) ?_ (fun _ _ h=>h.elim) Ah;rintro _ _ ⟨gy,rfl,rfl⟩;refine ⟨Zk (FL (by simp [*]) (Zk (Zk (Aa)))),?_⟩;refine Yz 7 124 7935 [10,6,3,1] [true,false,false,true] [(10,(_,_)),(1,(_,_))] V Y V rfl V rfl (Ai (vs:=[_]) (cs:=[_,_,_,_,_]) BE B0 F0 Y V rfl V rfl V)<|AG fun af=>BT<|Yz 8 255 8191 [10,1] [true,false] [(10,(_,_))] V Y V rfl V rfl (BR (by_:=40) (sz:=5) BE (V:Tryz.prog.info? 72=some Tryz.t72) V rfl V rfl Y (X) Y (DN 5 af 1 1 72 (0,0) [I4 x.t,I4 x.k,I4 x.v.a,I4 x.v.b,I4 x.v.c] V) Wo Wo GP A1 A1) ?_;rintro _ _ ⟨l5,B,rfl⟩;refine ⟨Zk (Aa),?_⟩;obtain ⟨gq,d9,rfl⟩:=B.form;refine A2 14 V (AB (off:=6) Cl V rfl CI Y)<|Zz (l:=[13])<|B5 [false] [] V rfl (E8 (by_:=24) (sz:=1) (news:=[_]) It (V:Tryz.prog.info? 45=some Tryz.t45) V rfl V rfl Y W Y Wo Wh As V cM AW A1 A1) ?hk_22 (fun _ _ h=>h.elim) ?hl_22
   case hk_22=>
    rintro _ _ ⟨l8,G,rfl⟩;refine ⟨Aa,?_⟩;obtain ⟨ic,gm,rfl⟩:=G.form;refine Yw 15 65535 V (Zs CI Y Y V (hc:=by exact (V:_=(#[I4 (t:Int),I4 (c:Int),I4 lo,I4 hi,I4 (((BI rs (t:Int) c).length:Nat):Int),I4 (((Bt (BI rs (t:Int) c) c lo):Nat):Int),_,_,.slice qt 16 ct]:AH))) (hi:=by(simp;done)))<|D4<|A2 16 V (AB (off:=7) Cl V rfl JT Y)<|Zz (l:=[17])<|B5 [] [] V rfl (Zs JT Y Y V (hc:=by exact (V:_=(#[I4 (t:Int),I4 (c:Int),I4 lo,I4 hi,I4 (((BI rs (t:Int) c).length:Nat):Int),I4 (((Bt (BI rs (t:Int) c) c lo):Nat):Int),_,_,.slice qt 16 ct]:AH))) (hi:=by(simp;done))) ?_ (fun _ _ h=>h.elim) Ah;rintro _ _ ⟨rfl,rfl⟩;refine BT<|Ag<|Zn [10,12,15,16,17] ?_;refine A8<|Zx<|Zg<|Zm Y<|Ya (n:=1) Y Y<|AN Y<|Zn [17,10,12,15,16] ?_;refine Ab (e':=[(17,_)]) (by exact ⟨k+1,_,_,_,_,J++[_],I++Z,rfl,⟨by omega,BS B rfl (by rw [Bn cu,Bi];rfl),BS G rfl rfl,ax⟩,rfl,rfl⟩)
   exact Ah
  have ek:k=(toT (BI rs (t:Int) c) c hi) -(Bt (BI rs (t:Int) c) c lo):=by omega
  subst ek;refine Ay<|Zt<|Zt<|AR<|Zx<|A0<|Zo Wh (AA (cs:=#[I4 (t:Int),I4 (c:Int),I4 lo,I4 hi,I4 (((BI rs (t:Int) c).length:Nat):Int),I4 (((Bt (BI rs (t:Int) c) c lo):Nat):Int),.slice q2 _ c2,.slice q3 _ c3,.slice qt 16 ct]) S4 HN Y B1 As) ?_;refine Xe (Xw HN #[I4 (t:Int),I4 (c:Int),I4 lo,I4 hi,I4 (((BI rs (t:Int) c).length:Nat):Int),I4 (((Bt (BI rs (t:Int) c) c lo):Nat):Int),.slice q2 _ c2,.slice q3 _ c3,.slice qt 16 ct]) ?_;refine A4 Y<|AJ<|Bj rfl results83 Y Wh (Am S4 HN Wn (rfl)) Y (by exact ⟨_,_,_,U,sp,J,Z,so,rfl,BS X (by rw [CC,CD];omega) rfl,W,hP,kv,rfl⟩)
 refine B5 [true,true,true,true] [(5,(_,_)),(3,(_,_)),(2,(_,_)),(1,(_,_))] V rfl (Al Z1 #[_,_,_,_,_,_,_,_,_]) ?_ (fun _ _ h=>h.elim) Ah;rintro _ _ ⟨pb,rfl,rfl⟩;refine BT<|Zz (l:=[9])<|B5 [true,true,true,true] [(5,(_,_)),(3,(_,_)),(2,(_,_)),(1,(_,_))] V rfl (Zw [_] Y call145 Y V (VM _ p rs s hv hs hn j5 Tg zg)) ?_ Bw Ah;rintro _ _ ⟨_,⟨so,kv,rfl⟩,rfl⟩;refine ⟨Zk (Zk (Zk (Zk (Aa)))),?_⟩;obtain ⟨qt,ct,rfl⟩:=kv.form;refine A2 10 V (BL (vs:=[(0,I4 (t:Int)),(1,I4 (c:Int)),(2,I4 lo),(3,I4 hi),(4,I4 (((BI rs (t:Int) c).length:Nat):Int)),(5,I4 (((Bt (BI rs (t:Int) c) c lo):Nat):Int)),(8,.slice qt 16 ct)]) (cs:=#[I4 (t:Int),I4 (c:Int),I4 lo,I4 hi,I4 (((BI rs (t:Int) c).length:Nat):Int),I4 (((Bt (BI rs (t:Int) c) c lo):Nat):Int),.slice none 0 0,.slice none 0 0,.slice qt 16 ct]) Y (AZ (pl:=#[(0,1),(1,1),(2,1),(3,1),(4,1),(5,1),(6,1),(7,1),(8,1)]) Z1 Cl (fun _=>by kernel_rfl) AE))<|Yw 12 8191 V (Xw HN #[I4 (t:Int),I4 (c:Int),I4 lo,I4 hi,I4 (((BI rs (t:Int) c).length:Nat):Int),I4 (((Bt (BI rs (t:Int) c) c lo):Nat):Int),.slice none 0 0,.slice none 0 0,.slice qt 16 ct])<|D4<|Ag<|Zn [10,12,14,15,16] ?_;refine Zx<|Zq<|A0<|Zm Y<|A4 Y<|AQ<|BX<|BX<|BX<|Zb [17,10,12,15,16] ?_;refine BA (e0:=[(17,_)]) (fun m e H=>∃(k:Nat) (cO:A3) (U:List A9) (vp:A3) (sp:List A9) (J:List A3) (Z:List A9),m=(toT (BI rs (t:Int) c) c hi) -(Bt (BI rs (t:Int) c) c lo) -k/\(k<=(toT (BI rs (t:Int) c) c hi) -(Bt (BI rs (t:Int) c) c lo)/\Bd 5 72 cO k (Af (((BI rs (t:Int) c).drop (Bt (BI rs (t:Int) c) c lo)).take k)) U/\Bd 1 45 vp k J sp/\K6 Z J (JJ (BI rs (t:Int) c) (Bt (BI rs (t:Int) c) c lo) k))/\e=[(17,I4 (((Bt (BI rs (t:Int) c) c lo)+k:Nat):Int))]/\H=[[(pb,.cells #[I4 (t:Int),I4 (c:Int),I4 lo,I4 hi,I4 (((BI rs (t:Int) c).length:Nat):Int),I4 (((Bt (BI rs (t:Int) c) c lo):Nat):Int),cO,vp,.slice qt 16 ct] 146 (0,0))],U,sp,Z]) (by exact ⟨0,.slice none 0 0,[],.slice none 0 0,[],[],[],rfl,⟨C5 _,by rw [Kd];exact Bf 5 _,Bf 1 _,QO _⟩,rfl,rfl⟩) Wp ?_
 rintro _ _ _ ⟨k,cO,U,vp,sp,J,Z,rfl,⟨hk,X,W,hP⟩,rfl,rfl⟩;obtain ⟨q2,c2,rfl⟩:=X.form;obtain ⟨q3,c3,rfl⟩:=W.form;refine Zq<|A0<|Zm Y<|Zm Y<|Zv (Au Y Y)<|A5<|Aq Y (fun o9=>?_) (fun o9=>?_);·
  obtain ⟨x,hx⟩:∃x,(BI rs (t:Int) c)[(Bt (BI rs (t:Int) c) c lo)+k]?=some x:=⟨_,B7 A1⟩;obtain ⟨g,off,cur,T,zz,rfl,p8,pz,j3⟩:=hg _ x hx;have cu:((BI rs (t:Int) c).drop (Bt (BI rs (t:Int) c) c lo))[k]?=some x:=by rw [Q2];exact hx
  refine AC<|Zx<|Zq<|AQ<|A0<|Zh 1 Nd V rfl HI Y<|Zl I3 Y ?_;refine Zm Y<|Zc [_,_] Y call146 Y rfl (TD pq (by rw [GX];omega) (fun s h=>by have:=Xx (fun r hr=>j5 r (Ml hr)) s h;omega) ((Bt (BI rs (t:Int) c) c lo)+k) (by rw [GX];omega) Tg zg) ?_;rintro _ _ ⟨_,⟨pg,I,rfl,O,rfl⟩,rfl⟩;have bn:(FJ (OB (BI rs (t:Int) c)) ((Bt (BI rs (t:Int) c) c lo)+k)).length<=maxLen:=jd O
  have l9:=Gj O bn;have ax:=R3 (BI rs (t:Int) c) (Bt (BI rs (t:Int) c) c lo) k▸hP.snoc (l9.mono (fun c h=>E7 Z h)) (fun c h=>GB I h)
  obtain ⟨qx,cx,rfl⟩:=O.form;refine Zm Y<|Zd Y V<|Zd Y V<|Za Y<|A4 Y<|CP (s1:=I) (s2:=Z) Wo Wo ?_;refine Az (n:=18) (0::1::0::4::0::28::60::124::255::0::512::0::2048::8191::2047::32767::65535::131071::[]) 176512 AE AE V<|A2 0 V (AB (off:=6) Cl V rfl CI Y)<|B9 1 V Fm Y ?_;refine A2 2 V (AB (off:=0) Nd V rfl CI Y)<|B9 3 V Fm Y ?_;refine A2 4 V (AP Y)<|A2 5 V (Ad BE B0 Y Y A1)<|Ce (b:=g) (x:= .cells cur T zz) (D':=127) 6 V rfl V (by simp [p8]) (AA (cs:=x.A97) D0 B0 Y A1 j3) ?_;refine A2 9 V (AB (off:=7) Cl V rfl JT Y)<|B9 10 V cH Y ?_;refine A2 11 V (AP Y)<|Zz (l:=[7,12])<|B5 [true,false,false,true] [(10,(_,_)),(1,(_,_))] V rfl (Ai (vs:=[_]) (cs:=[_,_,_,_,_]) BE B0 F0 Y V rfl V rfl V) ?_ (fun _ _ h=>h.elim) ?_;·
   rintro _ _ ⟨af,rfl,rfl⟩;refine BT<|Zz (l:=[8,12])<|B5 [true,false] [(10,(_,_))] V rfl (BR (by_:=40) (sz:=5) BE (V:Tryz.prog.info? 72=some Tryz.t72) V rfl V rfl Y (X) Y (DN 5 af 1 1 72 (0,0) [I4 x.t,I4 x.k,I4 x.v.a,I4 x.v.b,I4 x.v.c] V) Wo Wo GP A1 A1) ?hk_32 (fun _ _ h=>h.elim) ?hl_32
   case hk_32=>
    rintro _ _ ⟨l5,B,rfl⟩;refine ⟨Zk (Aa),?_⟩;obtain ⟨gq,d9,rfl⟩:=B.form;refine A2 14 V (AB (off:=6) Cl V rfl CI Y)<|Zz (l:=[12])<|B5 [true] [(10,(_,_))] V rfl (Ai (vs:=[_]) (cs:=[_]) It HI W4 Y V rfl V rfl V) ?_ (fun _ _ h=>h.elim) Ah;rintro _ _ ⟨gy,rfl,rfl⟩;refine BT<|Yw 13 32767 V (E8 (by_:=24) (sz:=1) (news:=[_]) It (V:Tryz.prog.info? 45=some Tryz.t45) V rfl V rfl Y W Y Wo Wh As V cM AW A1 A1) ?_;rintro _ _ ⟨l8,G,rfl⟩;obtain ⟨ic,gm,rfl⟩:=G.form;refine Yw 15 65535 V (Zs CI Y Y V (hc:=by exact (V:_=(#[I4 (t:Int),I4 (c:Int),I4 lo,I4 hi,I4 (((BI rs (t:Int) c).length:Nat):Int),I4 (((Bt (BI rs (t:Int) c) c lo):Nat):Int),_,_,.slice qt 16 ct]:AH))) (hi:=by(simp;done)))<|D4<|A2 16 V (AB (off:=7) Cl V rfl JT Y)<|Zz (l:=[17])<|B5 [] [] V rfl (Zs JT Y Y V (hc:=by exact (V:_=(#[I4 (t:Int),I4 (c:Int),I4 lo,I4 hi,I4 (((BI rs (t:Int) c).length:Nat):Int),I4 (((Bt (BI rs (t:Int) c) c lo):Nat):Int),_,_,.slice qt 16 ct]:AH))) (hi:=by(simp;done))) ?_ (fun _ _ h=>h.elim) Ah;rintro _ _ ⟨rfl,rfl⟩;refine BT<|Ag<|Zn [10,12,15,16,17] ?_;refine A8<|Zx<|Zg<|Zm Y<|Ya (n:=1) Y Y<|AN Y<|Zn [17,10,12,15,16] ?_;refine Ab (e':=[(17,_)]) (by exact ⟨k+1,_,_,_,_,J++[_],I++Z,rfl,⟨by omega,BS B rfl (by rw [Bn cu,Bi];rfl),BS G rfl rfl,ax⟩,rfl,rfl⟩)
   refine B5 [true,true] [(10,(_,_)),(1,(_,_))] V rfl (Ai (vs:=[_]) (cs:=[_]) It HI W4 Y V rfl V rfl V) ?_ (fun _ _ h=>h.elim) Ah;rintro _ _ ⟨gy,rfl,rfl⟩;refine BT<|Yz 8 255 8191 [10,1] [true,false] [(10,(_,_))] V Y V rfl V rfl (BR (by_:=40) (sz:=5) BE (V:Tryz.prog.info? 72=some Tryz.t72) V rfl V rfl Y (X) Y (DN 5 af 1 1 72 (0,0) [I4 x.t,I4 x.k,I4 x.v.a,I4 x.v.b,I4 x.v.c] V) Wo Wo GP A1 A1) ?_;rintro _ _ ⟨l5,B,rfl⟩;refine ⟨Zk (Aa),?_⟩;obtain ⟨gq,d9,rfl⟩:=B.form;refine A2 14 V (AB (off:=6) Cl V rfl CI Y)<|Zz (l:=[13])<|B5 [false] [] V rfl (E8 (by_:=24) (sz:=1) (news:=[_]) It (V:Tryz.prog.info? 45=some Tryz.t45) V rfl V rfl Y W Y Wo Wh As V cM AW A1 A1) ?hk_40 (fun _ _ h=>h.elim) ?hl_40
   case hk_40=>
    rintro _ _ ⟨l8,G,rfl⟩;refine ⟨Aa,?_⟩;obtain ⟨ic,gm,rfl⟩:=G.form;refine Yw 15 65535 V (Zs CI Y Y V (hc:=by exact (V:_=(#[I4 (t:Int),I4 (c:Int),I4 lo,I4 hi,I4 (((BI rs (t:Int) c).length:Nat):Int),I4 (((Bt (BI rs (t:Int) c) c lo):Nat):Int),_,_,.slice qt 16 ct]:AH))) (hi:=by(simp;done)))<|D4<|A2 16 V (AB (off:=7) Cl V rfl JT Y)<|Zz (l:=[17])<|B5 [] [] V rfl (Zs JT Y Y V (hc:=by exact (V:_=(#[I4 (t:Int),I4 (c:Int),I4 lo,I4 hi,I4 (((BI rs (t:Int) c).length:Nat):Int),I4 (((Bt (BI rs (t:Int) c) c lo):Nat):Int),_,_,.slice qt 16 ct]:AH))) (hi:=by(simp;done))) ?_ (fun _ _ h=>h.elim) Ah;rintro _ _ ⟨rfl,rfl⟩;refine BT<|Ag<|Zn [10,12,15,16,17] ?_;refine A8<|Zx<|Zg<|Zm Y<|Ya (n:=1) Y Y<|AN Y<|Zn [17,10,12,15,16] ?_;refine Ab (e':=[(17,_)]) (by exact ⟨k+1,_,_,_,_,J++[_],I++Z,rfl,⟨by omega,BS B rfl (by rw [Bn cu,Bi];rfl),BS G rfl rfl,ax⟩,rfl,rfl⟩)
   exact Ah
  refine B5 [true,true,true,true] [(10,(_,_)),(6,(_,_)),(3,(_,_)),(1,(_,_))] V rfl (Ai (vs:=[_]) (cs:=[_]) It HI W4 Y V rfl V rfl V) ?_ (fun _ _ h=>h.elim) Ah;rintro _ _ ⟨gy,rfl,rfl⟩;refine ⟨Zk (FL (by simp [*]) (Zk (Zk (Aa)))),?_⟩;refine Yz 7 124 7935 [10,6,3,1] [true,false,false,true] [(10,(_,_)),(1,(_,_))] V Y V rfl V rfl (Ai (vs:=[_]) (cs:=[_,_,_,_,_]) BE B0 F0 Y V rfl V rfl V)<|AG fun af=>BT<|Yz 8 255 8191 [10,1] [true,false] [(10,(_,_))] V Y V rfl V rfl (BR (by_:=40) (sz:=5) BE (V:Tryz.prog.info? 72=some Tryz.t72) V rfl V rfl Y (X) Y (DN 5 af 1 1 72 (0,0) [I4 x.t,I4 x.k,I4 x.v.a,I4 x.v.b,I4 x.v.c] V) Wo Wo GP A1 A1) ?_;rintro _ _ ⟨l5,B,rfl⟩;refine ⟨Zk (Aa),?_⟩;obtain ⟨gq,d9,rfl⟩:=B.form;refine A2 14 V (AB (off:=6) Cl V rfl CI Y)<|Zz (l:=[13])<|B5 [false] [] V rfl (E8 (by_:=24) (sz:=1) (news:=[_]) It (V:Tryz.prog.info? 45=some Tryz.t45) V rfl V rfl Y W Y Wo Wh As V cM AW A1 A1) ?hk_47 (fun _ _ h=>h.elim) ?hl_47
  case hk_47=>
   rintro _ _ ⟨l8,G,rfl⟩;refine ⟨Aa,?_⟩;obtain ⟨ic,gm,rfl⟩:=G.form;refine Yw 15 65535 V (Zs CI Y Y V (hc:=by exact (V:_=(#[I4 (t:Int),I4 (c:Int),I4 lo,I4 hi,I4 (((BI rs (t:Int) c).length:Nat):Int),I4 (((Bt (BI rs (t:Int) c) c lo):Nat):Int),_,_,.slice qt 16 ct]:AH))) (hi:=by(simp;done)))<|D4<|A2 16 V (AB (off:=7) Cl V rfl JT Y)<|Zz (l:=[17])<|B5 [] [] V rfl (Zs JT Y Y V (hc:=by exact (V:_=(#[I4 (t:Int),I4 (c:Int),I4 lo,I4 hi,I4 (((BI rs (t:Int) c).length:Nat):Int),I4 (((Bt (BI rs (t:Int) c) c lo):Nat):Int),_,_,.slice qt 16 ct]:AH))) (hi:=by(simp;done))) ?_ (fun _ _ h=>h.elim) Ah;rintro _ _ ⟨rfl,rfl⟩;refine BT<|Ag<|Zn [10,12,15,16,17] ?_;refine A8<|Zx<|Zg<|Zm Y<|Ya (n:=1) Y Y<|AN Y<|Zn [17,10,12,15,16] ?_;refine Ab (e':=[(17,_)]) (by exact ⟨k+1,_,_,_,_,J++[_],I++Z,rfl,⟨by omega,BS B rfl (by rw [Bn cu,Bi];rfl),BS G rfl rfl,ax⟩,rfl,rfl⟩)
  exact Ah
 have ek:k=(toT (BI rs (t:Int) c) c hi) -(Bt (BI rs (t:Int) c) c lo):=by omega
 subst ek;refine Ay<|Zt<|Zt<|AR<|Zx<|A0<|Zo Wh (AA (cs:=#[I4 (t:Int),I4 (c:Int),I4 lo,I4 hi,I4 (((BI rs (t:Int) c).length:Nat):Int),I4 (((Bt (BI rs (t:Int) c) c lo):Nat):Int),.slice q2 _ c2,.slice q3 _ c3,.slice qt 16 ct]) S4 HN Y B1 As) ?_;refine Xe (Xw HN #[I4 (t:Int),I4 (c:Int),I4 lo,I4 hi,I4 (((BI rs (t:Int) c).length:Nat):Int),I4 (((Bt (BI rs (t:Int) c) c lo):Nat):Int),.slice q2 _ c2,.slice q3 _ c3,.slice qt 16 ct]) ?_;refine A4 Y<|AJ<|Bj rfl results83 Y Wh (Am S4 HN Wn (rfl)) Y (by exact ⟨_,_,_,U,sp,J,Z,so,rfl,BS X (by rw [CC,CD];omega) rfl,W,hP,kv,rfl⟩)
def Ir(M:List A9)(v:A3)(ps:List (List Bs)):Prop:=∃p cap,v= .slice p ps.length cap/\(ps.length<=maxLen/\ps.length<=cap)/\∀(i:Nat) (l:List Bs),ps[i]?=some l->∃q c,EL M (.slice q l.length c) l/\∃g off cur T zz,p=some ⟨g,off,none⟩/\(g,Obj.cells cur T zz)∈M/\cur[off+i]?=some (.slice q l.length c)
def UZ(M:List A9)(v:A3)(x:RP):Prop:=∃vr vp vt,v= .agg #[I4 x.tb,I4 x.cl,I4 x.lo,I4 x.hi,I4 x.ct,I4 x.fi,vr,vp,vt]/\DW M vr x.rows/\Ir M vp x.paths/\EL M vt x.roots
theorem Vn{e:AK}{ps:List (List Bs)}{m:List A3}{s W:List A9}(h:Bd 1 e v ps.length m s)(G:K6 W m ps)(hn:ps.length<=maxLen):Ir (s++W) v ps:=by
 rcases RC ps.length with h0|h0
 · obtain ⟨b,cap,rfl⟩:=h.form
   exact ⟨b,cap,rfl,⟨hn,by omega⟩,fun i s J=>by rw [MT h0]at J;simp at J⟩
 · obtain ⟨g,cap,cur,z,rfl,rfl,B,X⟩:=Ls h h0
   refine ⟨_,cap,V,⟨hn,B⟩,fun i l I=>?_⟩;have Z:=(C4.1 I).1
   obtain ⟨w,U⟩:∃w,m[i]?=some w:=⟨_,B7 (by have:=G.1;omega)⟩;have O:=G.2 i w l U I
   obtain ⟨q,c,e1,h1,h2⟩:=id O;subst e1;refine ⟨q,c,O.mono (fun c h=>GB _ h),g,0,cur,e,z,V,by simp,?_⟩;rw [DM];exact X i _ U
theorem Ir.mono{m:List A9}{ls:List (List Bs)}(h:Ir M v ls)(B:∀c∈M,c∈m):Ir m v ls:=by
 obtain ⟨p,cap,e,J,I⟩:=h;refine ⟨p,cap,e,J,fun i s O=>?_⟩;obtain ⟨q,c,h0,g,off,cur,T,zz,e1,G,h2⟩:=I i s O;exact ⟨q,c,h0.mono B,g,off,cur,T,zz,e1,B _ G,h2⟩
theorem fC(v:A3)(p:Int)(rs:List AX)(s:List A9)(hv:Rh v p rs s)(O:BQ rs)(hn:rs.length<=2000)(G:∀r∈rs,r.ok)(t c:Nat)(ht:t<=3)(hc:c<=3)(lo hi:Int)(B:lo<=hi)(m:AK)(J:Nat×Nat):
 BZ prog 83 #[v,I4 (t:Int),I4 (c:Int),I4 lo,I4 hi] [[(2,.cells (Er.map Ct).toArray m J)],s] (fun r H'=>∃U mem,r= .tuple #[U,I4 0]/\UZ mem U (En rs t c lo hi)/\H'=[mem,[(2,.cells (Er.map Ct).toArray m J)],s]):=by
 have ax:=mL;refine H6 (fD v p rs s hv O hn G t c ht hc lo hi B m J) V ?_;rintro r H' ⟨vr,vp,vt,I,sp,cO,mp,so,rfl,W,h2,X,Z,rfl⟩;have af:=JL O (t:Int) c
 have cu:toT (BI rs (t:Int) c) c hi<=(BI rs (t:Int) c).length:=pZ _ _;have g:=fM (BI rs (t:Int) c) (Bt (BI rs (t:Int) c) c lo) (toT (BI rs (t:Int) c) c hi -Bt (BI rs (t:Int) c) c lo)
 have bn:(((BI rs (t:Int) c).drop (Bt (BI rs (t:Int) c) c lo)).take (toT (BI rs (t:Int) c) c hi -Bt (BI rs (t:Int) c) c lo)).length<=2000:=by rw [CC,CD];omega
 refine ⟨_,⟨_,I++(sp++mp)++so,V,⟨vr,vp,vt,V,?_,?_,?_⟩,V⟩,by simp⟩;· exact (DY W A1).mono (fun c h=>E7 _ (E7 _ h))
 · exact (Vn (BS h2 g.symm rfl) X (by rw [g];omega)).mono (fun c h=>E7 _ (GB _ h))
 · exact (Gj (BS Z (YU rs).symm rfl) (by rw [YU];omega)).mono (fun c h=>GB _ h)
def YI(x:RP)(j:Nat)(r:AX):Prop:=r.ok/\r.t=x.tb/\(Bl r x.cl<x.lo->j=0)/\(x.hi<Bl r x.cl->x.rows.length<=j+1)
def Ue(x:RP)(q r:AX):Prop:=Bl q x.cl<Bl r x.cl\/Bl q x.cl=Bl r x.cl/\q.k<r.k
structure Gh(x:RP):Prop where
 tc:(0<=x.tb/\x.tb<4)/\0<=x.cl/\x.cl<4
 lh:x.lo<=x.hi
 ct:0<=x.ct/\x.ct<=2000
 fi:0<=x.fi/\x.fi<=x.ct
 n:(x.rows.length:Int)<=x.ct -x.fi
 none:x.rows.length=0->x.ct=0
 all:∀(j:Nat) (r:AX),x.rows[j]?=some r->YI x j r/\(0<j->∀q,x.rows[j -1]?=some q->Ue x q r)
 first:∀r,x.rows[0]?=some r->x.fi=0\/Bl r x.cl<x.lo
 last:∀r,x.rows[x.rows.length -1]?=some r->x.fi+(x.rows.length:Int)=x.ct\/x.hi<Bl r x.cl
noncomputable instance(x:RP):Decidable (Gh x):=Classical.propDecidable _
theorem Ho{p:B6}{cap:Nat}(x:RP)(vp vt:A3)(W:DW M (.slice p x.rows.length cap) x.rows)(hc:0<=x.cl/\x.cl<=3)(O i:Nat)(r:AX)(I:x.rows[i]?=some r):BB prog 273 #[I4 (i:Int),I5 O] [[(O,.cells #[I4 x.tb,I4 x.cl,I4 x.lo,I4 x.hi,I4 x.ct,I4 x.fi,.slice p x.rows.length cap,vp,vt] 146 (0,0))],M] (I4 (Bl r x.cl)):=by
 have af:=mL;obtain ⟨p9,G,U,hl,X⟩:=W;injection U with e91 e92 e93
 subst e91 e93;obtain ⟨g,off,cur,T,zz,rfl,B,J,m⟩:=X i r I;have Z:=(C4.1 I).1
 refine Se func273 ntmps273 [0,1] ?_;intro u R;refine A0<|A4 Y<|Zq<|Az (n:=9) (0::1::0::7::15::0::32::127::255::[]) 128 AE AE V<|A2 0 V (AB (off:=6) Cl V rfl CI Y)<|B9 1 V Fm Y<|A2 2 V (AP Y)<|A2 3 V (Ad BE B0 Y Y A1)<|Ce (b:=g) (x:= .cells cur T zz) (D':=31) 4 V rfl V (by simp [B]) (AA (cs:=r.A97) D0 B0 Y A1 m) ?_;refine A2 5 V (AB (off:=1) Cl V rfl A6 Y)<|B9 6 V AF Y<|Yw 7 255 V (Zu [_,_] Y Sx Y V (Fy r x.cl hc))<|D4<|A2 8 V (Aw Y)<|Ag<|Zx<|AJ<|AO V results273 Y (by exact ⟨V,V⟩)
variable{x:RP}
set_option maxHeartbeats 4000000 in
theorem Uw(hv:UZ M v x):BB prog 240 #[v] [M] (.bool (decide (Gh x))):=by
 have w9:=mL;obtain ⟨vr,vp,vt,rfl,hR,hP,hT⟩:=hv;obtain ⟨p,cap,e9,hl,hg⟩:=id hR;subst e9;refine Se func240 ntmps240 [0] ?_;intro u R;refine A0<|Ze (Bx #[_,_,_,_,_,_,_,_,_])<|AG fun pb=>A4 Y<|A0<|Zh 6 Cl V rfl CI Y<|Zl Fm Y ?_;refine Zv (AY BE Y)<|A4 Y<|Zq<|A0<|Zh 0 Cl V rfl A6 Y<|Zl AF Y ?_;refine Zh 1 Cl V rfl A6 Y<|Zl AF Y ?_;refine Xr [_,_] Y call137 Y V (RD x.tb x.cl) ?_;refine Zv (Cn Y)<|Zm Y<|Aj (t:=17) Y V (fun qj=>?_) (fun qj=>?_);·
  refine A7 Y V<|A7 Y V<|A7 Y V<|A7 Y V<|A7 Y V<|Zv (AV Y Y)<|Zm Y<|A7 Y V<|A7 Y V<|A7 Y V<|Zv (AV Y Y)<|Zm Y<|A7 Y V<|A7 Y V<|A7 Y V<|Zv (AV Y Y)<|Zm Y<|A7 Y V<|A7 Y V<|A7 Y V<|Zv (AV Y Y)<|Zm Y<|A7 Y V<|A7 Y V<|A7 Y V<|A7 Y V<|A7 Y V<|Zv (AV Y Y)<|Zm Y<|A7 Y V<|A7 Y V<|A7 Y V<|A7 Y V<|A7 Y V<|A7 Y V<|A7 Y V<|Zv (AV Y Y)<|Z0<|Zn [1,3,54] ?_;refine Zx<|Co Y<|A0<|A4 Y<|AJ<|Zt<|AO V Lk Y (by exact ⟨congrArg Value.bool (Cd (fun B:Gh x=>by have J:=B.tc;have O:=B.lh;have U:=B.ct;have W:=B.fi;have ax:=B.n;omega)).symm,V⟩)
 refine Yf 2 Cl V rfl A6 Y<|Yl AF Y ?_;refine Yf 3 Cl V rfl A6 Y<|Yl AF Y ?_;refine Yg (Et Y Y)<|Zv (AL Y Y)<|Zm Y<|Aj (t:=24) Y V (fun ql=>?_) (fun ql=>?_);·
  refine A7 Y V<|A7 Y V<|A7 Y V<|Zv (AV Y Y)<|Zm Y<|A7 Y V<|A7 Y V<|A7 Y V<|Zv (AV Y Y)<|Zm Y<|A7 Y V<|A7 Y V<|A7 Y V<|Zv (AV Y Y)<|Zm Y<|A7 Y V<|A7 Y V<|A7 Y V<|A7 Y V<|A7 Y V<|Zv (AV Y Y)<|Zm Y<|A7 Y V<|A7 Y V<|A7 Y V<|A7 Y V<|A7 Y V<|A7 Y V<|A7 Y V<|Zv (AV Y Y)<|Z0<|Zn [1,3,54] ?_;refine Zx<|Co Y<|A0<|A4 Y<|AJ<|Zt<|AO V Lk Y (by exact ⟨congrArg Value.bool (Cd (fun B:Gh x=>by have J:=B.tc;have O:=B.lh;have U:=B.ct;have W:=B.fi;have ax:=B.n;omega)).symm,V⟩)
 refine Yf 4 Cl V rfl A6 Y<|Yl AF Y ?_;refine Yg (Dw Y Y)<|Zv (AL Y Y)<|Zm Y<|Aj (t:=29) Y V (fun qo=>?_) (fun qo=>?_);·
  refine A7 Y V<|A7 Y V<|A7 Y V<|Zv (AV Y Y)<|Zm Y<|A7 Y V<|A7 Y V<|A7 Y V<|Zv (AV Y Y)<|Zm Y<|A7 Y V<|A7 Y V<|A7 Y V<|A7 Y V<|A7 Y V<|Zv (AV Y Y)<|Zm Y<|A7 Y V<|A7 Y V<|A7 Y V<|A7 Y V<|A7 Y V<|A7 Y V<|A7 Y V<|Zv (AV Y Y)<|Z0<|Zn [1,3,54] ?_;refine Zx<|Co Y<|A0<|A4 Y<|AJ<|Zt<|AO V Lk Y (by exact ⟨congrArg Value.bool (Cd (fun B:Gh x=>by have J:=B.tc;have O:=B.lh;have U:=B.ct;have W:=B.fi;have ax:=B.n;omega)).symm,V⟩)
 refine Yf 4 Cl V rfl A6 Y<|Yl AF Y ?_;refine Yg (Et Y Y)<|Zv (AL Y Y)<|Zm Y<|Aj (t:=34) Y V (fun qw=>?_) (fun qw=>?_);·
  refine A7 Y V<|A7 Y V<|A7 Y V<|Zv (AV Y Y)<|Zm Y<|A7 Y V<|A7 Y V<|A7 Y V<|A7 Y V<|A7 Y V<|Zv (AV Y Y)<|Zm Y<|A7 Y V<|A7 Y V<|A7 Y V<|A7 Y V<|A7 Y V<|A7 Y V<|A7 Y V<|Zv (AV Y Y)<|Z0<|Zn [1,3,54] ?_;refine Zx<|Co Y<|A0<|A4 Y<|AJ<|Zt<|AO V Lk Y (by exact ⟨congrArg Value.bool (Cd (fun B:Gh x=>by have J:=B.tc;have O:=B.lh;have U:=B.ct;have W:=B.fi;have ax:=B.n;omega)).symm,V⟩)
 refine Yf 5 Cl V rfl A6 Y<|Yl AF Y ?_;refine Yg (Dw Y Y)<|Zv (AL Y Y)<|Zm Y<|Aj (t:=39) Y V (fun qx=>?_) (fun qx=>?_);·
  refine A7 Y V<|A7 Y V<|A7 Y V<|A7 Y V<|A7 Y V<|Zv (AV Y Y)<|Zm Y<|A7 Y V<|A7 Y V<|A7 Y V<|A7 Y V<|A7 Y V<|A7 Y V<|A7 Y V<|Zv (AV Y Y)<|Z0<|Zn [1,3,54] ?_;refine Zx<|Co Y<|A0<|A4 Y<|AJ<|Zt<|AO V Lk Y (by exact ⟨congrArg Value.bool (Cd (fun B:Gh x=>by have J:=B.tc;have O:=B.lh;have U:=B.ct;have W:=B.fi;have ax:=B.n;omega)).symm,V⟩)
 refine Yf 5 Cl V rfl A6 Y<|Yl AF Y ?_;refine Yf 4 Cl V rfl A6 Y<|Yl AF Y ?_;refine Yg (Et Y Y)<|Zv (AL Y Y)<|Zm Y<|Aj (t:=46) Y V (fun qz=>?_) (fun qz=>?_);·
  refine A7 Y V<|A7 Y V<|A7 Y V<|A7 Y V<|A7 Y V<|A7 Y V<|A7 Y V<|Zv (AV Y Y)<|Z0<|Zn [1,3,54] ?_;refine Zx<|Co Y<|A0<|A4 Y<|AJ<|Zt<|AO V Lk Y (by exact ⟨congrArg Value.bool (Cd (fun B:Gh x=>by have J:=B.tc;have O:=B.lh;have U:=B.ct;have W:=B.fi;have ax:=B.n;omega)).symm,V⟩)
 refine Zf Y Y<|Yf 4 Cl V rfl A6 Y<|Yl AF Y ?_;refine Yf 5 Cl V rfl A6 Y<|Yl AF Y ?_
 (refine Gx Y (GN Y Y (IntWalk.i64_in _ ?_)) rfl rfl ?_;(focus (first|omega|(simp;omega))))
 refine Yg (Et Y Y)<|Zv (AL Y Y)<|Z0<|Zn [1,3,54] ?_;refine Zx<|Aq Y (fun sj=>?_) (fun sj=>?_);·
  refine A0<|A4 Y<|AJ<|Zt<|AO V Lk Y (by exact ⟨congrArg Value.bool (Cd (fun B:Gh x=>by have J:=B.tc;have O:=B.lh;have U:=B.ct;have W:=B.fi;have ax:=B.n;omega)).symm,V⟩)
 refine AC<|Zx<|Zq<|A0<|Zm Y<|Zv (CR (n:=0) Y Y)<|A5<|Aq Y (fun hz=>?_) (fun hz=>?_);·
  refine A0<|Zh 4 Cl V rfl A6 Y<|Zl AF Y ?_;refine Zv (CK Y Y)<|A4 Y<|AJ<|Zt<|AO V Lk Y (by exact ⟨KZ ⟨fun B=>⟨by omega,by omega,by omega,by omega,by omega,fun _=>B,fun j r X=>by have:=(C4.1 X).1;omega,fun r X=>by have:=(C4.1 X).1;omega,fun r X=>by have:=(C4.1 X).1;omega⟩,fun B=>B.none hz⟩,V⟩)
 refine AC<|Zx<|A0<|Zv (Bh (vs:=[]) (us:=[_]) Y Y)<|A4 Y<|Zq<|A0<|Zh 6 Cl V rfl CI Y<|Zl Fm Y ?_;refine Zv (AY BE Y)<|Zm Y<|A5<|AQ<|Zb [64,1,3,4,62,63] ?_;refine BA (e0:=[(64,_)]) (fun m e H=>∃(i:Nat),m=x.rows.length -i/\(i<=x.rows.length/\∀(j:Nat) (r:AX),j<i->x.rows[j]?=some r->YI x j r/\(0<j->∀q,x.rows[j -1]?=some q->Ue x q r))/\e=[(64,I4 (i:Int))]/\H=[]) (by exact ⟨0,V,⟨C5 _,by intro j r X;omega⟩,V,V⟩) Wp ?_;rintro _ _ _ ⟨i,rfl,⟨hi,af⟩,rfl,rfl⟩;refine A0<|Zv (Au Y Y)<|A5<|Zq<|Aq Y (fun qa=>?_) (fun qa=>?_);·
  obtain ⟨r,hr⟩:∃r,x.rows[i]?=some r:=⟨_,B7 qa⟩;obtain ⟨g,off,cur,T,zz,rfl,ve,vw,pq⟩:=hg i r hr;refine AC<|Zx<|Zq<|AQ<|A0<|Zm Y<|BV (Ad BE B0 Y Y A1)<|CG (cs:=[(g,.cells cur T zz)]) (by simp [ve]) (AA (cs:=r.A97) D0 B0 Y A1 pq) V rfl ?_;refine Ze (Al F0 #[_,_,_,_,_])<|AG fun rb=>Za Y<|Xe (Xw B0 r.A97) ?_;refine A5<|A0<|Zm Y<|Zm Y<|Xr [_] Y call273 Y V (Ho x vp vt hR A1 pb i r hr) ?_;refine A4 Y<|Zb [1,3,4,5,6,7,62,63,64] ?_;refine DL (e0:=[]) (H0:=[]) (fun e H=>∃(u9:Unit),(YI x i r)/\e=[]/\H=[]) Wp ?hx_10 ?hy_10
  case hx_10=>
   refine A0<|Zo Wh (AA (cs:=#[_,_,_,_,_]) D0 B0 Y B1 As) ?_;refine Xr [_] Y call207 Y V (Sb r) ?_;refine Zv (Cn Y)<|Zm Y<|Aj (t:=75) Y V (fun sw=>?_) (fun sw=>?_);·
    refine A7 Y V<|A7 Y V<|A7 Y V<|A7 Y V<|A7 Y V<|Zv (AV Y Y)<|Zm Y<|A7 Y V<|A7 Y V<|A7 Y V<|A7 Y V<|A7 Y V<|A7 Y V<|A7 Y V<|A7 Y V<|Zv (AV Y Y)<|Zm Y<|A7 Y V<|A7 Y V<|A7 Y V<|A7 Y V<|A7 Y V<|A7 Y V<|A7 Y V<|A7 Y V<|A7 Y V<|A7 Y V<|Zv (AV Y Y)<|Z0<|Zn [1,3,4,5,6,7,62,63,64,103] ?_;refine Zx<|Co Y<|A0<|A4 Y<|AJ<|Zt<|Ac<|Zt<|Zt<|Ac<|Zt<|AO rfl Lk Y (by exact ⟨congrArg Value.bool (Cd (fun B:Gh x=>by obtain ⟨⟨J,O,U,W⟩,_⟩:=B.all i r hr;contradiction)).symm,rfl⟩)
   refine Yf 0 G0 V rfl A6 Y<|Yl AF Y ?_;refine Yf 0 Cl V rfl A6 Y<|Yl AF Y ?_;refine Yg (LZ Y Y)<|Zv (AL Y Y)<|Zm Y<|Aj (t:=82) Y V (fun sJ=>?_) (fun sJ=>?_);·
    refine A7 Y V<|A7 Y V<|A7 Y V<|A7 Y V<|A7 Y V<|A7 Y V<|A7 Y V<|A7 Y V<|Zv (AV Y Y)<|Zm Y<|A7 Y V<|A7 Y V<|A7 Y V<|A7 Y V<|A7 Y V<|A7 Y V<|A7 Y V<|A7 Y V<|A7 Y V<|A7 Y V<|Zv (AV Y Y)<|Z0<|Zn [1,3,4,5,6,7,62,63,64,103] ?_;refine Zx<|Co Y<|A0<|A4 Y<|AJ<|Zt<|Ac<|Zt<|Zt<|Ac<|Zt<|AO rfl Lk Y (by exact ⟨congrArg Value.bool (Cd (fun B:Gh x=>by obtain ⟨⟨J,O,U,W⟩,_⟩:=B.all i r hr;omega)).symm,rfl⟩)
   refine Zf Y Y<|Yf 2 Cl V rfl A6 Y<|Yl AF Y ?_;refine Yg (Dw Y Y)<|Zf Y Y ?_;refine Aj (t:=87) Y V (fun l9=>?_) (fun l9=>?_);·
    refine Zf Y Y<|Yg (DK (n:=0) Y Y)<|Yg (AV Y Y)<|Zv (AL Y Y)<|Zm Y<|Aj (t:=92) Y V (fun o8=>?_) (fun o8=>?_);·
     refine A7 Y V<|A7 Y V<|A7 Y V<|A7 Y V<|A7 Y V<|A7 Y V<|A7 Y V<|A7 Y V<|A7 Y V<|A7 Y V<|Zv (AV Y Y)<|Z0<|Zn [1,3,4,5,6,7,62,63,64,103] ?_;refine Zx<|Co Y<|A0<|A4 Y<|AJ<|Zt<|Ac<|Zt<|Zt<|Ac<|Zt<|AO rfl Lk Y (by exact ⟨congrArg Value.bool (Cd (fun B:Gh x=>by obtain ⟨⟨J,O,U,W⟩,_⟩:=B.all i r hr;omega)).symm,rfl⟩)
    refine Zf Y Y<|Yf 3 Cl V rfl A6 Y<|Yl AF Y ?_;refine Yg (Et Y Y)<|Zf Y Y ?_;refine Aj (t:=97) Y V (fun o9=>?_) (fun o9=>?_);·
     refine Zf Y Y<|Zf Y Y ?_
     (refine Gx Y (CQ (n:=1) Y Y ?_ ?_) rfl rfl ?_;(focus (first|omega|(simp;omega)));(focus (first|omega|(simp;omega))))
     refine Yg (Au Y Y)<|Yg (AV Y Y)<|Zv (AL Y Y)<|Z0<|Zn [1,3,4,5,6,7,62,63,64,103] ?_;refine Zx<|Aq Y (fun p8=>?_) (fun p8=>?_);·
      refine A0<|A4 Y<|AJ<|Zt<|Ac<|Zt<|Zt<|Ac<|Zt<|AO rfl Lk Y (by exact ⟨congrArg Value.bool (Cd (fun B:Gh x=>by obtain ⟨⟨J,O,U,W⟩,_⟩:=B.all i r hr;omega)).symm,rfl⟩)
     refine AC<|Zn [1,3,4,5,6,7,62,63,64] ?_;refine BN (e':=[]) (by exact ⟨(),⟨by exact HL.1 fN,by omega,fun h=>by omega,fun h=>by omega⟩,V,V⟩)
    refine A7 Y V<|A7 Y V<|A7 Y V<|A7 Y V<|Yg (AL Y Y)<|Zv (AL Y Y)<|Z0<|Zn [1,3,4,5,6,7,62,63,64,103] ?_;refine Zx<|D9 Y<|AC<|Zn [1,3,4,5,6,7,62,63,64] ?_;refine BN (e':=[]) (by exact ⟨(),⟨by exact HL.1 fN,by omega,fun h=>by omega,fun h=>by omega⟩,V,V⟩)
   refine A7 Y V<|A7 Y V<|Yg (AL Y Y)<|Zv (AL Y Y)<|Zm Y<|Zf Y Y<|Yf 3 Cl V rfl A6 Y<|Yl AF Y ?_;refine Yg (Et Y Y)<|Zf Y Y ?_;refine Aj (t:=97) Y V (fun p9=>?_) (fun p9=>?_);·
    refine Zf Y Y<|Zf Y Y ?_
    (refine Gx Y (CQ (n:=1) Y Y ?_ ?_) rfl rfl ?_;(focus (first|omega|(simp;omega)));(focus (first|omega|(simp;omega))))
    refine Yg (Au Y Y)<|Yg (AV Y Y)<|Zv (AL Y Y)<|Z0<|Zn [1,3,4,5,6,7,62,63,64,103] ?_;refine Zx<|Aq Y (fun pg=>?_) (fun pg=>?_);·
     refine A0<|A4 Y<|AJ<|Zt<|Ac<|Zt<|Zt<|Ac<|Zt<|AO rfl Lk Y (by exact ⟨congrArg Value.bool (Cd (fun B:Gh x=>by obtain ⟨⟨J,O,U,W⟩,_⟩:=B.all i r hr;omega)).symm,rfl⟩)
    refine AC<|Zn [1,3,4,5,6,7,62,63,64] ?_;refine BN (e':=[]) (by exact ⟨(),⟨by exact HL.1 fN,by omega,fun h=>by omega,fun h=>by omega⟩,V,V⟩)
   refine A7 Y V<|A7 Y V<|A7 Y V<|A7 Y V<|Yg (AL Y Y)<|Zv (AL Y Y)<|Z0<|Zn [1,3,4,5,6,7,62,63,64,103] ?_;refine Zx<|D9 Y<|AC<|Zn [1,3,4,5,6,7,62,63,64] ?_;refine BN (e':=[]) (by exact ⟨(),⟨by exact HL.1 fN,by omega,fun h=>by omega,fun h=>by omega⟩,V,V⟩)
  rintro _ _ ⟨u9,ek,rfl,rfl⟩;refine Zq<|Az (n:=30) (0::1::3::7::7::7::39::119::255::511::1023::1023::1023::5119::15359::32767::65535::131071::262143::131071::655359::131071::2228223::7995391::16383999::33161215::67108863::134217727::268435455::536870911::[]) 16512 AE AE V<|A2 0 V (AP Y)<|A2 1 V (DK (n:=0) Y Y)<|A2 2 V (AP Y)<|D8 (t:=106) Y (fun gm=>?_) (fun gm=>?_);·
   rw [DE gm];obtain ⟨q,hq⟩:∃q,x.rows[i -1]?=some q:=⟨_,B7 A1⟩;obtain ⟨g2,vz,gy,T2,vo,ic,qb,kv,j3⟩:=hg (i -1) q hq;injection ic with ic
   injection ic with e291 e292
   subst e291 e292;have sO:gy[off+(i -1)*5+1]?=some (I4 q.k):=by rw [Pd j3 kv 1 A1];rfl
   refine B3 3 V (AP Y)<|B3 4 V (AP Y)<|B3 5 V (AP Y) ?_
   (refine B3 6 rfl (CQ (n:=1) Y Y ?_ ?_) ?_;(focus (first|omega|(simp;omega)));(focus (first|omega|(simp;omega))))
   refine Yw 7 255 V (Zu [_] Y call273 Y V (Ho x vp vt hR A1 pb (i -1) q hq))<|D4<|B3 8 V (Dw Y Y)<|B3 9 V (AP Y)<|D8 (t:=113) Y (fun l8=>?_) (fun l8=>?_);·
    rw [DE l8];refine AM 10 V<|AM 11 V<|AM 12 V<|AM 13 V<|AM 14 V<|AM 15 V<|AM 16 V<|AM 17 V<|AM 18 V<|AM 19 V<|AM 20 V<|AM 21 V<|AM 22 V<|AM 23 V<|AM 24 V<|AM 25 V<|AM 26 V<|AM 27 V<|B3 28 V (AV Y Y)<|A2 29 V (AV Y Y)<|Ag<|Zn [1,3,4,62,63,64,133] ?_;refine Zx<|Co Y<|A0<|A4 Y<|AJ<|Ac<|Zt<|Zt<|Ac<|Zt<|AO V Lk Y (by exact ⟨congrArg Value.bool (Cd (fun B:Gh x=>by have ha:=(B.all i r hr).2 gm q hq;unfold Ue at ha;omega)).symm,V⟩)
   rw [Cd l8];refine B3 10 V (AP Y)<|B3 11 V (AP Y)<|B3 12 V (AP Y) ?_
   (refine B3 13 rfl (CQ (n:=1) Y Y ?_ ?_) ?_;(focus (first|omega|(simp;omega)));(focus (first|omega|(simp;omega))))
   refine Yw 14 32767 V (Zu [_] Y call273 Y V (Ho x vp vt hR A1 pb (i -1) q hq))<|D4<|B3 15 V (CK Y Y)<|B3 16 V (AP Y)<|D8 (t:=120) Y (fun l5=>?_) (fun l5=>?_);·
    rw [DE l5];refine B3 17 V (AB (off:=1) G0 V rfl A6 Y)<|DQ 18 V Wh (BO AF Y As) ?_;refine B3 19 V (AB (off:=6) Cl V rfl CI Y)<|DQ 20 V Wh (BO Fm Y As) ?_;refine B3 21 V (AP Y) ?_
    (refine B3 22 rfl (CQ (n:=1) Y Y ?_ ?_) ?_;(focus (first|omega|(simp;omega)));(focus (first|omega|(simp;omega))))
    refine B3 23 V (Ad BE B0 Y Y A1)<|B3 24 V (Ar (off:=1) G0 V rfl A6 Y)<|Xc (b:=g) (x:= .cells gy T2 vo) (D':=67108863) 25 Y V rfl V (by simp [qb]) (BO AF Y sO) ?_;refine B3 26 V (NY Y Y)<|B3 27 V (AV Y Y)<|B3 28 V (AL Y Y)<|A2 29 V (AV Y Y)<|Ag<|Zn [1,3,4,62,63,64,133] ?_;refine Zx<|Aq Y (fun sM=>?_) (fun sM=>?_);·
     refine A0<|A4 Y<|AJ<|Ac<|Zt<|Zt<|Ac<|Zt<|AO V Lk Y (by exact ⟨congrArg Value.bool (Cd (fun B:Gh x=>by have ha:=(B.all i r hr).2 gm q hq;unfold Ue at ha;omega)).symm,V⟩)
    refine AC<|A8<|Zx<|Zg<|Ya (n:=1) Y Y<|Zm Y<|Z0<|Zn [64,1,3,4,62,63] ?_;refine Ab (e':=[(64,_)]) (by
     exact ⟨i+1,V,⟨by omega,fun j r9 X G=>by
      rcases E4 j i with B|B
      · exact af j r9 B G
      · obtain rfl:j=i:=A1
        rw [hr]at G;injection G with G;subst G
        refine ⟨ek,fun pz q9 Z=>?_⟩
        (rw [hq]at Z;injection Z with Z;subst Z;unfold Ue;omega)⟩,rfl,rfl⟩)
   rw [Cd l5];refine AM 17 V<|AM 18 V<|AM 19 V<|AM 20 V<|AM 21 V<|AM 22 V<|AM 23 V<|AM 24 V<|AM 25 V<|AM 26 V<|B3 27 V (AL Y Y)<|B3 28 V (AL Y Y)<|A2 29 V (AV Y Y)<|Ag<|Zn [1,3,4,62,63,64,133] ?_;refine Zx<|D9 Y<|AC<|A8<|Zx<|Zg<|Ya (n:=1) Y Y<|Zm Y<|Z0<|Zn [64,1,3,4,62,63] ?_;refine Ab (e':=[(64,_)]) (by
    exact ⟨i+1,V,⟨by omega,fun j r9 X G=>by
     rcases E4 j i with B|B
     · exact af j r9 B G
     · obtain rfl:j=i:=A1
       rw [hr]at G;injection G with G;subst G
       refine ⟨ek,fun pz q9 Z=>?_⟩
       (rw [hq]at Z;injection Z with Z;subst Z;unfold Ue;omega)⟩,rfl,rfl⟩)
  rw [Cd gm];refine AM 3 V<|AM 4 V<|AM 5 V<|AM 6 V<|AM 7 V<|AM 8 V<|AM 9 V<|AM 10 V<|AM 11 V<|AM 12 V<|AM 13 V<|AM 14 V<|AM 15 V<|AM 16 V<|AM 17 V<|AM 18 V<|AM 19 V<|AM 20 V<|AM 21 V<|AM 22 V<|AM 23 V<|AM 24 V<|AM 25 V<|AM 26 V<|AM 27 V<|AM 28 V<|A2 29 V (AL Y Y)<|Ag<|Zn [1,3,4,62,63,64,133] ?_;refine Zx<|D9 Y<|AC<|A8<|Zx<|Zg<|Ya (n:=1) Y Y<|Zm Y<|Z0<|Zn [64,1,3,4,62,63] ?_;refine Ab (e':=[(64,_)]) (by
   exact ⟨i+1,V,⟨by omega,fun j r9 X G=>by
    rcases E4 j i with B|B
    · exact af j r9 B G
    · obtain rfl:j=i:=A1
      rw [hr]at G;injection G with G;subst G
      refine ⟨ek,fun pz q9 Z=>?_⟩
      (exfalso;omega)⟩,rfl,rfl⟩)
 obtain ⟨r0,j5⟩:∃r,x.rows[0]?=some r:=⟨_,B7 A1⟩;obtain ⟨rl,gq⟩:∃r,x.rows[x.rows.length -1]?=some r:=⟨_,B7 A1⟩;have I:Gh x↔(x.fi=0\/Bl r0 x.cl<x.lo)/\(x.fi+(x.rows.length:Int)=x.ct\/x.hi<Bl rl x.cl):=⟨fun h=>⟨h.first r0 j5,h.last rl gq⟩,fun h=>⟨by omega,by omega,by omega,by omega,by omega,fun h0=>absurd h0 hz,fun j r X=>af j r (by have:=(C4.1 X).1;omega) X,fun r X=>by rw [j5]at X;injection X with X;rw [<-X];exact h.1,fun r X=>by rw [gq]at X;injection X with X;rw [<-X];exact h.2⟩⟩
 refine Ay<|Zt<|Zt<|AR<|Zx<|Zq<|Az (n:=29) (0::1::3::7::15::31::15::79::255::511::1023::2047::4095::2047::16383::2047::34815::131071::262143::524287::524287::1572863::4194303::524287::8912895::33554431::67108863::134217727::268435455::[]) 4194336 AE AE V<|A2 0 V (AB (off:=5) Cl V rfl A6 Y)<|B9 1 V AF Y ?_;refine A2 2 V (CK Y Y)<|A2 3 V (AP Y)<|D8 (t:=138) Y (fun bn=>?_) (fun bn=>?_);·
  rw [DE bn];refine AM 4 V<|AM 5 V<|AM 6 V<|AM 7 V<|AM 8 V<|A2 9 V (AV Y Y)<|A2 10 V (AP Y)<|B3 11 V (AB (off:=5) Cl V rfl A6 Y)<|DQ 12 V Wh (BO AF Y As) ?_;refine B3 13 V (AP Y) ?_
  (refine B3 14 rfl (Hg Y Y (IntWalk.i64_in _ ?_)) ?_;(focus (first|omega|(simp;omega))))
  refine B3 15 V (AB (off:=4) Cl V rfl A6 Y)<|DQ 16 V Wh (BO AF Y As) ?_;refine B3 17 V (CK Y Y)<|B3 18 V (AP Y)<|D8 (t:=153) Y (fun cu=>?_) (fun cu=>?_);·
   rw [DE cu];refine AM 19 V<|AM 20 V<|AM 21 V<|AM 22 V<|AM 23 V<|AM 24 V<|AM 25 V<|B3 26 V (AV Y Y)<|A2 27 V (AV Y Y)<|A2 28 V (Aw Y)<|Ag<|Zn [2] ?_;refine Zx<|AJ<|AO V Lk Y (by exact ⟨by exact congrArg Value.bool (DE (I.2 ⟨by omega,by omega⟩)).symm,V⟩)
  rw [Cd cu];refine B3 19 V (AP Y)<|B3 20 V (AP Y) ?_
  (refine B3 21 rfl (CQ (n:=1) Y Y ?_ ?_) ?_;(focus (first|omega|(simp;omega)));(focus (first|omega|(simp;omega))))
  refine B3 23 V (AB (off:=3) Cl V rfl A6 Y)<|DQ 24 V Wh (BO AF Y As) ?_;refine Yz 22 4194303 33554431 [24,16,12,1] [true,false,false,false] [(24,(_,_))] V Y V rfl V rfl (Zu [_] Y call273 Y V (Ho x vp vt hR A1 pb (x.rows.length -1) rl gq))<|D4<|BT<|B3 25 V (Et Y Y)<|B3 26 V (AL Y Y)<|A2 27 V (AV Y Y)<|A2 28 V (Aw Y)<|Ag<|Zn [2] ?_;refine Zx<|AJ<|AO V Lk Y (by exact ⟨by exact KZ ⟨fun B=>I.2 ⟨by omega,by omega⟩,fun B=>by have:=I.1 B;omega⟩,V⟩)
 rw [Cd bn];refine B3 4 V (AP Y)<|B3 6 V (AB (off:=2) Cl V rfl A6 Y)<|DQ 7 V Wh (BO AF Y As) ?_;refine Yz 5 31 255 [7,1] [true,false] [(7,(_,_))] V Y V rfl V rfl (Zu [_] Y call273 Y V (Ho x vp vt hR A1 pb 0 r0 j5))<|D4<|BT<|B3 8 V (Dw Y Y)<|A2 9 V (AL Y Y)<|A2 10 V (AP Y)<|D8 (t:=145) Y (fun cO=>?_) (fun cO=>?_);·
  rw [DE cO];refine B3 11 V (AB (off:=5) Cl V rfl A6 Y)<|DQ 12 V Wh (BO AF Y As) ?_;refine B3 13 V (AP Y) ?_
  (refine B3 14 rfl (Hg Y Y (IntWalk.i64_in _ ?_)) ?_;(focus (first|omega|(simp;omega))))
  refine B3 15 V (AB (off:=4) Cl V rfl A6 Y)<|DQ 16 V Wh (BO AF Y As) ?_;refine B3 17 V (CK Y Y)<|B3 18 V (AP Y)<|D8 (t:=153) Y (fun d9=>?_) (fun d9=>?_);·
   rw [DE d9];refine AM 19 V<|AM 20 V<|AM 21 V<|AM 22 V<|AM 23 V<|AM 24 V<|AM 25 V<|B3 26 V (AV Y Y)<|A2 27 V (AV Y Y)<|A2 28 V (Aw Y)<|Ag<|Zn [2] ?_;refine Zx<|AJ<|AO V Lk Y (by exact ⟨by exact congrArg Value.bool (DE (I.2 ⟨by omega,by omega⟩)).symm,V⟩)
  rw [Cd d9];refine B3 19 V (AP Y)<|B3 20 V (AP Y) ?_
  (refine B3 21 rfl (CQ (n:=1) Y Y ?_ ?_) ?_;(focus (first|omega|(simp;omega)));(focus (first|omega|(simp;omega))))
  refine B3 23 V (AB (off:=3) Cl V rfl A6 Y)<|DQ 24 V Wh (BO AF Y As) ?_;refine Yz 22 4194303 33554431 [24,16,12,7] [true,false,false,false] [(24,(_,_))] V Y V rfl V rfl (Zu [_] Y call273 Y V (Ho x vp vt hR A1 pb (x.rows.length -1) rl gq))<|D4<|BT<|B3 25 V (Et Y Y)<|B3 26 V (AL Y Y)<|A2 27 V (AV Y Y)<|A2 28 V (Aw Y)<|Ag<|Zn [2] ?_;refine Zx<|AJ<|AO V Lk Y (by exact ⟨by exact KZ ⟨fun B=>I.2 ⟨by omega,by omega⟩,fun B=>by have:=I.1 B;omega⟩,V⟩)
 rw [Cd cO];refine AM 11 V<|AM 12 V<|AM 13 V<|AM 14 V<|AM 15 V<|AM 16 V<|AM 17 V<|AM 18 V<|AM 19 V<|AM 20 V<|AM 21 V<|AM 22 V<|AM 23 V<|AM 24 V<|AM 25 V<|AM 26 V<|A2 27 V (AL Y Y)<|A2 28 V (Aw Y)<|Ag<|Zn [2] ?_;refine Zx<|AJ<|AO V Lk Y (by exact ⟨by exact congrArg Value.bool (Cd (fun B=>by have:=I.1 B;omega)).symm,V⟩)
def inB(x:RP)(r:AX):Bool:=decide (x.lo<=Bl r x.cl/\Bl r x.cl<=x.hi)
noncomputable def ES(x:RP):List AX:=if Gh x then x.rows.filter (inB x)else []
theorem eP(h:Gh x):ES x=x.rows.filter (inB x):=Ax h
theorem tU(h:¬Gh x):ES x=[]:=An h
theorem uy{i:Nat}{r:AX}(g:x.rows[i]?=some r)(h:inB x r=true):(x.rows.take (i+1)).filter (inB x)=(x.rows.take i).filter (inB x)++[r]:=by rw [Bn g,IH];simp [h]
theorem Xt{i:Nat}{r:AX}(g:x.rows[i]?=some r)(h:inB x r=false):(x.rows.take (i+1)).filter (inB x)=(x.rows.take i).filter (inB x):=by rw [Bn g,IH];simp [h]
set_option maxHeartbeats 4000000 in
theorem lM(hv:UZ M v x):BZ prog 180 #[v] [M] (fun r H'=>∃vr sr,r= .tuple #[vr,.bool (decide (Gh x))]/\Bd 5 72 vr (ES x).length (Af (ES x)) sr/\H'=[sr,M]):=by
 have ic:=mL;obtain ⟨vr,vp,vt,rfl,hR,hP,hT⟩:=id hv;obtain ⟨p,cap,e9,hl,hg⟩:=id hR;subst e9;refine Se func180 ntmps180 [0] ?_;intro u R;refine A0<|Ze (Bx #[_,_,_,_,_,_,_,_,_])<|AG fun pb=>Za Y<|A4 Y<|Zq<|A0<|Zo Wh (AA (cs:=#[_,_,_,_,_,_,_,_,_]) S4 HN Y B1 As)<|Xr [_] Y call240 Y V (Uw hv)<|Zv (Cn Y)<|A5<|Aq Y (fun B=>?_) (fun B=>?_);·
  refine BX<|A0<|Za Y<|A4 Y<|AJ<|Zt<|Cv rfl results180 Y Y (by exact ⟨.slice none 0 0,[],by rw [Cd B],by rw [tU B];exact Bf 5 _,rfl⟩)
 have B:=HL.1 B;have d9:=B.tc
 have ek:=B.ct;have gm:=B.n
 have gq:=B.fi;refine AC<|Zx<|A0<|A4 Y<|Zq<|A0<|Zh 6 Cl V rfl CI Y<|Zl Fm Y<|Zv (AY BE Y)<|Zm Y<|A5<|AQ<|BX<|Zb [4,14,1,12,13] ?_;refine BA (e0:=[(4,_),(14,_)]) (fun m e H=>∃(i:Nat) (vo:A3) (U:List A9),m=x.rows.length -i/\(i<=x.rows.length/\Bd 5 72 vo ((x.rows.take i).filter (inB x)).length (Af ((x.rows.take i).filter (inB x))) U)/\e=[(4,vo),(14,I4 (i:Int))]/\H=[U]) (by exact ⟨0,.slice none 0 0,[],rfl,⟨C5 _,by rw [Kd];exact Bf 5 _⟩,rfl,rfl⟩) Wp ?_;rintro _ _ _ ⟨i,vo,U,rfl,⟨hi,I⟩,rfl,rfl⟩;obtain ⟨qo,co,rfl⟩:=I.form;have gy:((x.rows.take i).filter (inB x)).length<=i:=My (ON _ _) (List.length_take_le _ _)
 refine A0<|Zv (Au Y Y)<|A5<|Zq<|Aq Y (fun X=>?_) (fun X=>?_);·
  obtain ⟨r,O⟩:∃r,x.rows[i]?=some r:=⟨_,B7 X⟩;obtain ⟨g,off,cur,T,zz,rfl,ax,bn,W⟩:=hg i r O;refine AC<|Zx<|Zq<|AQ<|A0<|BV (Ad BE B0 Y Y A1)<|CG (cs:=[(g,.cells cur T zz)]) (by simp [ax]) (AA (cs:=r.A97) D0 B0 Y A1 W) V rfl<|Ze (Al F0 #[_,_,_,_,_])<|AG fun rb=>Xe (Xw B0 r.A97)<|A5<|A0<|Zo Wh (AA (cs:=#[_,_,_,_,_]) D0 B0 Y B1 As)<|Zh 1 Cl V rfl A6 Y<|Zl AF Y<|Xr [_,_] Y Sx Y V (Fy r x.cl A1)<|A4 Y<|A0<|Zm Y<|Zh 2 Cl V rfl A6 Y<|Zl AF Y<|Zv (He Y Y)<|Zm Y<|Aj (t:=26) Y V (fun Z=>?_) (fun Z=>?_);·
   refine Zf Y Y<|Yf 3 Cl V rfl A6 Y<|Yl AF Y<|Yg (NY Y Y)<|Zv (AV Y Y)<|Z0<|Zn [1,4,6,12,13,14,31] ?_;refine Zx<|Aq Y (fun af=>?_) (fun af=>?_);·
    have G:inB x r=true:=DE A1;refine Zg<|Zm Y<|Zo Wh (AA (cs:=#[_,_,_,_,_]) D0 B0 Y B1 As)<|Ze (Ai (vs:=[_]) (cs:=[_,_,_,_,_]) BE B0 F0 Y V rfl V rfl V)<|AG fun gb=>Ze (BR (by_:=40) (sz:=5) BE (V:Tryz.prog.info? 72=some Tryz.t72) V rfl V rfl Y (I) Y (DN 5 gb 1 1 72 (0,0) [I4 r.t,I4 r.k,I4 r.v.a,I4 r.v.b,I4 r.v.c] V) Wo Wo GP A1 A1) ?_;rintro _ _ ⟨j3,J,rfl⟩;obtain ⟨cO,cu,rfl⟩:=J.form;refine AN Y<|A8<|Zx<|Zg<|Ya (n:=1) Y Y<|Zm Y<|Z0<|Zn [4,14,1,12,13] ?_;refine Ab (e':=[(4,_),(14,_)]) (by exact ⟨i+1,_,_,rfl,⟨by omega,BS J (by rw [uy O G,BW];rfl) (by rw [uy O G,Bi];rfl)⟩,rfl,rfl⟩)
   have G:inB x r=false:=Cd A1;refine AC<|A8<|Zx<|Zg<|Ya (n:=1) Y Y<|Zm Y<|Z0<|Zn [4,14,1,12,13] ?_;refine Ab (e':=[(4,_),(14,_)]) (by exact ⟨i+1,_,U,rfl,⟨by omega,BS I (by rw [Xt O G]) (by rw [Xt O G])⟩,rfl,rfl⟩)
  have G:inB x r=false:=Cd A1;refine A7 Y V<|A7 Y V<|A7 Y V<|A7 Y V<|Zv (AL Y Y)<|Z0<|Zn [1,4,6,12,13,14,31] ?_;refine Zx<|D9 Y<|AC<|A8<|Zx<|Zg<|Ya (n:=1) Y Y<|Zm Y<|Z0<|Zn [4,14,1,12,13] ?_;refine Ab (e':=[(4,_),(14,_)]) (by exact ⟨i+1,_,U,rfl,⟨by omega,BS I (by rw [Xt O G]) (by rw [Xt O G])⟩,rfl,rfl⟩)
 have ei:i=x.rows.length:=by omega
 subst ei;rw [GS]at I⊢;refine Ay<|Zt<|Zt<|AR<|Zx<|A0<|Zm Y<|Za Y<|A4 Y<|AJ<|Cv rfl results180 Y Y (by exact ⟨.slice qo _ co,U,by rw [DE B],by rw [eP B];exact I,rfl⟩)
end Go.Proofs.YtfhjaegddfehhabGreatDoor
