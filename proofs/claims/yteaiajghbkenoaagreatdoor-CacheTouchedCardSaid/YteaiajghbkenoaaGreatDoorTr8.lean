/- statetree: Prove. -/
/- statetree: complete, Rows. -/
import Derived.Test.YteaiajghbkenoaaGreatDoorEz
import Derived.Test.YteaiajghbkenoaaGreatDoorTr6
import Derived.Test.YteaiajghbkenoaaGreatDoorEx36
set_option linter.unusedVariables false
set_option linter.unusedSimpArgs false
namespace Go.Proofs.YteaiajghbkenoaaGreatDoor
open Go.Proofs.Tryz
open Go Go.RowKit Gw
set_option maxRecDepth 100000
attribute [local irreducible] Gw.At Gw.Nx Gw.Ops
def CY(pd:AU->Bool)(l:List AU):Nat:=(l.takeWhile (fun x=>!pd x)).length
theorem Gr(g:AU->Bool)(l:List AU):CY g l<=l.length:=(List.takeWhile_sublist _).length_le
theorem Ti{g:AU->Bool}:∀{l:List AU} {i:Nat} {x:AU},l[i]?=some x->g x=true->(∀(j:Nat) (y:AU),j<i->l[j]?=some y->g y=false)->CY g l=i
 |[],i,x,hx,_,_=>by simp at hx
 |z::l,0,x,hx,hp,_=>by
  simp only [Wk,Vc]at hx;subst hx;simp [CY,hp]
 |z::l,i+1,x,hx,hp,hno=>by
  simp only [aE]at hx;have h0:=hno 0 z A1 rfl
  have m:=Ti (l:=l) hx hp (fun j y G B=>hno (j+1) y A1 B);unfold CY at m⊢;rw [ON,AK (by simp [h0]),DE,m]
theorem Nn{m:AU->Bool}:∀{l:List AU},(∀(j:Nat) (y:AU),l[j]?=some y->m y=false)->CY m l=l.length
 |[],_=>rfl
 |z::l,hno=>by
  have h0:=hno 0 z rfl;have g:=Nn (l:=l) (fun j y B=>hno (j+1) y B)
  unfold CY at g⊢;rw [ON,AK (by simp [h0]),DE,g,DE]
def R4(n len:Nat):Int:=if n<len then(n:Int)else-1
def geV(c:Nat)(lo:Int)(r:AU):Bool:=decide (lo<=Dc r c)
def gtV(c:Nat)(hi:Int)(r:AU):Bool:=decide (hi<Dc r c)
theorem pN(v lo:Int)(bl:Nat):BJ prog 174 #[I4 v,I5 bl] [[(bl,.cells #[I4 lo] 3 (0,0))]] (.bool (decide (lo<=v))):=by
 refine Se func174 ntmps174 [0,1] ?_;intro u R;refine A0<|A3 Y<|A0<|Zm Y<|Zl AE Y ?_;refine Zv (H5 Y Y)<|A3 Y<|AJ<|AO V results174 Y (by exact ⟨V,V⟩)
theorem s7(r:AU)(c:Nat)(hc:c<=3)(lo:Int)(m g bl:Nat):BJ prog 173 #[.agg r.A16,I5 m,I5 g] [[(m,.cells #[.func (.func 174) #[] #[I5 bl]] 112 (0,0))],[(g,.cells #[I4 (c:Int)] 3 (0,0))],[(bl,.cells #[I4 lo] 3 (0,0))]] (.bool (geV c lo r)):=by
 refine Se func173 ntmps173 [0,1,2] ?_;intro u R;refine A0<|Ze (Bx #[_,_,_,_,_])<|AD fun B=>A3 Y<|Zq<|Az (n:=6) (0::0::0::6::15::31::[]) 24 A6 A6 V<|B3 0 V isAgg112 Y ?_;refine E6 1 V Wh (Pa #[_,_,_,_,_] CH AW Y) ?_;refine B3 2 V AE Y ?_;refine Yz 3 6 15 [2,1,0] [false,false,true] [(0,(_,_))] V Y V rfl V rfl (Zu [_,_] Y S7 Y V (OP r c hc))<|CM<|B5<|Yw 4 31 V (Zu [_] Y call174 Y V (pN (Dc r c) lo bl))<|CM<|A2 5 V (Aw Y)<|Ai<|Zx<|AJ<|AO V results173 Y (by exact ⟨V,V⟩)
variable{M:List A9}{v:Value}{L:List AU}
theorem sn(hv:E8 M v L)(hn:L.length<=1000000)(c:Nat)(hc:c<=3)(lo:Int)(O K bl:Nat):BJ prog 172 #[v,.func (.func 173) #[] #[I5 O,I5 K]] [[(O,.cells #[.func (.func 174) #[] #[I5 bl]] 112 (0,0))],[(K,.cells #[I4 (c:Int)] 3 (0,0))],[(bl,.cells #[I4 lo] 3 (0,0))],M] (I4 (R4 (CY (geV c lo) L) L.length)):=by
 have ax:=mL;obtain ⟨p,cap,rfl,hl,hg⟩:=hv;refine Se func172 ntmps172 [0,1] ?_;intro u R;refine A0<|A3 Y<|Zq<|A0<|Zm Y<|Zv (Ab B6 Y)<|Zm Y<|A4<|AP<|Zb [8,0,1,7] ?_;refine BB (e0:=[(8,_)]) (fun m e H=>∃(i:Nat),m=L.length -i/\(i<=L.length/\∀(j:Nat) (y:AU),j<i->L[j]?=some y->geV c lo y=false)/\e=[(8,I4 (i:Int))]/\H=[]) (by exact ⟨0,V,⟨C0 _,by intro j y hj;omega⟩,V,V⟩) Wp ?_;rintro _ _ _ ⟨i,rfl,⟨hi,I⟩,rfl,rfl⟩;refine A0<|Zv (Au Y Y)<|A4<|Zq<|Av Y (fun G=>?_) (fun G=>?_)
 ·
  obtain ⟨x,Z⟩:∃x,L[i]?=some x:=⟨_,B4 G⟩;obtain ⟨g,off,cur,T,zz,rfl,W,af,J⟩:=hg i x Z;refine AC<|Zx<|Zq<|AP<|A0<|Zm Y<|A3 Y<|A0<|Zm Y<|Zm Y<|Zm Y<|BX (Ad B6 AW Y Y A1)<|CO (cs:=[(g,.cells cur T zz)]) (by simp [W]) (AA (cs:=x.A16) CH AW Y A1 J) V rfl ?_;refine Xr [_] Y call173 Y V (s7 x c hc lo O K bl) ?_;refine A4<|AV Y (fun X=>?_) (fun X=>?_)
  ·
   refine A0<|Zm Y<|A3 Y<|AJ<|Ac<|Zt<|Zt<|Ac<|Zt<|AO rfl el Y (by exact ⟨by rw [Ti Z X I];unfold R4;rw [AK G],rfl⟩)
  refine AC<|A8<|Zx<|Zg<|Ya (n:=1) Y Y<|Zm Y<|Z0<|Zn [8,0,1,7] ?_;refine Aa (e':=[(8,_)]) (by exact ⟨i+1,rfl,⟨by omega,fun j y hj B=>by rcases EV j i with h9|h9;exact I j y h9 B;obtain rfl:j=i:=A1;rw [Z]at B;injection B with B;rw [<-B];exact X⟩,rfl,rfl⟩)
 have U:CY (geV c lo) L=L.length:=Nn (fun j y B=>I j y (by have:=(BE.1 B).1;omega) B);refine Ay<|Zt<|Zt<|AR<|Zx<|A0<|A3 Y<|AJ<|AO rfl el Y (by exact ⟨by rw [U];unfold R4;rw [AH A1],rfl⟩)
theorem pS{J X:Value}(hv:E8 M J L)(W:L.length<=1000000)(c:Nat)(hc:c<=3)(lo:Int)(I m bl:Nat):BJ prog 171 #[.func (.func 174) #[] #[I5 bl],I5 I,I5 m] [[(I,.cells #[J,X] 262 (0,0))],[(m,.cells #[I4 (c:Int)] 3 (0,0))],[(bl,.cells #[I4 lo] 3 (0,0))],M] (I4 ((CY (geV c lo) L:Nat):Int)):=by
 have U:=mL;obtain ⟨p,cap,rfl,hl,Z⟩:=id hv;have O:=Gr (geV c lo) L
 refine Se func171 ntmps171 [0,1,2] ?_;intro u R;refine A0<|Ze (Bx #[_])<|AD fun K=>A3 Y<|A0<|Zh 0 MD V rfl C5 Y<|Zl Fl Y ?_;refine Zv (Bg (vs:=[]) (us:=[_,_]) Y Y)<|Xr [_,_] Y call172 Y V (sn hv W c hc lo K m bl) ?_;refine A3 Y<|Zq<|A0<|Zm Y<|Zv (Dq Y Y)<|A4<|Av Y (fun g=>?_) (fun g=>?_)
 ·
  have B:CY (geV c lo) L=L.length:=by
   rcases EV (CY (geV c lo) L) L.length with h9|h9
   · unfold R4 at g;rw [AK h9]at g;omega
   · omega
  refine A0<|Zh 0 MD V rfl C5 Y<|Zl Fl Y ?_;refine Zv (Ab B6 Y)<|AG Y<|Zn [4] ?_;refine Zx<|AJ<|Zt<|AO rfl results171 Y (by exact ⟨by rw [B],rfl⟩)
 have G:CY (geV c lo) L<L.length:=by
  rcases EV (CY (geV c lo) L) L.length with h9|h9
  · exact h9
  · unfold R4 at g;rw [AH A1]at g;omega
 refine AC<|Zx<|A0<|Zm Y<|A3 Y<|AJ<|AO rfl results171 Y (by exact ⟨by unfold R4;rw [AK G],rfl⟩)
theorem pL(v lo:Int)(bl:Nat):BJ prog 175 #[I4 v,I5 bl] [[(bl,.cells #[I4 lo] 3 (0,0))]] (.bool (decide (lo<v))):=by
 refine Se func175 ntmps175 [0,1] ?_;intro u R;refine A0<|A3 Y<|A0<|Zm Y<|Zl AE Y ?_;refine Zv (Ep Y Y)<|A3 Y<|AJ<|AO V results175 Y (by exact ⟨V,V⟩)
theorem rr(r:AU)(c:Nat)(hc:c<=3)(lo:Int)(m g bl:Nat):BJ prog 173 #[.agg r.A16,I5 m,I5 g] [[(m,.cells #[.func (.func 175) #[] #[I5 bl]] 112 (0,0))],[(g,.cells #[I4 (c:Int)] 3 (0,0))],[(bl,.cells #[I4 lo] 3 (0,0))]] (.bool (gtV c lo r)):=by
 refine Se func173 ntmps173 [0,1,2] ?_;intro u R;refine A0<|Ze (Bx #[_,_,_,_,_])<|AD fun B=>A3 Y<|Zq<|Az (n:=6) (0::0::0::6::15::31::[]) 24 A6 A6 V<|B3 0 V isAgg112 Y ?_;refine E6 1 V Wh (Pa #[_,_,_,_,_] CH AW Y) ?_;refine B3 2 V AE Y ?_;refine Yz 3 6 15 [2,1,0] [false,false,true] [(0,(_,_))] V Y V rfl V rfl (Zu [_,_] Y S7 Y V (OP r c hc))<|CM<|B5<|Yw 4 31 V (Zu [_] Y call175 Y V (pL (Dc r c) lo bl))<|CM<|A2 5 V (Aw Y)<|Ai<|Zx<|AJ<|AO V results173 Y (by exact ⟨V,V⟩)
theorem sY(hv:E8 M v L)(hn:L.length<=1000000)(c:Nat)(hc:c<=3)(lo:Int)(O K bl:Nat):BJ prog 172 #[v,.func (.func 173) #[] #[I5 O,I5 K]] [[(O,.cells #[.func (.func 175) #[] #[I5 bl]] 112 (0,0))],[(K,.cells #[I4 (c:Int)] 3 (0,0))],[(bl,.cells #[I4 lo] 3 (0,0))],M] (I4 (R4 (CY (gtV c lo) L) L.length)):=by
 have ax:=mL;obtain ⟨p,cap,rfl,hl,hg⟩:=hv;refine Se func172 ntmps172 [0,1] ?_;intro u R;refine A0<|A3 Y<|Zq<|A0<|Zm Y<|Zv (Ab B6 Y)<|Zm Y<|A4<|AP<|Zb [8,0,1,7] ?_;refine BB (e0:=[(8,_)]) (fun m e H=>∃(i:Nat),m=L.length -i/\(i<=L.length/\∀(j:Nat) (y:AU),j<i->L[j]?=some y->gtV c lo y=false)/\e=[(8,I4 (i:Int))]/\H=[]) (by exact ⟨0,V,⟨C0 _,by intro j y hj;omega⟩,V,V⟩) Wp ?_;rintro _ _ _ ⟨i,rfl,⟨hi,I⟩,rfl,rfl⟩;refine A0<|Zv (Au Y Y)<|A4<|Zq<|Av Y (fun G=>?_) (fun G=>?_)
 ·
  obtain ⟨x,Z⟩:∃x,L[i]?=some x:=⟨_,B4 G⟩;obtain ⟨g,off,cur,T,zz,rfl,W,af,J⟩:=hg i x Z;refine AC<|Zx<|Zq<|AP<|A0<|Zm Y<|A3 Y<|A0<|Zm Y<|Zm Y<|Zm Y<|BX (Ad B6 AW Y Y A1)<|CO (cs:=[(g,.cells cur T zz)]) (by simp [W]) (AA (cs:=x.A16) CH AW Y A1 J) V rfl ?_;refine Xr [_] Y call173 Y V (rr x c hc lo O K bl) ?_;refine A4<|AV Y (fun X=>?_) (fun X=>?_)
  ·
   refine A0<|Zm Y<|A3 Y<|AJ<|Ac<|Zt<|Zt<|Ac<|Zt<|AO rfl el Y (by exact ⟨by rw [Ti Z X I];unfold R4;rw [AK G],rfl⟩)
  refine AC<|A8<|Zx<|Zg<|Ya (n:=1) Y Y<|Zm Y<|Z0<|Zn [8,0,1,7] ?_;refine Aa (e':=[(8,_)]) (by exact ⟨i+1,rfl,⟨by omega,fun j y hj B=>by rcases EV j i with h9|h9;exact I j y h9 B;obtain rfl:j=i:=A1;rw [Z]at B;injection B with B;rw [<-B];exact X⟩,rfl,rfl⟩)
 have U:CY (gtV c lo) L=L.length:=Nn (fun j y B=>I j y (by have:=(BE.1 B).1;omega) B);refine Ay<|Zt<|Zt<|AR<|Zx<|A0<|A3 Y<|AJ<|AO rfl el Y (by exact ⟨by rw [U];unfold R4;rw [AH A1],rfl⟩)
theorem pP{J X:Value}(hv:E8 M J L)(W:L.length<=1000000)(c:Nat)(hc:c<=3)(lo:Int)(I m bl:Nat):BJ prog 171 #[.func (.func 175) #[] #[I5 bl],I5 I,I5 m] [[(I,.cells #[J,X] 262 (0,0))],[(m,.cells #[I4 (c:Int)] 3 (0,0))],[(bl,.cells #[I4 lo] 3 (0,0))],M] (I4 ((CY (gtV c lo) L:Nat):Int)):=by
 have U:=mL;obtain ⟨p,cap,rfl,hl,Z⟩:=id hv;have O:=Gr (gtV c lo) L
 refine Se func171 ntmps171 [0,1,2] ?_;intro u R;refine A0<|Ze (Bx #[_])<|AD fun K=>A3 Y<|A0<|Zh 0 MD V rfl C5 Y<|Zl Fl Y ?_;refine Zv (Bg (vs:=[]) (us:=[_,_]) Y Y)<|Xr [_,_] Y call172 Y V (sY hv W c hc lo K m bl) ?_;refine A3 Y<|Zq<|A0<|Zm Y<|Zv (Dq Y Y)<|A4<|Av Y (fun g=>?_) (fun g=>?_)
 ·
  have B:CY (gtV c lo) L=L.length:=by
   rcases EV (CY (gtV c lo) L) L.length with h9|h9
   · unfold R4 at g;rw [AK h9]at g;omega
   · omega
  refine A0<|Zh 0 MD V rfl C5 Y<|Zl Fl Y ?_;refine Zv (Ab B6 Y)<|AG Y<|Zn [4] ?_;refine Zx<|AJ<|Zt<|AO rfl results171 Y (by exact ⟨by rw [B],rfl⟩)
 have G:CY (gtV c lo) L<L.length:=by
  rcases EV (CY (gtV c lo) L) L.length with h9|h9
  · exact h9
  · unfold R4 at g;rw [AH A1]at g;omega
 refine AC<|Zx<|A0<|Zm Y<|A3 Y<|AJ<|AO rfl results171 Y (by exact ⟨by unfold R4;rw [AK G],rfl⟩)
theorem Ql(t c:Int):BJ prog 169 #[I4 t,I4 c] [] (.bool (decide ((0<=t/\t<4)/\0<=c/\c<4))):=by
 refine Se func169 ntmps169 [0,1] ?_;intro u R;refine A0<|A3 Y<|A0<|Zm Y<|Zv (H5 Y Y)<|Zm Y<|Ao (t:=7) Y V (fun g=>?_) (fun g=>?_)
 ·
  refine Zf Y Y<|Yg (Dq Y Y)<|Zv (AX Y Y)<|Zm Y<|Ao (t:=11) Y V (fun h2=>?_) (fun h2=>?_)
  ·
   refine Zf Y Y<|Yg (H5 Y Y)<|Zv (AX Y Y)<|Zm Y<|Ao (t:=15) Y V (fun m=>?_) (fun m=>?_)
   ·
    refine Zf Y Y<|Yg (Dq Y Y)<|Zv (AX Y Y)<|AG Y<|Zn [4] ?_;refine Zx<|AJ<|AO V results169 Y (by exact ⟨by exact congrArg Value.bool (decide_eq_decide.2 A1),V⟩)
   refine A7 Y V<|A7 Y V<|Zv (AL Y Y)<|AG Y<|Zn [4] ?_;refine Zx<|AJ<|AO V results169 Y (by exact ⟨by exact congrArg Value.bool (CI A1).symm,V⟩)
  refine A7 Y V<|A7 Y V<|Zv (AL Y Y)<|Zm Y<|A7 Y V<|A7 Y V<|Zv (AL Y Y)<|AG Y<|Zn [4] ?_;refine Zx<|AJ<|AO V results169 Y (by exact ⟨by exact congrArg Value.bool (CI A1).symm,V⟩)
 repeat first|refine A7 Y rfl ?_|refine Zv (AL Y Y)<|Zm Y ?_
 refine Zv (AL Y Y)<|AG Y<|Zn [4] ?_;refine Zx<|AJ<|AO V results169 Y (by exact ⟨by exact congrArg Value.bool (CI A1).symm,V⟩)
structure RP where
 tb:Int
 cl:Int
 lo:Int
 hi:Int
 ct:Int
 fi:Int
 rows:List AU
 paths:List (List Bs)
 roots:List Bs
deriving DecidableEq
def Bp(L:List AU)(c:Nat)(lo:Int):Nat:=CY (geV c lo) L -1
def toT(L:List AU)(c:Nat)(hi:Int):Nat:=min (CY (gtV c hi) L+1) L.length
def J9(L:List AU)(f k:Nat):List (List Bs):=(List.range k).map fun j=>FD (Nq L) (f+j)
def Ej(rs:List AU)(t c:Nat)(lo hi:Int):RP:=
 ⟨t,c,lo,hi,(BG rs (t:Int) c).length,(Bp (BG rs (t:Int) c) c lo:Nat),((BG rs (t:Int) c).drop (Bp (BG rs (t:Int) c) c lo)).take (toT (BG rs (t:Int) c) c hi -Bp (BG rs (t:Int) c) c lo),
   J9 (BG rs (t:Int) c) (Bp (BG rs (t:Int) c) c lo) (toT (BG rs (t:Int) c) c hi -Bp (BG rs (t:Int) c) c lo),bQ rs⟩
def Jn(M:List A9)(pvs:List Value)(ps:List (List Bs)):Prop:=pvs.length=ps.length/\∀(i:Nat) (v:Value) (l:List Bs),pvs[i]?=some v->ps[i]?=some l->EU M v l
theorem Pw(M:List A9):Jn M [] []:=⟨rfl,by intro i v l h;simp at h⟩
theorem Jn.snoc{B:List A9}{g:List Value}{ps:List (List Bs)}(h:Jn M g ps){l:List Bs}(hv:EU B v l)(I:∀c∈M,c∈B):Jn B (g++[v]) (ps++[l]):=by
 obtain ⟨G,h2⟩:=h;refine ⟨by rw [B7,B7,G];rfl,?_⟩;intro i w k hi m;rcases EV i g.length with h9|h9
 · rw [a8 h9]at hi
   rw [a8 A1]at m;exact (h2 i w k hi m).mono I
 · rw [SJ h9]at hi
   rw [SJ A1]at m;rw [G]at hi;cases h:i -ps.length with
   |zero=>rw [h]at hi m;simp at hi m;rw [<-hi,<-m];exact hv
   |succ n=>rw [h]at hi;simp at hi
theorem QZ(L:List AU)(f k:Nat):J9 L f (k+1)=J9 L f k++[FD (Nq L) (f+k)]:=by unfold J9;rw [gA,BW];rfl
theorem dU(L:List AU)(f k:Nat):(J9 L f k).length=k:=by unfold J9;rw [B2,aq]
theorem iO{e:TypeId}{n:Nat}{xs:List Value}{s:List A9}(h:Bc 1 e v n xs s):n<=maxLen:=by
 obtain ⟨_,⟨_,h0,_⟩|⟨_,_,_,_,_,_,g,h2,_⟩⟩:=h
 · omega
 · omega
theorem Y1(rs:List AU):(bQ rs).length=16:=by unfold bQ;rw [B2];rfl
set_option maxHeartbeats 4000000 in
theorem dL(v:Value)(p:Int)(rs:List AU)(s:List A9)(hv:RA v p rs s)(hs:BP rs)(hn:rs.length<=2000)(j3:∀r∈rs,r.ok)(t c:Nat)(ht:t<=3)(hc:c<=3)(lo hi:Int)(qz:lo<=hi)(Tg:TypeId)(zg:Nat×Nat):
 Ba prog 103 #[v,I4 (t:Int),I4 (c:Int),I4 lo,I4 hi] [[(4,.cells (En.map Co).toArray Tg zg)],s] (fun r H'=>∃vr vp vt O sp J X so,r= .tuple #[.agg #[I4 (t:Int),I4 (c:Int),I4 lo,I4 hi,I4 (((BG rs (t:Int) c).length:Nat):Int),I4 (((Bp (BG rs (t:Int) c) c lo):Nat):Int),vr,vp,vt],I4 0]/\Bc 5 83 vr (((BG rs (t:Int) c).drop (Bp (BG rs (t:Int) c) c lo)).take ((toT (BG rs (t:Int) c) c hi) -(Bp (BG rs (t:Int) c) c lo))).length (Ae (((BG rs (t:Int) c).drop (Bp (BG rs (t:Int) c) c lo)).take ((toT (BG rs (t:Int) c) c hi) -(Bp (BG rs (t:Int) c) c lo)))) O/\Bc 1 45 vp ((toT (BG rs (t:Int) c) c hi) -(Bp (BG rs (t:Int) c) c lo)) J sp/\Jn X J (J9 (BG rs (t:Int) c) (Bp (BG rs (t:Int) c) c lo) ((toT (BG rs (t:Int) c) c hi) -(Bp (BG rs (t:Int) c) c lo)))/\Bc 1 9 vt 16 ((bQ rs).map G8) so/\H'=[O,sp,X,so,[(4,.cells (En.map Co).toArray Tg zg)],s]):=by
 have sj:=mL;obtain ⟨vo,sO,qj,qa,sM,rfl,q9⟩:=id hv;have r9:=JB hs (t:Int) c
 have ql:=Gr (geV c lo) (BG rs (t:Int) c);have qo:=Gr (gtV c hi) (BG rs (t:Int) c)
 have qw:(Bp (BG rs (t:Int) c) c lo)=CY (geV c lo) (BG rs (t:Int) c) -1:=rfl;have sJ:(toT (BG rs (t:Int) c) c hi)=min (CY (gtV c hi) (BG rs (t:Int) c)+1) (BG rs (t:Int) c).length:=rfl
 refine Se func103 ntmps103 [0,1,2,3,4] ?_;intro u R;refine A0<|Ze (Bx #[_])<|AD fun bc=>Ze (Bx #[_])<|AD fun bl=>Ze (Bx #[_])<|AD fun bh=>Ze (Al bm #[_,_,_,_,_,_,_,_,_])<|AD fun qb=>A3 Y<|Zq<|AP<|A0<|Zm Y<|Zv (Be lE Y Y)<|A3 Y<|AV Y (fun h1=>by cases h1)<|fun h1=>A0<|Zm Y<|Zl AE Y ?_;refine Xr [_,_] Y call169 Y V (Ql (t:Int) (c:Int)) ?_;rw [DA (show((0<=(t:Int)/\(t:Int)<4)/\0<=(c:Int)/\(c:Int)<4) by omega)];refine Zv (Br Y)<|Zm Y<|Af (t:=29) Y V (fun h2=>by cases h2)<|fun h2=>Yl AE Y ?_;refine Yl AE Y ?_;refine Yg (Ep Y Y)<|Zv (AL Y Y)<|AG Y<|Zn [0,1,7,8,9,10,24] ?_;refine Zx<|Av Y (fun h3=>by omega)<|fun h3=>AC<|A8<|Zx<|A0<|Zm Y<|Zm Y<|Zl AE Y ?_;refine Zc [_,_,_] Y call170 Y V (Sw _ p rs s hv hs hn j3 (t:Int) c hc) ?_;rintro _ _ ⟨_,⟨vr,ve,sr,se,rfl,hO,rfl⟩,rfl⟩;obtain ⟨qr,cr,rfl⟩:=hO.1.form;obtain ⟨qe,ce,rfl⟩:=hO.2.form;have l9:=DT hO.1 A1
 have pg:EU se (.slice qe (BG rs (t:Int) c).length ce) (Nq (BG rs (t:Int) c)):=Ga (BR hO.2 (GL _).symm rfl) (by rw [GL];omega);obtain ⟨p9,pz,e9,sw,hg⟩:=id l9;injection e9 with e91 e92 e93
 subst e91 e93;refine Ze (Al i7 #[_,_])<|AD fun ob=>Xe (Xw fL #[.slice qr (BG rs (t:Int) c).length cr,.slice qe (BG rs (t:Int) c).length ce]) ?_;refine A4<|A0<|Zv (Bg (vs:=[]) (us:=[_,_]) Y Y)<|A3 Y<|A0<|Zm Y<|Zv (Bg (vs:=[]) (us:=[_]) Y Y)<|Xr [_] Y call171 Y V (pS l9 A1 c hc lo ob bc bl) ?_
 (refine BX (GG Y Y (IntWalk.i64_in _ ?_)) ?_;(focus (omega)))
 refine Zv (dn Y Y)<|AG Y<|Zn [0,1,7,8,9,10,12,13,14] ?_;refine Zx<|Zq<|Az (n:=9) (0::0::3::7::0::16::48::127::255::[]) 4 A6 A6 V<|A2 0 V (AQ Y)<|A2 1 V (Bg (vs:=[]) (us:=[_]) Y Y)<|A2 4 V (AB (off:=0) MD V rfl C5 Y)<|B3 5 V Fl Y ?_;refine A2 6 V (Ab B6 Y)<|Zz (l:=[2])<|B1 [true] [(5,(_,_))] V rfl (Zu [_] Y call171 Y V (pP l9 A1 c hc hi ob bc bh)) ?_ (fun _ _ h=>h.elim) Ag;rintro _ _ ⟨rfl,rfl⟩;refine B5<|A2 3 V (Dz (n:=1) Y Y A1)<|A2 7 V (Q0 Y Y)<|A2 8 V (Aw Y)<|Ai<|Zx<|Zq<|Az (n:=13) (0::0::0::0::0::16::48::0::0::256::1023::0::4095::[]) 6656 A6 A6 V<|A2 0 V (AQ Y)<|B3 1 V AE Y ?_;refine B3 2 V AE Y ?_;refine B3 3 V AE Y ?_;refine A2 4 V (AB (off:=0) MD V rfl C5 Y)<|B3 5 V Fl Y ?_;refine A2 6 V (Ab B6 Y)<|A2 7 V (AQ Y)<|A2 8 V (AQ Y)<|Zz (l:=[9,11])<|B1 [true,true,true,true] [(5,(_,_)),(3,(_,_)),(2,(_,_)),(1,(_,_))] V rfl (Zw [_] Y call176 Y V (Uq _ p rs s hv hs hn j3 Tg zg)) ?_ Bv ?_
 ·
  rintro _ _ ⟨_,⟨so,j5,rfl⟩,rfl⟩;refine ⟨Zk (Zk (Zk (Zk (AZ)))),?_⟩;obtain ⟨qt,ct,rfl⟩:=j5.form;refine A2 10 V (BK (vs:=[(0,I4 (t:Int)),(1,I4 (c:Int)),(2,I4 lo),(3,I4 hi),(4,I4 (((BG rs (t:Int) c).length:Nat):Int)),(5,I4 (((Bp (BG rs (t:Int) c) c lo):Nat):Int)),(8,.slice qt 16 ct)]) (cs:=#[I4 (t:Int),I4 (c:Int),I4 lo,I4 hi,I4 (((BG rs (t:Int) c).length:Nat):Int),I4 (((Bp (BG rs (t:Int) c) c lo):Nat):Int),.slice none 0 0,.slice none 0 0,.slice qt 16 ct]) Y (AY (pl:=#[(0,1),(1,1),(2,1),(3,1),(4,1),(5,1),(6,1),(7,1),(8,1)]) bm D4 (fun _=>by kernel_rfl) A6))<|Yz 11 0 4095 [5,3,2,1] [true,true,true,true] [(5,(_,_)),(3,(_,_)),(2,(_,_)),(1,(_,_))] V Y V rfl V rfl (Al bm #[_,_,_,_,_,_,_,_,_])<|AD fun pb=>B5<|Yw 12 8191 V (Xw Kf #[I4 (t:Int),I4 (c:Int),I4 lo,I4 hi,I4 (((BG rs (t:Int) c).length:Nat):Int),I4 (((Bp (BG rs (t:Int) c) c lo):Nat):Int),.slice none 0 0,.slice none 0 0,.slice qt 16 ct])<|CM<|Ai<|Zn [10,12,14,15,16] ?_;refine Zx<|Zq<|A0<|Zm Y<|A3 Y<|AP<|BV<|BV<|BV<|Zb [17,10,12,15,16] ?_;refine BB (e0:=[(17,_)]) (fun m e H=>∃(k:Nat) (cu:Value) (O:List A9) (vp:Value) (sp:List A9) (J:List Value) (X:List A9),m=(toT (BG rs (t:Int) c) c hi) -(Bp (BG rs (t:Int) c) c lo) -k/\(k<=(toT (BG rs (t:Int) c) c hi) -(Bp (BG rs (t:Int) c) c lo)/\Bc 5 83 cu k (Ae (((BG rs (t:Int) c).drop (Bp (BG rs (t:Int) c) c lo)).take k)) O/\Bc 1 45 vp k J sp/\Jn X J (J9 (BG rs (t:Int) c) (Bp (BG rs (t:Int) c) c lo) k))/\e=[(17,I4 (((Bp (BG rs (t:Int) c) c lo)+k:Nat):Int))]/\H=[[(pb,.cells #[I4 (t:Int),I4 (c:Int),I4 lo,I4 hi,I4 (((BG rs (t:Int) c).length:Nat):Int),I4 (((Bp (BG rs (t:Int) c) c lo):Nat):Int),cu,vp,.slice qt 16 ct] 152 (0,0))],O,sp,X]) (by exact ⟨0,.slice none 0 0,[],.slice none 0 0,[],[],[],rfl,⟨C0 _,by rw [HX];exact Bf 5 _,Bf 1 _,Pw _⟩,rfl,rfl⟩) Wp ?_;rintro _ _ _ ⟨k,cu,O,vp,sp,J,X,rfl,⟨hk,W,U,hP⟩,rfl,rfl⟩;obtain ⟨q2,c2,rfl⟩:=W.form;obtain ⟨q3,c3,rfl⟩:=U.form
  refine Zq<|A0<|Zm Y<|Zm Y<|Zv (Au Y Y)<|A4<|Av Y (fun o8=>?_) (fun o8=>?_)
  ·
   obtain ⟨x,hx⟩:∃x,(BG rs (t:Int) c)[(Bp (BG rs (t:Int) c) c lo)+k]?=some x:=⟨_,B4 A1⟩;obtain ⟨g,off,cur,T,zz,rfl,o9,pq,ic⟩:=hg _ x hx;have bn:((BG rs (t:Int) c).drop (Bp (BG rs (t:Int) c) c lo))[k]?=some x:=by rw [OR];exact hx
   refine AC<|Zx<|Zq<|AP<|A0<|Zh 1 MD V rfl HF Y<|Zl KB Y ?_;refine Zm Y<|Zc [_,_] Y call177 Y rfl (SV pg (by rw [GL];omega) (fun s h=>by have:=XN (fun r hr=>j3 r (MN hr)) s h;omega) ((Bp (BG rs (t:Int) c) c lo)+k) (by rw [GL];omega) Tg zg) ?_;rintro _ _ ⟨_,⟨p8,I,rfl,K,rfl⟩,rfl⟩;have ax:(FD (Nq (BG rs (t:Int) c)) ((Bp (BG rs (t:Int) c) c lo)+k)).length<=maxLen:=iO K
   have l8:=Ga K ax;have af:=QZ (BG rs (t:Int) c) (Bp (BG rs (t:Int) c) c lo) k▸hP.snoc (l8.mono (fun c h=>DS X h)) (fun c h=>G1 I h)
   obtain ⟨qx,cx,rfl⟩:=K.form;refine Zm Y<|Zd Y V<|Zd Y V<|Za Y<|A3 Y<|CK (s1:=I) (s2:=X) Wo Wo ?_;refine Az (n:=18) (0::1::0::4::0::28::60::124::255::0::512::0::2048::8191::2047::32767::65535::131071::[]) 176512 A6 A6 V<|A2 0 V (AB (off:=6) D4 V rfl C5 Y)<|B3 1 V Fl Y ?_;refine A2 2 V (AB (off:=0) MD V rfl C5 Y)<|B3 3 V Fl Y ?_;refine A2 4 V (AQ Y)<|A2 5 V (Ad B6 AW Y Y A1)<|DI (b:=g) (x:= .cells cur T zz) (D':=127) 6 V rfl V (by simp [o9]) (AA (cs:=x.A16) CH AW Y A1 ic) ?_;refine A2 9 V (AB (off:=7) D4 V rfl K1 Y)<|B3 10 V isAgg150 Y ?_;refine A2 11 V (AQ Y)<|Zz (l:=[7,12])<|B1 [true,false,false,true] [(10,(_,_)),(1,(_,_))] V rfl (Ah (vs:=[_]) (cs:=[_,_,_,_,_]) B6 AW DP Y V rfl V rfl V) ?_ (fun _ _ h=>h.elim) ?_
   ·
    rintro _ _ ⟨Z,rfl,rfl⟩;refine B5<|Zz (l:=[8,12])<|B1 [true,false] [(10,(_,_))] V rfl (BQ (by_:=40) (sz:=5) B6 (V:Tryz.prog.info? 83=some Tryz.t83) V rfl V rfl Y (W) Y (DJ 5 Z 1 1 83 (0,0) [I4 x.t,I4 x.k,I4 x.v.a,I4 x.v.b,I4 x.v.c] V) Wo Wo Fm A1 A1) ?hk_7 (fun _ _ h=>h.elim) ?hl_7
    case hk_7=>
     rintro _ _ ⟨kv,B,rfl⟩;refine ⟨Zk (AZ),?_⟩;obtain ⟨gm,cO,rfl⟩:=B.form;refine A2 14 V (AB (off:=6) D4 V rfl C5 Y)<|Zz (l:=[12])<|B1 [true] [(10,(_,_))] V rfl (Ah (vs:=[_]) (cs:=[_]) L7 HF UP Y V rfl V rfl V) ?_ (fun _ _ h=>h.elim) Ag;rintro _ _ ⟨gq,rfl,rfl⟩;refine B5<|Yw 13 32767 V (Du (by_:=24) (sz:=1) (news:=[_]) L7 (V:Tryz.prog.info? 45=some Tryz.t45) V rfl V rfl Y U Y Wo Wh AM V ZS AN A1 A1) ?_;rintro _ _ ⟨l5,G,rfl⟩;obtain ⟨gy,d9,rfl⟩:=G.form;refine Yw 15 65535 V (Zs C5 Y Y V (hc:=by exact (V:_=(#[I4 (t:Int),I4 (c:Int),I4 lo,I4 hi,I4 (((BG rs (t:Int) c).length:Nat):Int),I4 (((Bp (BG rs (t:Int) c) c lo):Nat):Int),_,_,.slice qt 16 ct]:Array Value))) (hi:=by(simp;done)))<|CM<|A2 16 V (AB (off:=7) D4 V rfl K1 Y)<|Zz (l:=[17])<|B1 [] [] V rfl (Zs K1 Y Y V (hc:=by exact (V:_=(#[I4 (t:Int),I4 (c:Int),I4 lo,I4 hi,I4 (((BG rs (t:Int) c).length:Nat):Int),I4 (((Bp (BG rs (t:Int) c) c lo):Nat):Int),_,_,.slice qt 16 ct]:Array Value))) (hi:=by(simp;done))) ?_ (fun _ _ h=>h.elim) Ag;rintro _ _ ⟨rfl,rfl⟩;refine B5<|Ai<|Zn [10,12,15,16,17] ?_;refine A8<|Zx<|Zg<|Zm Y<|Ya (n:=1) Y Y<|AG Y<|Zn [17,10,12,15,16] ?_;refine Aa (e':=[(17,_)]) (by exact ⟨k+1,_,_,_,_,J++[_],I++X,rfl,⟨by omega,BR B rfl (by rw [Bh bn,Bi];rfl),BR G rfl rfl,af⟩,rfl,rfl⟩)
    refine B1 [true,true] [(10,(_,_)),(1,(_,_))] V rfl (Ah (vs:=[_]) (cs:=[_]) L7 HF UP Y V rfl V rfl V) ?_ (fun _ _ h=>h.elim) Ag;rintro _ _ ⟨gq,rfl,rfl⟩;refine B5<|Yz 8 255 8191 [10,1] [true,false] [(10,(_,_))] V Y V rfl V rfl (BQ (by_:=40) (sz:=5) B6 (V:Tryz.prog.info? 83=some Tryz.t83) V rfl V rfl Y (W) Y (DJ 5 Z 1 1 83 (0,0) [I4 x.t,I4 x.k,I4 x.v.a,I4 x.v.b,I4 x.v.c] V) Wo Wo Fm A1 A1) ?_;rintro _ _ ⟨kv,B,rfl⟩;refine ⟨Zk (AZ),?_⟩;obtain ⟨gm,cO,rfl⟩:=B.form;refine A2 14 V (AB (off:=6) D4 V rfl C5 Y)<|Zz (l:=[13])<|B1 [false] [] V rfl (Du (by_:=24) (sz:=1) (news:=[_]) L7 (V:Tryz.prog.info? 45=some Tryz.t45) V rfl V rfl Y U Y Wo Wh AM V ZS AN A1 A1) ?hk_15 (fun _ _ h=>h.elim) ?hl_15
    case hk_15=>
     rintro _ _ ⟨l5,G,rfl⟩;refine ⟨AZ,?_⟩;obtain ⟨gy,d9,rfl⟩:=G.form;refine Yw 15 65535 V (Zs C5 Y Y V (hc:=by exact (V:_=(#[I4 (t:Int),I4 (c:Int),I4 lo,I4 hi,I4 (((BG rs (t:Int) c).length:Nat):Int),I4 (((Bp (BG rs (t:Int) c) c lo):Nat):Int),_,_,.slice qt 16 ct]:Array Value))) (hi:=by(simp;done)))<|CM<|A2 16 V (AB (off:=7) D4 V rfl K1 Y)<|Zz (l:=[17])<|B1 [] [] V rfl (Zs K1 Y Y V (hc:=by exact (V:_=(#[I4 (t:Int),I4 (c:Int),I4 lo,I4 hi,I4 (((BG rs (t:Int) c).length:Nat):Int),I4 (((Bp (BG rs (t:Int) c) c lo):Nat):Int),_,_,.slice qt 16 ct]:Array Value))) (hi:=by(simp;done))) ?_ (fun _ _ h=>h.elim) Ag;rintro _ _ ⟨rfl,rfl⟩;refine B5<|Ai<|Zn [10,12,15,16,17] ?_;refine A8<|Zx<|Zg<|Zm Y<|Ya (n:=1) Y Y<|AG Y<|Zn [17,10,12,15,16] ?_;refine Aa (e':=[(17,_)]) (by exact ⟨k+1,_,_,_,_,J++[_],I++X,rfl,⟨by omega,BR B rfl (by rw [Bh bn,Bi];rfl),BR G rfl rfl,af⟩,rfl,rfl⟩)
    exact Ag
   refine B1 [true,true,true,true] [(10,(_,_)),(6,(_,_)),(3,(_,_)),(1,(_,_))] V rfl (Ah (vs:=[_]) (cs:=[_]) L7 HF UP Y V rfl V rfl V) ?_ (fun _ _ h=>h.elim) Ag;rintro _ _ ⟨gq,rfl,rfl⟩;refine ⟨Zk (FH (by simp [*]) (Zk (Zk (AZ)))),?_⟩;refine Yz 7 124 7935 [10,6,3,1] [true,false,false,true] [(10,(_,_)),(1,(_,_))] V Y V rfl V rfl (Ah (vs:=[_]) (cs:=[_,_,_,_,_]) B6 AW DP Y V rfl V rfl V)<|AD fun Z=>B5<|Yz 8 255 8191 [10,1] [true,false] [(10,(_,_))] V Y V rfl V rfl (BQ (by_:=40) (sz:=5) B6 (V:Tryz.prog.info? 83=some Tryz.t83) V rfl V rfl Y (W) Y (DJ 5 Z 1 1 83 (0,0) [I4 x.t,I4 x.k,I4 x.v.a,I4 x.v.b,I4 x.v.c] V) Wo Wo Fm A1 A1) ?_;rintro _ _ ⟨kv,B,rfl⟩;refine ⟨Zk (AZ),?_⟩;obtain ⟨gm,cO,rfl⟩:=B.form;refine A2 14 V (AB (off:=6) D4 V rfl C5 Y)<|Zz (l:=[13])<|B1 [false] [] V rfl (Du (by_:=24) (sz:=1) (news:=[_]) L7 (V:Tryz.prog.info? 45=some Tryz.t45) V rfl V rfl Y U Y Wo Wh AM V ZS AN A1 A1) ?hk_22 (fun _ _ h=>h.elim) ?hl_22
   case hk_22=>
    rintro _ _ ⟨l5,G,rfl⟩;refine ⟨AZ,?_⟩;obtain ⟨gy,d9,rfl⟩:=G.form;refine Yw 15 65535 V (Zs C5 Y Y V (hc:=by exact (V:_=(#[I4 (t:Int),I4 (c:Int),I4 lo,I4 hi,I4 (((BG rs (t:Int) c).length:Nat):Int),I4 (((Bp (BG rs (t:Int) c) c lo):Nat):Int),_,_,.slice qt 16 ct]:Array Value))) (hi:=by(simp;done)))<|CM<|A2 16 V (AB (off:=7) D4 V rfl K1 Y)<|Zz (l:=[17])<|B1 [] [] V rfl (Zs K1 Y Y V (hc:=by exact (V:_=(#[I4 (t:Int),I4 (c:Int),I4 lo,I4 hi,I4 (((BG rs (t:Int) c).length:Nat):Int),I4 (((Bp (BG rs (t:Int) c) c lo):Nat):Int),_,_,.slice qt 16 ct]:Array Value))) (hi:=by(simp;done))) ?_ (fun _ _ h=>h.elim) Ag;rintro _ _ ⟨rfl,rfl⟩;refine B5<|Ai<|Zn [10,12,15,16,17] ?_;refine A8<|Zx<|Zg<|Zm Y<|Ya (n:=1) Y Y<|AG Y<|Zn [17,10,12,15,16] ?_;refine Aa (e':=[(17,_)]) (by exact ⟨k+1,_,_,_,_,J++[_],I++X,rfl,⟨by omega,BR B rfl (by rw [Bh bn,Bi];rfl),BR G rfl rfl,af⟩,rfl,rfl⟩)
   exact Ag
  have ek:k=(toT (BG rs (t:Int) c) c hi) -(Bp (BG rs (t:Int) c) c lo):=by omega
  subst ek;refine Ay<|Zt<|Zt<|AR<|Zx<|A0<|Zo Wh (AA (cs:=#[I4 (t:Int),I4 (c:Int),I4 lo,I4 hi,I4 (((BG rs (t:Int) c).length:Nat):Int),I4 (((Bp (BG rs (t:Int) c) c lo):Nat):Int),.slice q2 _ c2,.slice q3 _ c3,.slice qt 16 ct]) cE Kf Y As AM) ?_;refine Xe (Xw Kf #[I4 (t:Int),I4 (c:Int),I4 lo,I4 hi,I4 (((BG rs (t:Int) c).length:Nat):Int),I4 (((Bp (BG rs (t:Int) c) c lo):Nat):Int),.slice q2 _ c2,.slice q3 _ c3,.slice qt 16 ct]) ?_;refine A3 Y<|AJ<|Bn rfl results103 Y Wh (Ak cE Kf Wn (rfl)) Y (by exact ⟨_,_,_,O,sp,J,X,so,rfl,BR W (by rw [C2,C3];omega) rfl,U,hP,j5,rfl⟩)
 refine B1 [true,true,true,true] [(5,(_,_)),(3,(_,_)),(2,(_,_)),(1,(_,_))] V rfl (Al bm #[_,_,_,_,_,_,_,_,_]) ?_ (fun _ _ h=>h.elim) Ag;rintro _ _ ⟨pb,rfl,rfl⟩;refine B5<|Zz (l:=[9])<|B1 [true,true,true,true] [(5,(_,_)),(3,(_,_)),(2,(_,_)),(1,(_,_))] V rfl (Zw [_] Y call176 Y V (Uq _ p rs s hv hs hn j3 Tg zg)) ?_ Bv Ag;rintro _ _ ⟨_,⟨so,j5,rfl⟩,rfl⟩;refine ⟨Zk (Zk (Zk (Zk (AZ)))),?_⟩;obtain ⟨qt,ct,rfl⟩:=j5.form;refine A2 10 V (BK (vs:=[(0,I4 (t:Int)),(1,I4 (c:Int)),(2,I4 lo),(3,I4 hi),(4,I4 (((BG rs (t:Int) c).length:Nat):Int)),(5,I4 (((Bp (BG rs (t:Int) c) c lo):Nat):Int)),(8,.slice qt 16 ct)]) (cs:=#[I4 (t:Int),I4 (c:Int),I4 lo,I4 hi,I4 (((BG rs (t:Int) c).length:Nat):Int),I4 (((Bp (BG rs (t:Int) c) c lo):Nat):Int),.slice none 0 0,.slice none 0 0,.slice qt 16 ct]) Y (AY (pl:=#[(0,1),(1,1),(2,1),(3,1),(4,1),(5,1),(6,1),(7,1),(8,1)]) bm D4 (fun _=>by kernel_rfl) A6))<|Yw 12 8191 V (Xw Kf #[I4 (t:Int),I4 (c:Int),I4 lo,I4 hi,I4 (((BG rs (t:Int) c).length:Nat):Int),I4 (((Bp (BG rs (t:Int) c) c lo):Nat):Int),.slice none 0 0,.slice none 0 0,.slice qt 16 ct])<|CM<|Ai<|Zn [10,12,14,15,16] ?_;refine Zx<|Zq<|A0<|Zm Y<|A3 Y<|AP<|BV<|BV<|BV<|Zb [17,10,12,15,16] ?_;refine BB (e0:=[(17,_)]) (fun m e H=>∃(k:Nat) (cu:Value) (O:List A9) (vp:Value) (sp:List A9) (J:List Value) (X:List A9),m=(toT (BG rs (t:Int) c) c hi) -(Bp (BG rs (t:Int) c) c lo) -k/\(k<=(toT (BG rs (t:Int) c) c hi) -(Bp (BG rs (t:Int) c) c lo)/\Bc 5 83 cu k (Ae (((BG rs (t:Int) c).drop (Bp (BG rs (t:Int) c) c lo)).take k)) O/\Bc 1 45 vp k J sp/\Jn X J (J9 (BG rs (t:Int) c) (Bp (BG rs (t:Int) c) c lo) k))/\e=[(17,I4 (((Bp (BG rs (t:Int) c) c lo)+k:Nat):Int))]/\H=[[(pb,.cells #[I4 (t:Int),I4 (c:Int),I4 lo,I4 hi,I4 (((BG rs (t:Int) c).length:Nat):Int),I4 (((Bp (BG rs (t:Int) c) c lo):Nat):Int),cu,vp,.slice qt 16 ct] 152 (0,0))],O,sp,X]) (by exact ⟨0,.slice none 0 0,[],.slice none 0 0,[],[],[],rfl,⟨C0 _,by rw [HX];exact Bf 5 _,Bf 1 _,Pw _⟩,rfl,rfl⟩) Wp ?_
 rintro _ _ _ ⟨k,cu,O,vp,sp,J,X,rfl,⟨hk,W,U,hP⟩,rfl,rfl⟩;obtain ⟨q2,c2,rfl⟩:=W.form;obtain ⟨q3,c3,rfl⟩:=U.form;refine Zq<|A0<|Zm Y<|Zm Y<|Zv (Au Y Y)<|A4<|Av Y (fun o8=>?_) (fun o8=>?_)
 ·
  obtain ⟨x,hx⟩:∃x,(BG rs (t:Int) c)[(Bp (BG rs (t:Int) c) c lo)+k]?=some x:=⟨_,B4 A1⟩;obtain ⟨g,off,cur,T,zz,rfl,o9,pq,ic⟩:=hg _ x hx;have bn:((BG rs (t:Int) c).drop (Bp (BG rs (t:Int) c) c lo))[k]?=some x:=by rw [OR];exact hx
  refine AC<|Zx<|Zq<|AP<|A0<|Zh 1 MD V rfl HF Y<|Zl KB Y ?_;refine Zm Y<|Zc [_,_] Y call177 Y rfl (SV pg (by rw [GL];omega) (fun s h=>by have:=XN (fun r hr=>j3 r (MN hr)) s h;omega) ((Bp (BG rs (t:Int) c) c lo)+k) (by rw [GL];omega) Tg zg) ?_;rintro _ _ ⟨_,⟨p8,I,rfl,K,rfl⟩,rfl⟩;have ax:(FD (Nq (BG rs (t:Int) c)) ((Bp (BG rs (t:Int) c) c lo)+k)).length<=maxLen:=iO K
  have l8:=Ga K ax;have af:=QZ (BG rs (t:Int) c) (Bp (BG rs (t:Int) c) c lo) k▸hP.snoc (l8.mono (fun c h=>DS X h)) (fun c h=>G1 I h)
  obtain ⟨qx,cx,rfl⟩:=K.form;refine Zm Y<|Zd Y V<|Zd Y V<|Za Y<|A3 Y<|CK (s1:=I) (s2:=X) Wo Wo ?_;refine Az (n:=18) (0::1::0::4::0::28::60::124::255::0::512::0::2048::8191::2047::32767::65535::131071::[]) 176512 A6 A6 V<|A2 0 V (AB (off:=6) D4 V rfl C5 Y)<|B3 1 V Fl Y ?_;refine A2 2 V (AB (off:=0) MD V rfl C5 Y)<|B3 3 V Fl Y ?_;refine A2 4 V (AQ Y)<|A2 5 V (Ad B6 AW Y Y A1)<|DI (b:=g) (x:= .cells cur T zz) (D':=127) 6 V rfl V (by simp [o9]) (AA (cs:=x.A16) CH AW Y A1 ic) ?_;refine A2 9 V (AB (off:=7) D4 V rfl K1 Y)<|B3 10 V isAgg150 Y ?_;refine A2 11 V (AQ Y)<|Zz (l:=[7,12])<|B1 [true,false,false,true] [(10,(_,_)),(1,(_,_))] V rfl (Ah (vs:=[_]) (cs:=[_,_,_,_,_]) B6 AW DP Y V rfl V rfl V) ?_ (fun _ _ h=>h.elim) ?_
  ·
   rintro _ _ ⟨Z,rfl,rfl⟩;refine B5<|Zz (l:=[8,12])<|B1 [true,false] [(10,(_,_))] V rfl (BQ (by_:=40) (sz:=5) B6 (V:Tryz.prog.info? 83=some Tryz.t83) V rfl V rfl Y (W) Y (DJ 5 Z 1 1 83 (0,0) [I4 x.t,I4 x.k,I4 x.v.a,I4 x.v.b,I4 x.v.c] V) Wo Wo Fm A1 A1) ?hk_32 (fun _ _ h=>h.elim) ?hl_32
   case hk_32=>
    rintro _ _ ⟨kv,B,rfl⟩;refine ⟨Zk (AZ),?_⟩;obtain ⟨gm,cO,rfl⟩:=B.form;refine A2 14 V (AB (off:=6) D4 V rfl C5 Y)<|Zz (l:=[12])<|B1 [true] [(10,(_,_))] V rfl (Ah (vs:=[_]) (cs:=[_]) L7 HF UP Y V rfl V rfl V) ?_ (fun _ _ h=>h.elim) Ag;rintro _ _ ⟨gq,rfl,rfl⟩;refine B5<|Yw 13 32767 V (Du (by_:=24) (sz:=1) (news:=[_]) L7 (V:Tryz.prog.info? 45=some Tryz.t45) V rfl V rfl Y U Y Wo Wh AM V ZS AN A1 A1) ?_;rintro _ _ ⟨l5,G,rfl⟩;obtain ⟨gy,d9,rfl⟩:=G.form;refine Yw 15 65535 V (Zs C5 Y Y V (hc:=by exact (V:_=(#[I4 (t:Int),I4 (c:Int),I4 lo,I4 hi,I4 (((BG rs (t:Int) c).length:Nat):Int),I4 (((Bp (BG rs (t:Int) c) c lo):Nat):Int),_,_,.slice qt 16 ct]:Array Value))) (hi:=by(simp;done)))<|CM<|A2 16 V (AB (off:=7) D4 V rfl K1 Y)<|Zz (l:=[17])<|B1 [] [] V rfl (Zs K1 Y Y V (hc:=by exact (V:_=(#[I4 (t:Int),I4 (c:Int),I4 lo,I4 hi,I4 (((BG rs (t:Int) c).length:Nat):Int),I4 (((Bp (BG rs (t:Int) c) c lo):Nat):Int),_,_,.slice qt 16 ct]:Array Value))) (hi:=by(simp;done))) ?_ (fun _ _ h=>h.elim) Ag;rintro _ _ ⟨rfl,rfl⟩;refine B5<|Ai<|Zn [10,12,15,16,17] ?_;refine A8<|Zx<|Zg<|Zm Y<|Ya (n:=1) Y Y<|AG Y<|Zn [17,10,12,15,16] ?_;refine Aa (e':=[(17,_)]) (by exact ⟨k+1,_,_,_,_,J++[_],I++X,rfl,⟨by omega,BR B rfl (by rw [Bh bn,Bi];rfl),BR G rfl rfl,af⟩,rfl,rfl⟩)
   refine B1 [true,true] [(10,(_,_)),(1,(_,_))] V rfl (Ah (vs:=[_]) (cs:=[_]) L7 HF UP Y V rfl V rfl V) ?_ (fun _ _ h=>h.elim) Ag;rintro _ _ ⟨gq,rfl,rfl⟩;refine B5<|Yz 8 255 8191 [10,1] [true,false] [(10,(_,_))] V Y V rfl V rfl (BQ (by_:=40) (sz:=5) B6 (V:Tryz.prog.info? 83=some Tryz.t83) V rfl V rfl Y (W) Y (DJ 5 Z 1 1 83 (0,0) [I4 x.t,I4 x.k,I4 x.v.a,I4 x.v.b,I4 x.v.c] V) Wo Wo Fm A1 A1) ?_;rintro _ _ ⟨kv,B,rfl⟩;refine ⟨Zk (AZ),?_⟩;obtain ⟨gm,cO,rfl⟩:=B.form;refine A2 14 V (AB (off:=6) D4 V rfl C5 Y)<|Zz (l:=[13])<|B1 [false] [] V rfl (Du (by_:=24) (sz:=1) (news:=[_]) L7 (V:Tryz.prog.info? 45=some Tryz.t45) V rfl V rfl Y U Y Wo Wh AM V ZS AN A1 A1) ?hk_40 (fun _ _ h=>h.elim) ?hl_40
   case hk_40=>
    rintro _ _ ⟨l5,G,rfl⟩;refine ⟨AZ,?_⟩;obtain ⟨gy,d9,rfl⟩:=G.form;refine Yw 15 65535 V (Zs C5 Y Y V (hc:=by exact (V:_=(#[I4 (t:Int),I4 (c:Int),I4 lo,I4 hi,I4 (((BG rs (t:Int) c).length:Nat):Int),I4 (((Bp (BG rs (t:Int) c) c lo):Nat):Int),_,_,.slice qt 16 ct]:Array Value))) (hi:=by(simp;done)))<|CM<|A2 16 V (AB (off:=7) D4 V rfl K1 Y)<|Zz (l:=[17])<|B1 [] [] V rfl (Zs K1 Y Y V (hc:=by exact (V:_=(#[I4 (t:Int),I4 (c:Int),I4 lo,I4 hi,I4 (((BG rs (t:Int) c).length:Nat):Int),I4 (((Bp (BG rs (t:Int) c) c lo):Nat):Int),_,_,.slice qt 16 ct]:Array Value))) (hi:=by(simp;done))) ?_ (fun _ _ h=>h.elim) Ag;rintro _ _ ⟨rfl,rfl⟩;refine B5<|Ai<|Zn [10,12,15,16,17] ?_;refine A8<|Zx<|Zg<|Zm Y<|Ya (n:=1) Y Y<|AG Y<|Zn [17,10,12,15,16] ?_;refine Aa (e':=[(17,_)]) (by exact ⟨k+1,_,_,_,_,J++[_],I++X,rfl,⟨by omega,BR B rfl (by rw [Bh bn,Bi];rfl),BR G rfl rfl,af⟩,rfl,rfl⟩)
   exact Ag
  refine B1 [true,true,true,true] [(10,(_,_)),(6,(_,_)),(3,(_,_)),(1,(_,_))] V rfl (Ah (vs:=[_]) (cs:=[_]) L7 HF UP Y V rfl V rfl V) ?_ (fun _ _ h=>h.elim) Ag;rintro _ _ ⟨gq,rfl,rfl⟩;refine ⟨Zk (FH (by simp [*]) (Zk (Zk (AZ)))),?_⟩;refine Yz 7 124 7935 [10,6,3,1] [true,false,false,true] [(10,(_,_)),(1,(_,_))] V Y V rfl V rfl (Ah (vs:=[_]) (cs:=[_,_,_,_,_]) B6 AW DP Y V rfl V rfl V)<|AD fun Z=>B5<|Yz 8 255 8191 [10,1] [true,false] [(10,(_,_))] V Y V rfl V rfl (BQ (by_:=40) (sz:=5) B6 (V:Tryz.prog.info? 83=some Tryz.t83) V rfl V rfl Y (W) Y (DJ 5 Z 1 1 83 (0,0) [I4 x.t,I4 x.k,I4 x.v.a,I4 x.v.b,I4 x.v.c] V) Wo Wo Fm A1 A1) ?_;rintro _ _ ⟨kv,B,rfl⟩;refine ⟨Zk (AZ),?_⟩;obtain ⟨gm,cO,rfl⟩:=B.form;refine A2 14 V (AB (off:=6) D4 V rfl C5 Y)<|Zz (l:=[13])<|B1 [false] [] V rfl (Du (by_:=24) (sz:=1) (news:=[_]) L7 (V:Tryz.prog.info? 45=some Tryz.t45) V rfl V rfl Y U Y Wo Wh AM V ZS AN A1 A1) ?hk_47 (fun _ _ h=>h.elim) ?hl_47
  case hk_47=>
   rintro _ _ ⟨l5,G,rfl⟩;refine ⟨AZ,?_⟩;obtain ⟨gy,d9,rfl⟩:=G.form;refine Yw 15 65535 V (Zs C5 Y Y V (hc:=by exact (V:_=(#[I4 (t:Int),I4 (c:Int),I4 lo,I4 hi,I4 (((BG rs (t:Int) c).length:Nat):Int),I4 (((Bp (BG rs (t:Int) c) c lo):Nat):Int),_,_,.slice qt 16 ct]:Array Value))) (hi:=by(simp;done)))<|CM<|A2 16 V (AB (off:=7) D4 V rfl K1 Y)<|Zz (l:=[17])<|B1 [] [] V rfl (Zs K1 Y Y V (hc:=by exact (V:_=(#[I4 (t:Int),I4 (c:Int),I4 lo,I4 hi,I4 (((BG rs (t:Int) c).length:Nat):Int),I4 (((Bp (BG rs (t:Int) c) c lo):Nat):Int),_,_,.slice qt 16 ct]:Array Value))) (hi:=by(simp;done))) ?_ (fun _ _ h=>h.elim) Ag;rintro _ _ ⟨rfl,rfl⟩;refine B5<|Ai<|Zn [10,12,15,16,17] ?_;refine A8<|Zx<|Zg<|Zm Y<|Ya (n:=1) Y Y<|AG Y<|Zn [17,10,12,15,16] ?_;refine Aa (e':=[(17,_)]) (by exact ⟨k+1,_,_,_,_,J++[_],I++X,rfl,⟨by omega,BR B rfl (by rw [Bh bn,Bi];rfl),BR G rfl rfl,af⟩,rfl,rfl⟩)
  exact Ag
 have ek:k=(toT (BG rs (t:Int) c) c hi) -(Bp (BG rs (t:Int) c) c lo):=by omega
 subst ek;refine Ay<|Zt<|Zt<|AR<|Zx<|A0<|Zo Wh (AA (cs:=#[I4 (t:Int),I4 (c:Int),I4 lo,I4 hi,I4 (((BG rs (t:Int) c).length:Nat):Int),I4 (((Bp (BG rs (t:Int) c) c lo):Nat):Int),.slice q2 _ c2,.slice q3 _ c3,.slice qt 16 ct]) cE Kf Y As AM) ?_;refine Xe (Xw Kf #[I4 (t:Int),I4 (c:Int),I4 lo,I4 hi,I4 (((BG rs (t:Int) c).length:Nat):Int),I4 (((Bp (BG rs (t:Int) c) c lo):Nat):Int),.slice q2 _ c2,.slice q3 _ c3,.slice qt 16 ct]) ?_;refine A3 Y<|AJ<|Bn rfl results103 Y Wh (Ak cE Kf Wn (rfl)) Y (by exact ⟨_,_,_,O,sp,J,X,so,rfl,BR W (by rw [C2,C3];omega) rfl,U,hP,j5,rfl⟩)
def M9(M:List A9)(v:Value)(ps:List (List Bs)):Prop:=∃p cap,v= .slice p ps.length cap/\(ps.length<=maxLen/\ps.length<=cap)/\∀(i:Nat) (l:List Bs),ps[i]?=some l->∃q c,EU M (.slice q l.length c) l/\∃g off cur T zz,p=some ⟨g,off,none⟩/\(g,Obj.cells cur T zz)∈M/\cur[off+i]?=some (.slice q l.length c)
def Xl(M:List A9)(v:Value)(x:RP):Prop:=∃vr vp vt,v= .agg #[I4 x.tb,I4 x.cl,I4 x.lo,I4 x.hi,I4 x.ct,I4 x.fi,vr,vp,vt]/\E8 M vr x.rows/\M9 M vp x.paths/\EU M vt x.roots
theorem VN{e:TypeId}{ps:List (List Bs)}{m:List Value}{s W:List A9}(h:Bc 1 e v ps.length m s)(G:Jn W m ps)(J:ps.length<=maxLen):M9 (s++W) v ps:=by
 rcases OS ps.length with h0|h0
 · obtain ⟨b,cap,rfl⟩:=h.form
   exact ⟨b,cap,rfl,⟨J,by omega⟩,fun i s K=>by rw [LN h0]at K;simp at K⟩
 · obtain ⟨g,cap,cur,z,rfl,rfl,B,X⟩:=LQ h h0
   refine ⟨_,cap,V,⟨J,B⟩,fun i l I=>?_⟩;have Z:=(BE.1 I).1
   obtain ⟨w,U⟩:∃w,m[i]?=some w:=⟨_,B4 (by have:=G.1;omega)⟩;have O:=G.2 i w l U I
   obtain ⟨q,c,e1,h1,h2⟩:=id O;subst e1;refine ⟨q,c,O.mono (fun c h=>G1 _ h),g,0,cur,e,z,V,by simp,?_⟩;rw [D2];exact X i _ U
theorem M9.mono{m:List A9}{ls:List (List Bs)}(h:M9 M v ls)(B:∀c∈M,c∈m):M9 m v ls:=by
 obtain ⟨p,cap,e,J,I⟩:=h;refine ⟨p,cap,e,J,fun i s K=>?_⟩;obtain ⟨q,c,h0,g,off,cur,T,zz,e1,G,h2⟩:=I i s K;exact ⟨q,c,h0.mono B,g,off,cur,T,zz,e1,B _ G,h2⟩
theorem dK(v:Value)(p:Int)(rs:List AU)(s:List A9)(hv:RA v p rs s)(K:BP rs)(hn:rs.length<=2000)(G:∀r∈rs,r.ok)(t c:Nat)(ht:t<=3)(hc:c<=3)(lo hi:Int)(B:lo<=hi)(m:TypeId)(J:Nat×Nat):
 Ba prog 103 #[v,I4 (t:Int),I4 (c:Int),I4 lo,I4 hi] [[(4,.cells (En.map Co).toArray m J)],s] (fun r H'=>∃O mem,r= .tuple #[O,I4 0]/\Xl mem O (Ej rs t c lo hi)/\H'=[mem,[(4,.cells (En.map Co).toArray m J)],s]):=by
 have af:=mL;refine Gs (dL v p rs s hv K hn G t c ht hc lo hi B m J) V ?_;rintro r H' ⟨vr,vp,vt,I,sp,cu,mp,so,rfl,U,h2,W,X,rfl⟩;have Z:=JB K (t:Int) c
 have bn:toT (BG rs (t:Int) c) c hi<=(BG rs (t:Int) c).length:=nj _ _;have g:=dU (BG rs (t:Int) c) (Bp (BG rs (t:Int) c) c lo) (toT (BG rs (t:Int) c) c hi -Bp (BG rs (t:Int) c) c lo)
 have ax:(((BG rs (t:Int) c).drop (Bp (BG rs (t:Int) c) c lo)).take (toT (BG rs (t:Int) c) c hi -Bp (BG rs (t:Int) c) c lo)).length<=2000:=by rw [C2,C3];omega
 refine ⟨_,⟨_,I++(sp++mp)++so,V,⟨vr,vp,vt,V,?_,?_,?_⟩,V⟩,by simp⟩
 · exact (DT U A1).mono (fun c h=>DS _ (DS _ h))
 · exact (VN (BR h2 g.symm rfl) W (by rw [g];omega)).mono (fun c h=>DS _ (G1 _ h))
 · exact (Ga (BR X (Y1 rs).symm rfl) (by rw [Y1];omega)).mono (fun c h=>G1 _ h)
def Xk(x:RP)(j:Nat)(r:AU):Prop:=r.ok/\r.t=x.tb/\(Bl r x.cl<x.lo->j=0)/\(x.hi<Bl r x.cl->x.rows.length<=j+1)
def UD(x:RP)(q r:AU):Prop:=Bl q x.cl<Bl r x.cl\/Bl q x.cl=Bl r x.cl/\q.k<r.k
structure GY(x:RP):Prop where
 tc:(0<=x.tb/\x.tb<4)/\0<=x.cl/\x.cl<4
 lh:x.lo<=x.hi
 ct:0<=x.ct/\x.ct<=2000
 fi:0<=x.fi/\x.fi<=x.ct
 n:(x.rows.length:Int)<=x.ct -x.fi
 none:x.rows.length=0->x.ct=0
 all:∀(j:Nat) (r:AU),x.rows[j]?=some r->Xk x j r/\(0<j->∀q,x.rows[j -1]?=some q->UD x q r)
 first:∀r,x.rows[0]?=some r->x.fi=0\/Bl r x.cl<x.lo
 last:∀r,x.rows[x.rows.length -1]?=some r->x.fi+(x.rows.length:Int)=x.ct\/x.hi<Bl r x.cl
noncomputable instance(x:RP):Decidable (GY x):=Classical.propDecidable _
theorem H9{p:Option Addr}{cap:Nat}(x:RP)(vp vt:Value)(U:E8 M (.slice p x.rows.length cap) x.rows)(hc:0<=x.cl/\x.cl<=3)(K i:Nat)(r:AU)(I:x.rows[i]?=some r):BJ prog 301 #[I4 (i:Int),I5 K] [[(K,.cells #[I4 x.tb,I4 x.cl,I4 x.lo,I4 x.hi,I4 x.ct,I4 x.fi,.slice p x.rows.length cap,vp,vt] 152 (0,0))],M] (I4 (Bl r x.cl)):=by
 have Z:=mL;obtain ⟨p9,G,O,hl,W⟩:=U;injection O with e91 e92 e93
 subst e91 e93;obtain ⟨g,off,cur,T,zz,rfl,B,J,m⟩:=W i r I;have X:=(BE.1 I).1
 refine Se func301 ntmps301 [0,1] ?_;intro u R;refine A0<|A3 Y<|Zq<|Az (n:=9) (0::1::0::7::15::0::32::127::255::[]) 128 A6 A6 V<|A2 0 V (AB (off:=6) D4 V rfl C5 Y)<|B3 1 V Fl Y ?_;refine A2 2 V (AQ Y)<|A2 3 V (Ad B6 AW Y Y A1)<|DI (b:=g) (x:= .cells cur T zz) (D':=31) 4 V rfl V (by simp [B]) (AA (cs:=r.A16) CH AW Y A1 m) ?_;refine A2 5 V (AB (off:=1) D4 V rfl A5 Y)<|B3 6 V AE Y ?_;refine Yw 7 255 V (Zu [_,_] Y S7 Y V (Fs r x.cl hc))<|CM<|A2 8 V (Aw Y)<|Ai<|Zx<|AJ<|AO V results301 Y (by exact ⟨V,V⟩)
variable{x:RP}
set_option maxHeartbeats 4000000 in
theorem UW(hv:Xl M v x):BJ prog 271 #[v] [M] (.bool (decide (GY x))):=by
 have vz:=mL;obtain ⟨vr,vp,vt,rfl,hR,hP,hT⟩:=hv;obtain ⟨p,cap,e9,hl,hg⟩:=id hR;subst e9;refine Se func271 ntmps271 [0] ?_;intro u R;refine A0<|Ze (Bx #[_,_,_,_,_,_,_,_,_])<|AD fun pb=>A3 Y<|A0<|Zh 6 D4 V rfl C5 Y<|Zl Fl Y ?_;refine Zv (Ab B6 Y)<|A3 Y<|Zq<|A0<|Zh 0 D4 V rfl A5 Y<|Zl AE Y ?_;refine Zh 1 D4 V rfl A5 Y<|Zl AE Y ?_;refine Xr [_,_] Y call169 Y V (Ql x.tb x.cl) ?_;refine Zv (DD Y)<|Zm Y<|Ao (t:=17) Y V (fun qb=>?_) (fun qb=>?_)
 ·
  repeat refine A7 Y rfl ?_
  refine Zv (AX Y Y)<|Zm Y<|A7 Y V<|A7 Y V<|A7 Y V<|Zv (AX Y Y)<|Zm Y<|A7 Y V<|A7 Y V<|A7 Y V<|Zv (AX Y Y)<|Zm Y<|A7 Y V<|A7 Y V<|A7 Y V<|Zv (AX Y Y)<|Zm Y ?_;repeat refine A7 Y rfl ?_
  refine Zv (AX Y Y)<|Zm Y ?_;repeat refine A7 Y rfl ?_
  refine Zv (AX Y Y)<|Z0<|Zn [1,3,54] ?_;refine Zx<|Cn Y<|A0<|A3 Y<|AJ<|Zt<|AO V K0 Y (by exact ⟨congrArg Value.bool (CI (fun B:GY x=>by have J:=B.tc;have K:=B.lh;have O:=B.ct;have U:=B.fi;have af:=B.n;omega)).symm,V⟩)
 refine Yf 2 D4 V rfl A5 Y<|Yl AE Y ?_;refine Yf 3 D4 V rfl A5 Y<|Yl AE Y ?_;refine Yg (Ep Y Y)<|Zv (AL Y Y)<|Zm Y<|Ao (t:=24) Y V (fun qj=>?_) (fun qj=>?_)
 ·
  refine A7 Y V<|A7 Y V<|A7 Y V<|Zv (AX Y Y)<|Zm Y<|A7 Y V<|A7 Y V<|A7 Y V<|Zv (AX Y Y)<|Zm Y<|A7 Y V<|A7 Y V<|A7 Y V<|Zv (AX Y Y)<|Zm Y ?_;repeat refine A7 Y rfl ?_
  refine Zv (AX Y Y)<|Zm Y ?_;repeat refine A7 Y rfl ?_
  refine Zv (AX Y Y)<|Z0<|Zn [1,3,54] ?_;refine Zx<|Cn Y<|A0<|A3 Y<|AJ<|Zt<|AO V K0 Y (by exact ⟨congrArg Value.bool (CI (fun B:GY x=>by have J:=B.tc;have K:=B.lh;have O:=B.ct;have U:=B.fi;have af:=B.n;omega)).symm,V⟩)
 refine Yf 4 D4 V rfl A5 Y<|Yl AE Y ?_;refine Yg (Dq Y Y)<|Zv (AL Y Y)<|Zm Y<|Ao (t:=29) Y V (fun ql=>?_) (fun ql=>?_)
 ·
  refine A7 Y V<|A7 Y V<|A7 Y V<|Zv (AX Y Y)<|Zm Y<|A7 Y V<|A7 Y V<|A7 Y V<|Zv (AX Y Y)<|Zm Y ?_;repeat refine A7 Y rfl ?_
  refine Zv (AX Y Y)<|Zm Y ?_;repeat refine A7 Y rfl ?_
  refine Zv (AX Y Y)<|Z0<|Zn [1,3,54] ?_;refine Zx<|Cn Y<|A0<|A3 Y<|AJ<|Zt<|AO V K0 Y (by exact ⟨congrArg Value.bool (CI (fun B:GY x=>by have J:=B.tc;have K:=B.lh;have O:=B.ct;have U:=B.fi;have af:=B.n;omega)).symm,V⟩)
 refine Yf 4 D4 V rfl A5 Y<|Yl AE Y ?_;refine Yg (Ep Y Y)<|Zv (AL Y Y)<|Zm Y<|Ao (t:=34) Y V (fun qo=>?_) (fun qo=>?_)
 ·
  refine A7 Y V<|A7 Y V<|A7 Y V<|Zv (AX Y Y)<|Zm Y ?_;repeat refine A7 Y rfl ?_
  refine Zv (AX Y Y)<|Zm Y ?_;repeat refine A7 Y rfl ?_
  refine Zv (AX Y Y)<|Z0<|Zn [1,3,54] ?_;refine Zx<|Cn Y<|A0<|A3 Y<|AJ<|Zt<|AO V K0 Y (by exact ⟨congrArg Value.bool (CI (fun B:GY x=>by have J:=B.tc;have K:=B.lh;have O:=B.ct;have U:=B.fi;have af:=B.n;omega)).symm,V⟩)
 refine Yf 5 D4 V rfl A5 Y<|Yl AE Y ?_;refine Yg (Dq Y Y)<|Zv (AL Y Y)<|Zm Y<|Ao (t:=39) Y V (fun qw=>?_) (fun qw=>?_)
 ·
  repeat refine A7 Y rfl ?_
  refine Zv (AX Y Y)<|Zm Y ?_;repeat refine A7 Y rfl ?_
  refine Zv (AX Y Y)<|Z0<|Zn [1,3,54] ?_;refine Zx<|Cn Y<|A0<|A3 Y<|AJ<|Zt<|AO V K0 Y (by exact ⟨congrArg Value.bool (CI (fun B:GY x=>by have J:=B.tc;have K:=B.lh;have O:=B.ct;have U:=B.fi;have af:=B.n;omega)).symm,V⟩)
 refine Yf 5 D4 V rfl A5 Y<|Yl AE Y ?_;refine Yf 4 D4 V rfl A5 Y<|Yl AE Y ?_;refine Yg (Ep Y Y)<|Zv (AL Y Y)<|Zm Y<|Ao (t:=46) Y V (fun qx=>?_) (fun qx=>?_)
 ·
  repeat refine A7 Y rfl ?_
  refine Zv (AX Y Y)<|Z0<|Zn [1,3,54] ?_;refine Zx<|Cn Y<|A0<|A3 Y<|AJ<|Zt<|AO V K0 Y (by exact ⟨congrArg Value.bool (CI (fun B:GY x=>by have J:=B.tc;have K:=B.lh;have O:=B.ct;have U:=B.fi;have af:=B.n;omega)).symm,V⟩)
 refine Zf Y Y<|Yf 4 D4 V rfl A5 Y<|Yl AE Y ?_;refine Yf 5 D4 V rfl A5 Y<|Yl AE Y ?_
 (refine Gp Y (GG Y Y (IntWalk.i64_in _ ?_)) rfl rfl ?_;(focus (first|omega|(simp;omega))))
 refine Yg (Ep Y Y)<|Zv (AL Y Y)<|Z0<|Zn [1,3,54] ?_;refine Zx<|Av Y (fun qz=>?_) (fun qz=>?_)
 ·
  refine A0<|A3 Y<|AJ<|Zt<|AO V K0 Y (by exact ⟨congrArg Value.bool (CI (fun B:GY x=>by have J:=B.tc;have K:=B.lh;have O:=B.ct;have U:=B.fi;have af:=B.n;omega)).symm,V⟩)
 refine AC<|Zx<|Zq<|A0<|Zm Y<|Zv (Cb (n:=0) Y Y)<|A4<|Av Y (fun hz=>?_) (fun hz=>?_)
 ·
  refine A0<|Zh 4 D4 V rfl A5 Y<|Zl AE Y ?_;refine Zv (CP Y Y)<|A3 Y<|AJ<|Zt<|AO V K0 Y (by exact ⟨Tw ⟨fun B=>⟨by omega,by omega,by omega,by omega,by omega,fun _=>B,fun j r W=>by have:=(BE.1 W).1;omega,fun r W=>by have:=(BE.1 W).1;omega,fun r W=>by have:=(BE.1 W).1;omega⟩,fun B=>B.none hz⟩,V⟩)
 refine AC<|Zx<|A0<|Zv (Bg (vs:=[]) (us:=[_]) Y Y)<|A3 Y<|Zq<|A0<|Zh 6 D4 V rfl C5 Y<|Zl Fl Y ?_;refine Zv (Ab B6 Y)<|Zm Y<|A4<|AP<|Zb [64,1,3,4,62,63] ?_;refine BB (e0:=[(64,_)]) (fun m e H=>∃(i:Nat),m=x.rows.length -i/\(i<=x.rows.length/\∀(j:Nat) (r:AU),j<i->x.rows[j]?=some r->Xk x j r/\(0<j->∀q,x.rows[j -1]?=some q->UD x q r))/\e=[(64,I4 (i:Int))]/\H=[]) (by exact ⟨0,V,⟨C0 _,by intro j r W;omega⟩,V,V⟩) Wp ?_;rintro _ _ _ ⟨i,rfl,⟨hi,Z⟩,rfl,rfl⟩;refine A0<|Zv (Au Y Y)<|A4<|Zq<|Av Y (fun pz=>?_) (fun pz=>?_)
 ·
  obtain ⟨r,hr⟩:∃r,x.rows[i]?=some r:=⟨_,B4 pz⟩;obtain ⟨g,off,cur,T,zz,rfl,sO,vo,pg⟩:=hg i r hr;refine AC<|Zx<|Zq<|AP<|A0<|Zm Y<|BX (Ad B6 AW Y Y A1)<|CO (cs:=[(g,.cells cur T zz)]) (by simp [sO]) (AA (cs:=r.A16) CH AW Y A1 pg) V rfl ?_;refine Ze (Al DP #[_,_,_,_,_])<|AD fun rb=>Za Y<|Xe (Xw AW r.A16) ?_;refine A4<|A0<|Zm Y<|Zm Y<|Xr [_] Y call301 Y V (H9 x vp vt hR A1 pb i r hr) ?_;refine A3 Y<|Zb [1,3,4,5,6,7,62,63,64] ?_;refine D7 (e0:=[]) (H0:=[]) (fun e H=>∃(u9:Unit),(Xk x i r)/\e=[]/\H=[]) Wp ?hx_10 ?hy_10
  case hx_10=>
   refine A0<|Zo Wh (AA (cs:=#[_,_,_,_,_]) CH AW Y As AM) ?_;refine Xr [_] Y call203 Y V (Rv r) ?_;refine Zv (DD Y)<|Zm Y<|Ao (t:=75) Y V (fun sj=>?_) (fun sj=>?_)
   ·
    repeat refine A7 Y rfl ?_
    refine Zv (AX Y Y)<|Zm Y ?_;repeat refine A7 Y rfl ?_
    refine Zv (AX Y Y)<|Zm Y ?_;repeat refine A7 Y rfl ?_
    refine Zv (AX Y Y)<|Z0<|Zn [1,3,4,5,6,7,62,63,64,103] ?_;refine Zx<|Cn Y<|A0<|A3 Y<|AJ<|Zt<|Ac<|Zt<|Zt<|Ac<|Zt<|AO rfl K0 Y (by exact ⟨congrArg Value.bool (CI (fun B:GY x=>by obtain ⟨⟨J,K,O,U⟩,_⟩:=B.all i r hr;contradiction)).symm,rfl⟩)
   refine Yf 0 Fi V rfl A5 Y<|Yl AE Y ?_;refine Yf 0 D4 V rfl A5 Y<|Yl AE Y ?_;refine Yg (Kw Y Y)<|Zv (AL Y Y)<|Zm Y<|Ao (t:=82) Y V (fun sw=>?_) (fun sw=>?_)
   ·
    repeat refine A7 Y rfl ?_
    refine Zv (AX Y Y)<|Zm Y ?_;repeat refine A7 Y rfl ?_
    refine Zv (AX Y Y)<|Z0<|Zn [1,3,4,5,6,7,62,63,64,103] ?_;refine Zx<|Cn Y<|A0<|A3 Y<|AJ<|Zt<|Ac<|Zt<|Zt<|Ac<|Zt<|AO rfl K0 Y (by exact ⟨congrArg Value.bool (CI (fun B:GY x=>by obtain ⟨⟨J,K,O,U⟩,_⟩:=B.all i r hr;omega)).symm,rfl⟩)
   refine Zf Y Y<|Yf 2 D4 V rfl A5 Y<|Yl AE Y ?_;refine Yg (Dq Y Y)<|Zf Y Y ?_;refine Ao (t:=87) Y V (fun l8=>?_) (fun l8=>?_)
   ·
    refine Zf Y Y<|Yg (DF (n:=0) Y Y)<|Yg (AX Y Y)<|Zv (AL Y Y)<|Zm Y<|Ao (t:=92) Y V (fun l9=>?_) (fun l9=>?_)
    ·
     repeat refine A7 Y rfl ?_
     refine Zv (AX Y Y)<|Z0<|Zn [1,3,4,5,6,7,62,63,64,103] ?_;refine Zx<|Cn Y<|A0<|A3 Y<|AJ<|Zt<|Ac<|Zt<|Zt<|Ac<|Zt<|AO rfl K0 Y (by exact ⟨congrArg Value.bool (CI (fun B:GY x=>by obtain ⟨⟨J,K,O,U⟩,_⟩:=B.all i r hr;omega)).symm,rfl⟩)
    refine Zf Y Y<|Yf 3 D4 V rfl A5 Y<|Yl AE Y ?_;refine Yg (Ep Y Y)<|Zf Y Y ?_;refine Ao (t:=97) Y V (fun o8=>?_) (fun o8=>?_)
    ·
     refine Zf Y Y<|Zf Y Y ?_
     (refine Gp Y (CL (n:=1) Y Y ?_ ?_) rfl rfl ?_;(focus (first|omega|(simp;omega)));(focus (first|omega|(simp;omega))))
     refine Yg (Au Y Y)<|Yg (AX Y Y)<|Zv (AL Y Y)<|Z0<|Zn [1,3,4,5,6,7,62,63,64,103] ?_;refine Zx<|Av Y (fun o9=>?_) (fun o9=>?_)
     ·
      refine A0<|A3 Y<|AJ<|Zt<|Ac<|Zt<|Zt<|Ac<|Zt<|AO rfl K0 Y (by exact ⟨congrArg Value.bool (CI (fun B:GY x=>by obtain ⟨⟨J,K,O,U⟩,_⟩:=B.all i r hr;omega)).symm,rfl⟩)
     refine AC<|Zn [1,3,4,5,6,7,62,63,64] ?_;refine BL (e':=[]) (by exact ⟨(),⟨by exact HS.1 dj,by omega,fun h=>by omega,fun h=>by omega⟩,V,V⟩)
    refine A7 Y V<|A7 Y V<|A7 Y V<|A7 Y V<|Yg (AL Y Y)<|Zv (AL Y Y)<|Z0<|Zn [1,3,4,5,6,7,62,63,64,103] ?_;refine Zx<|D5 Y<|AC<|Zn [1,3,4,5,6,7,62,63,64] ?_;refine BL (e':=[]) (by exact ⟨(),⟨by exact HS.1 dj,by omega,fun h=>by omega,fun h=>by omega⟩,V,V⟩)
   refine A7 Y V<|A7 Y V<|Yg (AL Y Y)<|Zv (AL Y Y)<|Zm Y<|Zf Y Y<|Yf 3 D4 V rfl A5 Y<|Yl AE Y ?_;refine Yg (Ep Y Y)<|Zf Y Y ?_;refine Ao (t:=97) Y V (fun p8=>?_) (fun p8=>?_)
   ·
    refine Zf Y Y<|Zf Y Y ?_
    (refine Gp Y (CL (n:=1) Y Y ?_ ?_) rfl rfl ?_;(focus (first|omega|(simp;omega)));(focus (first|omega|(simp;omega))))
    refine Yg (Au Y Y)<|Yg (AX Y Y)<|Zv (AL Y Y)<|Z0<|Zn [1,3,4,5,6,7,62,63,64,103] ?_;refine Zx<|Av Y (fun p9=>?_) (fun p9=>?_)
    ·
     refine A0<|A3 Y<|AJ<|Zt<|Ac<|Zt<|Zt<|Ac<|Zt<|AO rfl K0 Y (by exact ⟨congrArg Value.bool (CI (fun B:GY x=>by obtain ⟨⟨J,K,O,U⟩,_⟩:=B.all i r hr;omega)).symm,rfl⟩)
    refine AC<|Zn [1,3,4,5,6,7,62,63,64] ?_;refine BL (e':=[]) (by exact ⟨(),⟨by exact HS.1 dj,by omega,fun h=>by omega,fun h=>by omega⟩,V,V⟩)
   refine A7 Y V<|A7 Y V<|A7 Y V<|A7 Y V<|Yg (AL Y Y)<|Zv (AL Y Y)<|Z0<|Zn [1,3,4,5,6,7,62,63,64,103] ?_;refine Zx<|D5 Y<|AC<|Zn [1,3,4,5,6,7,62,63,64] ?_;refine BL (e':=[]) (by exact ⟨(),⟨by exact HS.1 dj,by omega,fun h=>by omega,fun h=>by omega⟩,V,V⟩)
  rintro _ _ ⟨u9,d9,rfl,rfl⟩;refine Zq<|Az (n:=30) (0::1::3::7::7::7::39::119::255::511::1023::1023::1023::5119::15359::32767::65535::131071::262143::131071::655359::131071::2228223::7995391::16383999::33161215::67108863::134217727::268435455::536870911::[]) 16512 A6 A6 V<|A2 0 V (AQ Y)<|A2 1 V (DF (n:=0) Y Y)<|A2 2 V (AQ Y)<|Db (t:=106) Y (fun ek=>?_) (fun ek=>?_)
  ·
   rw [DA ek];obtain ⟨q,hq⟩:∃q,x.rows[i -1]?=some q:=⟨_,B4 A1⟩;obtain ⟨g2,vw,gq,T2,ve,gy,qa,j5,ic⟩:=hg (i -1) q hq;injection gy with gy
   injection gy with e291 e292
   subst e291 e292;have sM:gq[off+(i -1)*5+1]?=some (I4 q.k):=by rw [PE ic j5 1 A1];rfl
   refine An 3 V (AQ Y)<|An 4 V (AQ Y)<|An 5 V (AQ Y) ?_
   (refine An 6 rfl (CL (n:=1) Y Y ?_ ?_) ?_;(focus (first|omega|(simp;omega)));(focus (first|omega|(simp;omega))))
   refine Yw 7 255 V (Zu [_] Y call301 Y V (H9 x vp vt hR A1 pb (i -1) q hq))<|CM<|An 8 V (Dq Y Y)<|An 9 V (AQ Y)<|Db (t:=113) Y (fun l5=>?_) (fun l5=>?_)
   ·
    rw [DA l5];refine AF 10 V<|AF 11 V<|AF 12 V<|AF 13 V<|AF 14 V<|AF 15 V<|AF 16 V<|AF 17 V<|AF 18 V<|AF 19 V<|AF 20 V<|AF 21 V<|AF 22 V<|AF 23 V<|AF 24 V<|AF 25 V<|AF 26 V<|AF 27 V<|An 28 V (AX Y Y)<|A2 29 V (AX Y Y)<|Ai<|Zn [1,3,4,62,63,64,133] ?_;refine Zx<|Cn Y<|A0<|A3 Y<|AJ<|Ac<|Zt<|Zt<|Ac<|Zt<|AO V K0 Y (by exact ⟨congrArg Value.bool (CI (fun B:GY x=>by have ha:=(B.all i r hr).2 ek q hq;unfold UD at ha;omega)).symm,V⟩)
   rw [CI l5];refine An 10 V (AQ Y)<|An 11 V (AQ Y)<|An 12 V (AQ Y) ?_
   (refine An 13 rfl (CL (n:=1) Y Y ?_ ?_) ?_;(focus (first|omega|(simp;omega)));(focus (first|omega|(simp;omega))))
   refine Yw 14 32767 V (Zu [_] Y call301 Y V (H9 x vp vt hR A1 pb (i -1) q hq))<|CM<|An 15 V (CP Y Y)<|An 16 V (AQ Y)<|Db (t:=120) Y (fun kv=>?_) (fun kv=>?_)
   ·
    rw [DA kv];refine An 17 V (AB (off:=1) Fi V rfl A5 Y)<|DQ 18 V Wh (BO AE Y AM) ?_;refine An 19 V (AB (off:=6) D4 V rfl C5 Y)<|DQ 20 V Wh (BO Fl Y AM) ?_;refine An 21 V (AQ Y) ?_
    (refine An 22 rfl (CL (n:=1) Y Y ?_ ?_) ?_;(focus (first|omega|(simp;omega)));(focus (first|omega|(simp;omega))))
    refine An 23 V (Ad B6 AW Y Y A1)<|An 24 V (Aq (off:=1) Fi V rfl A5 Y)<|Ot (b:=g) (x:= .cells gq T2 ve) (D':=67108863) 25 Y V rfl V (by simp [qa]) (BO AE Y (by exact sM)) ?_;refine An 26 V (Le Y Y)<|An 27 V (AX Y Y)<|An 28 V (AL Y Y)<|A2 29 V (AX Y Y)<|Ai<|Zn [1,3,4,62,63,64,133] ?_;refine Zx<|Av Y (fun sJ=>?_) (fun sJ=>?_)
    ·
     refine A0<|A3 Y<|AJ<|Ac<|Zt<|Zt<|Ac<|Zt<|AO V K0 Y (by exact ⟨congrArg Value.bool (CI (fun B:GY x=>by have ha:=(B.all i r hr).2 ek q hq;unfold UD at ha;omega)).symm,V⟩)
    refine AC<|A8<|Zx<|Zg<|Ya (n:=1) Y Y<|Zm Y<|Z0<|Zn [64,1,3,4,62,63] ?_;refine Aa (e':=[(64,_)]) (by
     exact ⟨i+1,V,⟨by omega,fun j r9 W G=>by
      rcases EV j i with B|B
      · exact Z j r9 B G
      · obtain rfl:j=i:=A1
        rw [hr]at G;injection G with G;subst G
        refine ⟨d9,fun pq q9 X=>?_⟩
        (rw [hq]at X;injection X with X;subst X;unfold UD;omega)⟩,rfl,rfl⟩)
   rw [CI kv];refine AF 17 V<|AF 18 V<|AF 19 V<|AF 20 V<|AF 21 V<|AF 22 V<|AF 23 V<|AF 24 V<|AF 25 V<|AF 26 V<|An 27 V (AL Y Y)<|An 28 V (AL Y Y)<|A2 29 V (AX Y Y)<|Ai<|Zn [1,3,4,62,63,64,133] ?_;refine Zx<|D5 Y<|AC<|A8<|Zx<|Zg<|Ya (n:=1) Y Y<|Zm Y<|Z0<|Zn [64,1,3,4,62,63] ?_;refine Aa (e':=[(64,_)]) (by
    exact ⟨i+1,V,⟨by omega,fun j r9 W G=>by
     rcases EV j i with B|B
     · exact Z j r9 B G
     · obtain rfl:j=i:=A1
       rw [hr]at G;injection G with G;subst G
       refine ⟨d9,fun pq q9 X=>?_⟩
       (rw [hq]at X;injection X with X;subst X;unfold UD;omega)⟩,rfl,rfl⟩)
  rw [CI ek];refine AF 3 V<|AF 4 V<|AF 5 V<|AF 6 V<|AF 7 V<|AF 8 V<|AF 9 V<|AF 10 V<|AF 11 V<|AF 12 V<|AF 13 V<|AF 14 V<|AF 15 V<|AF 16 V<|AF 17 V<|AF 18 V<|AF 19 V<|AF 20 V<|AF 21 V<|AF 22 V<|AF 23 V<|AF 24 V<|AF 25 V<|AF 26 V<|AF 27 V<|AF 28 V<|A2 29 V (AL Y Y)<|Ai<|Zn [1,3,4,62,63,64,133] ?_;refine Zx<|D5 Y<|AC<|A8<|Zx<|Zg<|Ya (n:=1) Y Y<|Zm Y<|Z0<|Zn [64,1,3,4,62,63] ?_;refine Aa (e':=[(64,_)]) (by
   exact ⟨i+1,V,⟨by omega,fun j r9 W G=>by
    rcases EV j i with B|B
    · exact Z j r9 B G
    · obtain rfl:j=i:=A1
      rw [hr]at G;injection G with G;subst G
      refine ⟨d9,fun pq q9 X=>?_⟩
      (exfalso;omega)⟩,rfl,rfl⟩)
 obtain ⟨r0,j3⟩:∃r,x.rows[0]?=some r:=⟨_,B4 A1⟩;obtain ⟨rl,gm⟩:∃r,x.rows[x.rows.length -1]?=some r:=⟨_,B4 A1⟩;have I:GY x↔(x.fi=0\/Bl r0 x.cl<x.lo)/\(x.fi+(x.rows.length:Int)=x.ct\/x.hi<Bl rl x.cl):=⟨fun h=>⟨h.first r0 j3,h.last rl gm⟩,fun h=>⟨by omega,by omega,by omega,by omega,by omega,fun h0=>absurd h0 hz,fun j r W=>Z j r (by have:=(BE.1 W).1;omega) W,fun r W=>by rw [j3]at W;injection W with W;rw [<-W];exact h.1,fun r W=>by rw [gm]at W;injection W with W;rw [<-W];exact h.2⟩⟩
 refine Ay<|Zt<|Zt<|AR<|Zx<|Zq<|Az (n:=29) (0::1::3::7::15::31::15::79::255::511::1023::2047::4095::2047::16383::2047::34815::131071::262143::524287::524287::1572863::4194303::524287::8912895::33554431::67108863::134217727::268435455::[]) 4194336 A6 A6 V<|A2 0 V (AB (off:=5) D4 V rfl A5 Y)<|B3 1 V AE Y ?_;refine A2 2 V (CP Y Y)<|A2 3 V (AQ Y)<|Db (t:=138) Y (fun ax=>?_) (fun ax=>?_)
 ·
  rw [DA ax];refine AF 4 V<|AF 5 V<|AF 6 V<|AF 7 V<|AF 8 V<|A2 9 V (AX Y Y)<|A2 10 V (AQ Y)<|An 11 V (AB (off:=5) D4 V rfl A5 Y)<|DQ 12 V Wh (BO AE Y AM) ?_;refine An 13 V (AQ Y) ?_
  (refine An 14 rfl (H6 Y Y (IntWalk.i64_in _ ?_)) ?_;(focus (first|omega|(simp;omega))))
  refine An 15 V (AB (off:=4) D4 V rfl A5 Y)<|DQ 16 V Wh (BO AE Y AM) ?_;refine An 17 V (CP Y Y)<|An 18 V (AQ Y)<|Db (t:=153) Y (fun bn=>?_) (fun bn=>?_)
  ·
   rw [DA bn];refine AF 19 V<|AF 20 V<|AF 21 V<|AF 22 V<|AF 23 V<|AF 24 V<|AF 25 V<|An 26 V (AX Y Y)<|A2 27 V (AX Y Y)<|A2 28 V (Aw Y)<|Ai<|Zn [2] ?_;refine Zx<|AJ<|AO V K0 Y (by exact ⟨by exact congrArg Value.bool (DA (I.2 ⟨by omega,by omega⟩)).symm,V⟩)
  rw [CI bn];refine An 19 V (AQ Y)<|An 20 V (AQ Y) ?_
  (refine An 21 rfl (CL (n:=1) Y Y ?_ ?_) ?_;(focus (first|omega|(simp;omega)));(focus (first|omega|(simp;omega))))
  refine An 23 V (AB (off:=3) D4 V rfl A5 Y)<|DQ 24 V Wh (BO AE Y AM) ?_;refine Yz 22 4194303 33554431 [24,16,12,1] [true,false,false,false] [(24,(_,_))] V Y V rfl V rfl (Zu [_] Y call301 Y V (H9 x vp vt hR A1 pb (x.rows.length -1) rl gm))<|CM<|B5<|An 25 V (Ep Y Y)<|An 26 V (AL Y Y)<|A2 27 V (AX Y Y)<|A2 28 V (Aw Y)<|Ai<|Zn [2] ?_;refine Zx<|AJ<|AO V K0 Y (by exact ⟨by exact Tw ⟨fun B=>I.2 ⟨by omega,by omega⟩,fun B=>by have:=I.1 B;omega⟩,V⟩)
 rw [CI ax];refine An 4 V (AQ Y)<|An 6 V (AB (off:=2) D4 V rfl A5 Y)<|DQ 7 V Wh (BO AE Y AM) ?_;refine Yz 5 31 255 [7,1] [true,false] [(7,(_,_))] V Y V rfl V rfl (Zu [_] Y call301 Y V (H9 x vp vt hR A1 pb 0 r0 j3))<|CM<|B5<|An 8 V (Dq Y Y)<|A2 9 V (AL Y Y)<|A2 10 V (AQ Y)<|Db (t:=145) Y (fun cu=>?_) (fun cu=>?_)
 ·
  rw [DA cu];refine An 11 V (AB (off:=5) D4 V rfl A5 Y)<|DQ 12 V Wh (BO AE Y AM) ?_;refine An 13 V (AQ Y) ?_
  (refine An 14 rfl (H6 Y Y (IntWalk.i64_in _ ?_)) ?_;(focus (first|omega|(simp;omega))))
  refine An 15 V (AB (off:=4) D4 V rfl A5 Y)<|DQ 16 V Wh (BO AE Y AM) ?_;refine An 17 V (CP Y Y)<|An 18 V (AQ Y)<|Db (t:=153) Y (fun cO=>?_) (fun cO=>?_)
  ·
   rw [DA cO];refine AF 19 V<|AF 20 V<|AF 21 V<|AF 22 V<|AF 23 V<|AF 24 V<|AF 25 V<|An 26 V (AX Y Y)<|A2 27 V (AX Y Y)<|A2 28 V (Aw Y)<|Ai<|Zn [2] ?_;refine Zx<|AJ<|AO V K0 Y (by exact ⟨by exact congrArg Value.bool (DA (I.2 ⟨by omega,by omega⟩)).symm,V⟩)
  rw [CI cO];refine An 19 V (AQ Y)<|An 20 V (AQ Y) ?_
  (refine An 21 rfl (CL (n:=1) Y Y ?_ ?_) ?_;(focus (first|omega|(simp;omega)));(focus (first|omega|(simp;omega))))
  refine An 23 V (AB (off:=3) D4 V rfl A5 Y)<|DQ 24 V Wh (BO AE Y AM) ?_;refine Yz 22 4194303 33554431 [24,16,12,7] [true,false,false,false] [(24,(_,_))] V Y V rfl V rfl (Zu [_] Y call301 Y V (H9 x vp vt hR A1 pb (x.rows.length -1) rl gm))<|CM<|B5<|An 25 V (Ep Y Y)<|An 26 V (AL Y Y)<|A2 27 V (AX Y Y)<|A2 28 V (Aw Y)<|Ai<|Zn [2] ?_;refine Zx<|AJ<|AO V K0 Y (by exact ⟨by exact Tw ⟨fun B=>I.2 ⟨by omega,by omega⟩,fun B=>by have:=I.1 B;omega⟩,V⟩)
 rw [CI cu];refine AF 11 V<|AF 12 V<|AF 13 V<|AF 14 V<|AF 15 V<|AF 16 V<|AF 17 V<|AF 18 V<|AF 19 V<|AF 20 V<|AF 21 V<|AF 22 V<|AF 23 V<|AF 24 V<|AF 25 V<|AF 26 V<|A2 27 V (AL Y Y)<|A2 28 V (Aw Y)<|Ai<|Zn [2] ?_;refine Zx<|AJ<|AO V K0 Y (by exact ⟨by exact congrArg Value.bool (CI (fun B=>by have:=I.1 B;omega)).symm,V⟩)
def inB(x:RP)(r:AU):Bool:=decide (x.lo<=Bl r x.cl/\Bl r x.cl<=x.hi)
noncomputable def EN(x:RP):List AU:=if GY x then x.rows.filter (inB x)else []
theorem cZ(h:GY x):EN x=x.rows.filter (inB x):=AK h
theorem yc(h:¬GY x):EN x=[]:=AH h
theorem tJ{i:Nat}{r:AU}(g:x.rows[i]?=some r)(h:inB x r=true):(x.rows.take (i+1)).filter (inB x)=(x.rows.take i).filter (inB x)++[r]:=by rw [Bh g,HU];simp [h]
theorem XK{i:Nat}{r:AU}(g:x.rows[i]?=some r)(h:inB x r=false):(x.rows.take (i+1)).filter (inB x)=(x.rows.take i).filter (inB x):=by rw [Bh g,HU];simp [h]
set_option maxHeartbeats 4000000 in
theorem ji(hv:Xl M v x):Ba prog 218 #[v] [M] (fun r H'=>∃vr sr,r= .tuple #[vr,.bool (decide (GY x))]/\Bc 5 83 vr (EN x).length (Ae (EN x)) sr/\H'=[sr,M]):=by
 have gy:=mL;obtain ⟨vr,vp,vt,rfl,hR,hP,hT⟩:=id hv;obtain ⟨p,cap,e9,hl,hg⟩:=id hR;subst e9;refine Se func218 ntmps218 [0] ?_;intro u R;refine A0<|Ze (Bx #[_,_,_,_,_,_,_,_,_])<|AD fun pb=>Za Y<|A3 Y<|Zq<|A0<|Zo Wh (AA (cs:=#[I4 x.tb,I4 x.cl,I4 x.lo,I4 x.hi,I4 x.ct,I4 x.fi,.slice p x.rows.length cap,vp,vt]) cE Kf Y As AM) ?_;refine Xr [_] Y call271 Y V (UW hv) ?_;refine Zv (DD Y)<|A4<|Av Y (fun B=>?_) (fun B=>?_)
 ·
  refine BV<|A0<|Za Y<|A3 Y<|AJ<|Zt<|Cu rfl results218 Y Y (by exact ⟨.slice none 0 0,[],by rw [CI B],by rw [yc B];exact Bf 5 _,rfl⟩)
 have B:=HS.1 B;have cO:=B.tc
 have d9:=B.ct;have ek:=B.n
 have gm:=B.fi;refine AC<|Zx<|A0<|A3 Y<|Zq<|A0<|Zh 6 D4 V rfl C5 Y<|Zl Fl Y ?_;refine Zv (Ab B6 Y)<|Zm Y<|A4<|AP<|BV<|Zb [4,14,1,12,13] ?_;refine BB (e0:=[(4,_),(14,_)]) (fun m e H=>∃(i:Nat) (vo:Value) (O:List A9),m=x.rows.length -i/\(i<=x.rows.length/\Bc 5 83 vo ((x.rows.take i).filter (inB x)).length (Ae ((x.rows.take i).filter (inB x))) O)/\e=[(4,vo),(14,I4 (i:Int))]/\H=[O]) (by exact ⟨0,.slice none 0 0,[],rfl,⟨C0 _,by rw [HX];exact Bf 5 _⟩,rfl,rfl⟩) Wp ?_;rintro _ _ _ ⟨i,vo,O,rfl,⟨hi,I⟩,rfl,rfl⟩;obtain ⟨qo,co,rfl⟩:=I.form;have gq:((x.rows.take i).filter (inB x)).length<=i:=N1 (Mu _ _) (List.length_take_le _ _)
 refine A0<|Zv (Au Y Y)<|A4<|Zq<|Av Y (fun W=>?_) (fun W=>?_)
 ·
  obtain ⟨r,K⟩:∃r,x.rows[i]?=some r:=⟨_,B4 W⟩;obtain ⟨g,off,cur,T,zz,rfl,af,ax,U⟩:=hg i r K;refine AC<|Zx<|Zq<|AP<|A0<|BX (Ad B6 AW Y Y A1)<|CO (cs:=[(g,.cells cur T zz)]) (by simp [af]) (AA (cs:=r.A16) CH AW Y A1 U) V rfl ?_;refine Ze (Al DP #[_,_,_,_,_])<|AD fun rb=>Xe (Xw AW r.A16) ?_;refine A4<|A0<|Zo Wh (AA (cs:=#[_,_,_,_,_]) CH AW Y As AM) ?_;refine Zh 1 D4 V rfl A5 Y<|Zl AE Y ?_;refine Xr [_,_] Y S7 Y V (Fs r x.cl A1) ?_;refine A3 Y<|A0<|Zm Y<|Zh 2 D4 V rfl A5 Y<|Zl AE Y ?_;refine Zv (H5 Y Y)<|Zm Y<|Ao (t:=26) Y V (fun X=>?_) (fun X=>?_)
  ·
   refine Zf Y Y<|Yf 3 D4 V rfl A5 Y<|Yl AE Y ?_;refine Yg (Le Y Y)<|Zv (AX Y Y)<|Z0<|Zn [1,4,6,12,13,14,31] ?_;refine Zx<|Av Y (fun Z=>?_) (fun Z=>?_)
   ·
    have G:inB x r=true:=DA A1;refine Zg<|Zm Y<|Zo Wh (AA (cs:=#[_,_,_,_,_]) CH AW Y As AM) ?_;refine Ze (Ah (vs:=[_]) (cs:=[_,_,_,_,_]) B6 AW DP Y V rfl V rfl V)<|AD fun gb=>Ze (BQ (by_:=40) (sz:=5) B6 (V:Tryz.prog.info? 83=some Tryz.t83) V rfl V rfl Y (I) Y (DJ 5 gb 1 1 83 (0,0) [I4 r.t,I4 r.k,I4 r.v.a,I4 r.v.b,I4 r.v.c] V) Wo Wo Fm A1 A1) ?_;rintro _ _ ⟨ic,J,rfl⟩;obtain ⟨cu,bn,rfl⟩:=J.form;refine AG Y<|A8<|Zx<|Zg<|Ya (n:=1) Y Y<|Zm Y<|Z0<|Zn [4,14,1,12,13] ?_;refine Aa (e':=[(4,_),(14,_)]) (by exact ⟨i+1,_,_,rfl,⟨by omega,BR J (by rw [tJ K G,B7];rfl) (by rw [tJ K G,Bi];rfl)⟩,rfl,rfl⟩)
   have G:inB x r=false:=CI A1;refine AC<|A8<|Zx<|Zg<|Ya (n:=1) Y Y<|Zm Y<|Z0<|Zn [4,14,1,12,13] ?_;refine Aa (e':=[(4,_),(14,_)]) (by exact ⟨i+1,_,O,rfl,⟨by omega,BR I (by rw [XK K G]) (by rw [XK K G])⟩,rfl,rfl⟩)
  have G:inB x r=false:=CI A1;refine A7 Y V<|A7 Y V<|A7 Y V<|A7 Y V<|Zv (AL Y Y)<|Z0<|Zn [1,4,6,12,13,14,31] ?_;refine Zx<|D5 Y<|AC<|A8<|Zx<|Zg<|Ya (n:=1) Y Y<|Zm Y<|Z0<|Zn [4,14,1,12,13] ?_;refine Aa (e':=[(4,_),(14,_)]) (by exact ⟨i+1,_,O,rfl,⟨by omega,BR I (by rw [XK K G]) (by rw [XK K G])⟩,rfl,rfl⟩)
 have ei:i=x.rows.length:=by omega
 subst ei;rw [FF]at I⊢;refine Ay<|Zt<|Zt<|AR<|Zx<|A0<|Zm Y<|Za Y<|A3 Y<|AJ<|Cu rfl results218 Y Y (by exact ⟨.slice qo _ co,O,by rw [DA B],by rw [cZ B];exact I,rfl⟩)
end Go.Proofs.YteaiajghbkenoaaGreatDoor
