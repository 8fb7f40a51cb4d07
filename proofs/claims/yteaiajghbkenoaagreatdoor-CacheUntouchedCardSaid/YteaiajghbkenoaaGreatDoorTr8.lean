/- statetree: Prove. -/
/- statetree: complete, Rows. -/
import Derived.Test.YteaiajghbkenoaaGreatDoorEz
import Derived.Test.YteaiajghbkenoaaGreatDoorTr6
import Derived.Test.YteaiajghbkenoaaGreatDoorEx36
set_option linter.unusedVariables false
set_option linter.unusedSimpArgs false
namespace Go.Proofs.YteaiajghbkenoaaGreatDoor
open Go.Proofs.Tryz
open Go Go.RowKit Gw
set_option maxRecDepth 100000
attribute [local irreducible] Gw.At Gw.Nx Gw.Ops
def Cb(pd:AU->Bool)(l:List AU):Nat:=(l.takeWhile (fun x=>!pd x)).length
theorem Gu(g:AU->Bool)(l:List AU):Cb g l<=l.length:=(List.takeWhile_sublist _).length_le
theorem Tq{g:AU->Bool}:∀{l:List AU} {i:Nat} {x:AU},l[i]?=some x->g x=true->(∀(j:Nat) (y:AU),j<i->l[j]?=some y->g y=false)->Cb g l=i
 |[],i,x,hx,_,_=>by simp at hx
 |z::l,0,x,hx,hp,_=>by
  simp only [X1,W1]at hx;subst hx;simp [Cb,hp]
 |z::l,i+1,x,hx,hp,hno=>by
  simp only [ab]at hx;have h0:=hno 0 z A1 rfl
  have m:=Tq (l:=l) hx hp (fun j y G B=>hno (j+1) y A1 B);unfold Cb at m⊢;rw [P2,AM (by simp [h0]),DH,m]
theorem Np{m:AU->Bool}:∀{l:List AU},(∀(j:Nat) (y:AU),l[j]?=some y->m y=false)->Cb m l=l.length
 |[],_=>rfl
 |z::l,hno=>by
  have h0:=hno 0 z rfl;have g:=Np (l:=l) (fun j y B=>hno (j+1) y B)
  unfold Cb at g⊢;rw [P2,AM (by simp [h0]),DH,g,DH]
def R8(n len:Nat):Int:=if n<len then(n:Int)else-1
def geV(c:Nat)(lo:Int)(r:AU):Bool:=decide (lo<=Df r c)
def gtV(c:Nat)(hi:Int)(r:AU):Bool:=decide (hi<Df r c)
theorem qT(v lo:Int)(bl:Nat):BI prog 174 #[I4 v,I5 bl] [[(bl,.cells #[I4 lo] 3 (0,0))]] (.bool (decide (lo<=v))):=by
 refine Se func174 ntmps174 [0,1] ?_;intro u R;refine A0<|A3 Y<|A0<|Zm Y<|Zl AE Y ?_;refine Zv (H9 Y Y)<|A3 Y<|AJ<|AP V results174 Y (by exact ⟨V,V⟩)
theorem tD(r:AU)(c:Nat)(hc:c<=3)(lo:Int)(m g bl:Nat):BI prog 173 #[.agg r.A29,I5 m,I5 g] [[(m,.cells #[.func (.func 174) #[] #[I5 bl]] 112 (0,0))],[(g,.cells #[I4 (c:Int)] 3 (0,0))],[(bl,.cells #[I4 lo] 3 (0,0))]] (.bool (geV c lo r)):=by
 refine Se func173 ntmps173 [0,1,2] ?_;intro u R;refine A0<|Ze (Bx #[_,_,_,_,_])<|AD fun B=>A3 Y<|Zq<|Az (n:=6) (0::0::0::6::15::31::[]) 24 A6 A6 V<|B3 0 V isAgg112 Y ?_;refine E6 1 V Wh (Pa #[_,_,_,_,_] CI An Y) ?_;refine B3 2 V AE Y ?_;refine Yz 3 6 15 [2,1,0] [false,false,true] [(0,(_,_))] V Y V rfl V rfl (Zu [_,_] Y S8 Y V (OQ r c hc))<|CT<|B5<|Yw 4 31 V (Zu [_] Y call174 Y V (qT (Df r c) lo bl))<|CT<|A2 5 V (Aw Y)<|Ah<|Zx<|AJ<|AP V results173 Y (by exact ⟨V,V⟩)
variable{M:List A9}{v:Value}{L:List AU}
theorem td(hv:De M v L)(hn:L.length<=1000000)(c:Nat)(hc:c<=3)(lo:Int)(O K bl:Nat):BI prog 172 #[v,.func (.func 173) #[] #[I5 O,I5 K]] [[(O,.cells #[.func (.func 174) #[] #[I5 bl]] 112 (0,0))],[(K,.cells #[I4 (c:Int)] 3 (0,0))],[(bl,.cells #[I4 lo] 3 (0,0))],M] (I4 (R8 (Cb (geV c lo) L) L.length)):=by
 have ax:=mL;obtain ⟨p,cap,rfl,hl,hg⟩:=hv;refine Se func172 ntmps172 [0,1] ?_;intro u R;refine A0<|A3 Y<|Zq<|A0<|Zm Y<|Zv (Aa B6 Y)<|Zm Y<|A4<|AQ<|Zb [8,0,1,7] ?_;refine BB (e0:=[(8,_)]) (fun m e H=>∃(i:Nat),m=L.length -i/\(i<=L.length/\∀(j:Nat) (y:AU),j<i->L[j]?=some y->geV c lo y=false)/\e=[(8,I4 (i:Int))]/\H=[]) (by exact ⟨0,V,⟨C0 _,by intro j y hj;omega⟩,V,V⟩) Wp ?_;rintro _ _ _ ⟨i,rfl,⟨hi,I⟩,rfl,rfl⟩;refine A0<|Zv (Av Y Y)<|A4<|Zq<|Au Y (fun G=>?_) (fun G=>?_)
 ·
  obtain ⟨x,Z⟩:∃x,L[i]?=some x:=⟨_,B4 G⟩;obtain ⟨g,off,cur,T,zz,rfl,W,af,J⟩:=hg i x Z;refine AC<|Zx<|Zq<|AQ<|A0<|Zm Y<|A3 Y<|A0<|Zm Y<|Zm Y<|Zm Y<|BX (Ac B6 An Y Y A1)<|CQ (cs:=[(g,.cells cur T zz)]) (by simp [W]) (AA (cs:=x.A29) CI An Y A1 J) V rfl ?_;refine Xr [_] Y call173 Y V (tD x c hc lo O K bl) ?_;refine A4<|AX Y (fun X=>?_) (fun X=>?_)
  ·
   refine A0<|Zm Y<|A3 Y<|AJ<|Ae<|Zt<|Zt<|Ae<|Zt<|AP rfl ew Y (by exact ⟨by rw [Tq Z X I];unfold R8;rw [AM G],rfl⟩)
  refine AC<|A8<|Zx<|Zg<|Ya (n:=1) Y Y<|Zm Y<|Z0<|Zn [8,0,1,7] ?_;refine Ab (e':=[(8,_)]) (by exact ⟨i+1,rfl,⟨by omega,fun j y hj B=>by rcases Dg j i with h9|h9;exact I j y h9 B;obtain rfl:j=i:=A1;rw [Z]at B;injection B with B;rw [<-B];exact X⟩,rfl,rfl⟩)
 have U:Cb (geV c lo) L=L.length:=Np (fun j y B=>I j y (by have:=(B9.1 B).1;omega) B);refine Ay<|Zt<|Zt<|AR<|Zx<|A0<|A3 Y<|AJ<|AP rfl ew Y (by exact ⟨by rw [U];unfold R8;rw [AK A1],rfl⟩)
theorem qn{J X:Value}(hv:De M J L)(W:L.length<=1000000)(c:Nat)(hc:c<=3)(lo:Int)(I m bl:Nat):BI prog 171 #[.func (.func 174) #[] #[I5 bl],I5 I,I5 m] [[(I,.cells #[J,X] 262 (0,0))],[(m,.cells #[I4 (c:Int)] 3 (0,0))],[(bl,.cells #[I4 lo] 3 (0,0))],M] (I4 ((Cb (geV c lo) L:Nat):Int)):=by
 have U:=mL;obtain ⟨p,cap,rfl,hl,Z⟩:=id hv;have O:=Gu (geV c lo) L
 refine Se func171 ntmps171 [0,1,2] ?_;intro u R;refine A0<|Ze (Bx #[_])<|AD fun K=>A3 Y<|A0<|Zh 0 Mp V rfl C6 Y<|Zl FA Y ?_;refine Zv (Bg (vs:=[]) (us:=[_,_]) Y Y)<|Xr [_,_] Y call172 Y V (td hv W c hc lo K m bl) ?_;refine A3 Y<|Zq<|A0<|Zm Y<|Zv (Dt Y Y)<|A4<|Au Y (fun g=>?_) (fun g=>?_)
 ·
  have B:Cb (geV c lo) L=L.length:=by
   rcases Dg (Cb (geV c lo) L) L.length with h9|h9
   · unfold R8 at g;rw [AM h9]at g;omega
   · omega
  refine A0<|Zh 0 Mp V rfl C6 Y<|Zl FA Y ?_;refine Zv (Aa B6 Y)<|AG Y<|Zn [4] ?_;refine Zx<|AJ<|Zt<|AP rfl results171 Y (by exact ⟨by rw [B],rfl⟩)
 have G:Cb (geV c lo) L<L.length:=by
  rcases Dg (Cb (geV c lo) L) L.length with h9|h9
  · exact h9
  · unfold R8 at g;rw [AK A1]at g;omega
 refine AC<|Zx<|A0<|Zm Y<|A3 Y<|AJ<|AP rfl results171 Y (by exact ⟨by unfold R8;rw [AM G],rfl⟩)
theorem qS(v lo:Int)(bl:Nat):BI prog 175 #[I4 v,I5 bl] [[(bl,.cells #[I4 lo] 3 (0,0))]] (.bool (decide (lo<v))):=by
 refine Se func175 ntmps175 [0,1] ?_;intro u R;refine A0<|A3 Y<|A0<|Zm Y<|Zl AE Y ?_;refine Zv (Er Y Y)<|A3 Y<|AJ<|AP V results175 Y (by exact ⟨V,V⟩)
theorem tB(r:AU)(c:Nat)(hc:c<=3)(lo:Int)(m g bl:Nat):BI prog 173 #[.agg r.A29,I5 m,I5 g] [[(m,.cells #[.func (.func 175) #[] #[I5 bl]] 112 (0,0))],[(g,.cells #[I4 (c:Int)] 3 (0,0))],[(bl,.cells #[I4 lo] 3 (0,0))]] (.bool (gtV c lo r)):=by
 refine Se func173 ntmps173 [0,1,2] ?_;intro u R;refine A0<|Ze (Bx #[_,_,_,_,_])<|AD fun B=>A3 Y<|Zq<|Az (n:=6) (0::0::0::6::15::31::[]) 24 A6 A6 V<|B3 0 V isAgg112 Y ?_;refine E6 1 V Wh (Pa #[_,_,_,_,_] CI An Y) ?_;refine B3 2 V AE Y ?_;refine Yz 3 6 15 [2,1,0] [false,false,true] [(0,(_,_))] V Y V rfl V rfl (Zu [_,_] Y S8 Y V (OQ r c hc))<|CT<|B5<|Yw 4 31 V (Zu [_] Y call175 Y V (qS (Df r c) lo bl))<|CT<|A2 5 V (Aw Y)<|Ah<|Zx<|AJ<|AP V results173 Y (by exact ⟨V,V⟩)
theorem tW(hv:De M v L)(hn:L.length<=1000000)(c:Nat)(hc:c<=3)(lo:Int)(O K bl:Nat):BI prog 172 #[v,.func (.func 173) #[] #[I5 O,I5 K]] [[(O,.cells #[.func (.func 175) #[] #[I5 bl]] 112 (0,0))],[(K,.cells #[I4 (c:Int)] 3 (0,0))],[(bl,.cells #[I4 lo] 3 (0,0))],M] (I4 (R8 (Cb (gtV c lo) L) L.length)):=by
 have ax:=mL;obtain ⟨p,cap,rfl,hl,hg⟩:=hv;refine Se func172 ntmps172 [0,1] ?_;intro u R;refine A0<|A3 Y<|Zq<|A0<|Zm Y<|Zv (Aa B6 Y)<|Zm Y<|A4<|AQ<|Zb [8,0,1,7] ?_;refine BB (e0:=[(8,_)]) (fun m e H=>∃(i:Nat),m=L.length -i/\(i<=L.length/\∀(j:Nat) (y:AU),j<i->L[j]?=some y->gtV c lo y=false)/\e=[(8,I4 (i:Int))]/\H=[]) (by exact ⟨0,V,⟨C0 _,by intro j y hj;omega⟩,V,V⟩) Wp ?_;rintro _ _ _ ⟨i,rfl,⟨hi,I⟩,rfl,rfl⟩;refine A0<|Zv (Av Y Y)<|A4<|Zq<|Au Y (fun G=>?_) (fun G=>?_)
 ·
  obtain ⟨x,Z⟩:∃x,L[i]?=some x:=⟨_,B4 G⟩;obtain ⟨g,off,cur,T,zz,rfl,W,af,J⟩:=hg i x Z;refine AC<|Zx<|Zq<|AQ<|A0<|Zm Y<|A3 Y<|A0<|Zm Y<|Zm Y<|Zm Y<|BX (Ac B6 An Y Y A1)<|CQ (cs:=[(g,.cells cur T zz)]) (by simp [W]) (AA (cs:=x.A29) CI An Y A1 J) V rfl ?_;refine Xr [_] Y call173 Y V (tB x c hc lo O K bl) ?_;refine A4<|AX Y (fun X=>?_) (fun X=>?_)
  ·
   refine A0<|Zm Y<|A3 Y<|AJ<|Ae<|Zt<|Zt<|Ae<|Zt<|AP rfl ew Y (by exact ⟨by rw [Tq Z X I];unfold R8;rw [AM G],rfl⟩)
  refine AC<|A8<|Zx<|Zg<|Ya (n:=1) Y Y<|Zm Y<|Z0<|Zn [8,0,1,7] ?_;refine Ab (e':=[(8,_)]) (by exact ⟨i+1,rfl,⟨by omega,fun j y hj B=>by rcases Dg j i with h9|h9;exact I j y h9 B;obtain rfl:j=i:=A1;rw [Z]at B;injection B with B;rw [<-B];exact X⟩,rfl,rfl⟩)
 have U:Cb (gtV c lo) L=L.length:=Np (fun j y B=>I j y (by have:=(B9.1 B).1;omega) B);refine Ay<|Zt<|Zt<|AR<|Zx<|A0<|A3 Y<|AJ<|AP rfl ew Y (by exact ⟨by rw [U];unfold R8;rw [AK A1],rfl⟩)
theorem qk{J X:Value}(hv:De M J L)(W:L.length<=1000000)(c:Nat)(hc:c<=3)(lo:Int)(I m bl:Nat):BI prog 171 #[.func (.func 175) #[] #[I5 bl],I5 I,I5 m] [[(I,.cells #[J,X] 262 (0,0))],[(m,.cells #[I4 (c:Int)] 3 (0,0))],[(bl,.cells #[I4 lo] 3 (0,0))],M] (I4 ((Cb (gtV c lo) L:Nat):Int)):=by
 have U:=mL;obtain ⟨p,cap,rfl,hl,Z⟩:=id hv;have O:=Gu (gtV c lo) L
 refine Se func171 ntmps171 [0,1,2] ?_;intro u R;refine A0<|Ze (Bx #[_])<|AD fun K=>A3 Y<|A0<|Zh 0 Mp V rfl C6 Y<|Zl FA Y ?_;refine Zv (Bg (vs:=[]) (us:=[_,_]) Y Y)<|Xr [_,_] Y call172 Y V (tW hv W c hc lo K m bl) ?_;refine A3 Y<|Zq<|A0<|Zm Y<|Zv (Dt Y Y)<|A4<|Au Y (fun g=>?_) (fun g=>?_)
 ·
  have B:Cb (gtV c lo) L=L.length:=by
   rcases Dg (Cb (gtV c lo) L) L.length with h9|h9
   · unfold R8 at g;rw [AM h9]at g;omega
   · omega
  refine A0<|Zh 0 Mp V rfl C6 Y<|Zl FA Y ?_;refine Zv (Aa B6 Y)<|AG Y<|Zn [4] ?_;refine Zx<|AJ<|Zt<|AP rfl results171 Y (by exact ⟨by rw [B],rfl⟩)
 have G:Cb (gtV c lo) L<L.length:=by
  rcases Dg (Cb (gtV c lo) L) L.length with h9|h9
  · exact h9
  · unfold R8 at g;rw [AK A1]at g;omega
 refine AC<|Zx<|A0<|Zm Y<|A3 Y<|AJ<|AP rfl results171 Y (by exact ⟨by unfold R8;rw [AM G],rfl⟩)
theorem Qo(t c:Int):BI prog 169 #[I4 t,I4 c] [] (.bool (decide ((0<=t/\t<4)/\0<=c/\c<4))):=by
 refine Se func169 ntmps169 [0,1] ?_;intro u R;refine A0<|A3 Y<|A0<|Zm Y<|Zv (H9 Y Y)<|Zm Y<|Am (t:=7) Y V (fun g=>?_) (fun g=>?_)
 ·
  refine Zf Y Y<|Yg (Dt Y Y)<|Zv (AV Y Y)<|Zm Y<|Am (t:=11) Y V (fun h2=>?_) (fun h2=>?_)
  ·
   refine Zf Y Y<|Yg (H9 Y Y)<|Zv (AV Y Y)<|Zm Y<|Am (t:=15) Y V (fun m=>?_) (fun m=>?_)
   ·
    refine Zf Y Y<|Yg (Dt Y Y)<|Zv (AV Y Y)<|AG Y<|Zn [4] ?_;refine Zx<|AJ<|AP V results169 Y (by exact ⟨by exact congrArg Value.bool (decide_eq_decide.2 A1),V⟩)
   refine A7 Y V<|A7 Y V<|Zv (AL Y Y)<|AG Y<|Zn [4] ?_;refine Zx<|AJ<|AP V results169 Y (by exact ⟨by exact congrArg Value.bool (C4 A1).symm,V⟩)
  refine A7 Y V<|A7 Y V<|Zv (AL Y Y)<|Zm Y<|A7 Y V<|A7 Y V<|Zv (AL Y Y)<|AG Y<|Zn [4] ?_;refine Zx<|AJ<|AP V results169 Y (by exact ⟨by exact congrArg Value.bool (C4 A1).symm,V⟩)
 repeat first|refine A7 Y rfl ?_|refine Zv (AL Y Y)<|Zm Y ?_
 refine Zv (AL Y Y)<|AG Y<|Zn [4] ?_;refine Zx<|AJ<|AP V results169 Y (by exact ⟨by exact congrArg Value.bool (C4 A1).symm,V⟩)
structure RP where
 tb:Int
 cl:Int
 lo:Int
 hi:Int
 ct:Int
 fi:Int
 rows:List AU
 paths:List (List Bs)
 roots:List Bs
deriving DecidableEq
def Br(L:List AU)(c:Nat)(lo:Int):Nat:=Cb (geV c lo) L -1
def toT(L:List AU)(c:Nat)(hi:Int):Nat:=min (Cb (gtV c hi) L+1) L.length
def J8(L:List AU)(f k:Nat):List (List Bs):=(List.range k).map fun j=>FC (Nr L) (f+j)
def El(rs:List AU)(t c:Nat)(lo hi:Int):RP:=
 ⟨t,c,lo,hi,(BG rs (t:Int) c).length,(Br (BG rs (t:Int) c) c lo:Nat),((BG rs (t:Int) c).drop (Br (BG rs (t:Int) c) c lo)).take (toT (BG rs (t:Int) c) c hi -Br (BG rs (t:Int) c) c lo),
   J8 (BG rs (t:Int) c) (Br (BG rs (t:Int) c) c lo) (toT (BG rs (t:Int) c) c hi -Br (BG rs (t:Int) c) c lo),bV rs⟩
def Jr(M:List A9)(pvs:List Value)(ps:List (List Bs)):Prop:=pvs.length=ps.length/\∀(i:Nat) (v:Value) (l:List Bs),pvs[i]?=some v->ps[i]?=some l->ET M v l
theorem Q4(M:List A9):Jr M [] []:=⟨rfl,by intro i v l h;simp at h⟩
theorem Jr.snoc{B:List A9}{g:List Value}{ps:List (List Bs)}(h:Jr M g ps){l:List Bs}(hv:ET B v l)(I:∀c∈M,c∈B):Jr B (g++[v]) (ps++[l]):=by
 obtain ⟨G,h2⟩:=h;refine ⟨by rw [B7,B7,G];rfl,?_⟩;intro i w k hi m;rcases Dg i g.length with h9|h9
 · rw [Wr h9]at hi
   rw [Wr A1]at m;exact (h2 i w k hi m).mono I
 · rw [OS h9]at hi
   rw [OS A1]at m;rw [G]at hi;cases h:i -ps.length with
   |zero=>rw [h]at hi m;simp at hi m;rw [<-hi,<-m];exact hv
   |succ n=>rw [h]at hi;simp at hi
theorem Qf(L:List AU)(f k:Nat):J8 L f (k+1)=J8 L f k++[FC (Nr L) (f+k)]:=by unfold J8;rw [gh,Bm];rfl
theorem df(L:List AU)(f k:Nat):(J8 L f k).length=k:=by unfold J8;rw [B2,ar]
theorem iW{e:TypeId}{n:Nat}{xs:List Value}{s:List A9}(h:Bb 1 e v n xs s):n<=maxLen:=by
 obtain ⟨_,⟨_,h0,_⟩|⟨_,_,_,_,_,_,g,h2,_⟩⟩:=h
 · omega
 · omega
theorem Y7(rs:List AU):(bV rs).length=16:=by unfold bV;rw [B2];rfl
set_option maxHeartbeats 4000000 in
theorem dR(v:Value)(p:Int)(rs:List AU)(s:List A9)(hv:RG v p rs s)(hs:BP rs)(hn:rs.length<=2000)(ic:∀r∈rs,r.ok)(t c:Nat)(ht:t<=3)(hc:c<=3)(lo hi:Int)(qw:lo<=hi)(Tg:TypeId)(zg:Nat×Nat):
 BZ prog 103 #[v,I4 (t:Int),I4 (c:Int),I4 lo,I4 hi] [[(4,.cells (Eo.map Ct).toArray Tg zg)],s] (fun r H'=>∃vr vp vt O sp J X so,r= .tuple #[.agg #[I4 (t:Int),I4 (c:Int),I4 lo,I4 hi,I4 (((BG rs (t:Int) c).length:Nat):Int),I4 (((Br (BG rs (t:Int) c) c lo):Nat):Int),vr,vp,vt],I4 0]/\Bb 5 83 vr (((BG rs (t:Int) c).drop (Br (BG rs (t:Int) c) c lo)).take ((toT (BG rs (t:Int) c) c hi) -(Br (BG rs (t:Int) c) c lo))).length (Af (((BG rs (t:Int) c).drop (Br (BG rs (t:Int) c) c lo)).take ((toT (BG rs (t:Int) c) c hi) -(Br (BG rs (t:Int) c) c lo)))) O/\Bb 1 45 vp ((toT (BG rs (t:Int) c) c hi) -(Br (BG rs (t:Int) c) c lo)) J sp/\Jr X J (J8 (BG rs (t:Int) c) (Br (BG rs (t:Int) c) c lo) ((toT (BG rs (t:Int) c) c hi) -(Br (BG rs (t:Int) c) c lo)))/\Bb 1 9 vt 16 ((bV rs).map G9) so/\H'=[O,sp,X,so,[(4,.cells (Eo.map Ct).toArray Tg zg)],s]):=by
 have r9:=mL;obtain ⟨sO,sM,qa,q9,sJ,rfl,pz⟩:=id hv;have qz:=JB hs (t:Int) c
 have qj:=Gu (geV c lo) (BG rs (t:Int) c);have ql:=Gu (gtV c hi) (BG rs (t:Int) c)
 have qo:(Br (BG rs (t:Int) c) c lo)=Cb (geV c lo) (BG rs (t:Int) c) -1:=rfl;have sw:(toT (BG rs (t:Int) c) c hi)=min (Cb (gtV c hi) (BG rs (t:Int) c)+1) (BG rs (t:Int) c).length:=rfl
 refine Se func103 ntmps103 [0,1,2,3,4] ?_;intro u R;refine A0<|Ze (Bx #[_])<|AD fun bc=>Ze (Bx #[_])<|AD fun bl=>Ze (Bx #[_])<|AD fun bh=>Ze (Al cC #[_,_,_,_,_,_,_,_,_])<|AD fun qb=>A3 Y<|Zq<|AQ<|A0<|Zm Y<|Zv (Be lO Y Y)<|A3 Y<|AX Y (fun h1=>by cases h1)<|fun h1=>A0<|Zm Y<|Zl AE Y ?_;refine Xr [_,_] Y call169 Y V (Qo (t:Int) (c:Int)) ?_;rw [CM (show((0<=(t:Int)/\(t:Int)<4)/\0<=(c:Int)/\(c:Int)<4) by omega)];refine Zv (Bo Y)<|Zm Y<|Ag (t:=29) Y V (fun h2=>by cases h2)<|fun h2=>Yl AE Y ?_;refine Yl AE Y ?_;refine Yg (Er Y Y)<|Zv (AL Y Y)<|AG Y<|Zn [0,1,7,8,9,10,24] ?_;refine Zx<|Au Y (fun h3=>by omega)<|fun h3=>AC<|A8<|Zx<|A0<|Zm Y<|Zm Y<|Zl AE Y ?_;refine Zc [_,_,_] Y call170 Y V (TC _ p rs s hv hs hn ic (t:Int) c hc) ?_;rintro _ _ ⟨_,⟨vr,ve,sr,se,rfl,hO,rfl⟩,rfl⟩;obtain ⟨qr,cr,rfl⟩:=hO.1.form;obtain ⟨qe,ce,rfl⟩:=hO.2.form;have l8:=DU hO.1 A1
 have p8:ET se (.slice qe (BG rs (t:Int) c).length ce) (Nr (BG rs (t:Int) c)):=Gc (BS hO.2 (GL _).symm rfl) (by rw [GL];omega);obtain ⟨p9,pq,e9,sj,hg⟩:=id l8;injection e9 with e91 e92 e93
 subst e91 e93;refine Ze (Al ia #[_,_])<|AD fun ob=>Xe (Xw fX #[.slice qr (BG rs (t:Int) c).length cr,.slice qe (BG rs (t:Int) c).length ce]) ?_;refine A4<|A0<|Zv (Bg (vs:=[]) (us:=[_,_]) Y Y)<|A3 Y<|A0<|Zm Y<|Zv (Bg (vs:=[]) (us:=[_]) Y Y)<|Xr [_] Y call171 Y V (qn l8 A1 c hc lo ob bc bl) ?_
 (refine BX (GG Y Y (IntWalk.i64_in _ ?_)) ?_;(focus (omega)))
 refine Zv (eF Y Y)<|AG Y<|Zn [0,1,7,8,9,10,12,13,14] ?_;refine Zx<|Zq<|Az (n:=9) (0::0::3::7::0::16::48::127::255::[]) 4 A6 A6 V<|A2 0 V (AO Y)<|A2 1 V (Bg (vs:=[]) (us:=[_]) Y Y)<|A2 4 V (AB (off:=0) Mp V rfl C6 Y)<|B3 5 V FA Y ?_;refine A2 6 V (Aa B6 Y)<|Zz (l:=[2])<|B1 [true] [(5,(_,_))] V rfl (Zu [_] Y call171 Y V (qk l8 A1 c hc hi ob bc bh)) ?_ (fun _ _ h=>h.elim) Ai;rintro _ _ ⟨rfl,rfl⟩;refine B5<|A2 3 V (Dm (n:=1) Y Y A1)<|A2 7 V (Q8 Y Y)<|A2 8 V (Aw Y)<|Ah<|Zx<|Zq<|Az (n:=13) (0::0::0::0::0::16::48::0::0::256::1023::0::4095::[]) 6656 A6 A6 V<|A2 0 V (AO Y)<|B3 1 V AE Y ?_;refine B3 2 V AE Y ?_;refine B3 3 V AE Y ?_;refine A2 4 V (AB (off:=0) Mp V rfl C6 Y)<|B3 5 V FA Y ?_;refine A2 6 V (Aa B6 Y)<|A2 7 V (AO Y)<|A2 8 V (AO Y)<|Zz (l:=[9,11])<|B1 [true,true,true,true] [(5,(_,_)),(3,(_,_)),(2,(_,_)),(1,(_,_))] V rfl (Zw [_] Y call176 Y V (Uw _ p rs s hv hs hn ic Tg zg)) ?_ Bz ?_
 ·
  rintro _ _ ⟨_,⟨so,j3,rfl⟩,rfl⟩;refine ⟨Zk (Zk (Zk (Zk (AZ)))),?_⟩;obtain ⟨qt,ct,rfl⟩:=j3.form;refine A2 10 V (BL (vs:=[(0,I4 (t:Int)),(1,I4 (c:Int)),(2,I4 lo),(3,I4 hi),(4,I4 (((BG rs (t:Int) c).length:Nat):Int)),(5,I4 (((Br (BG rs (t:Int) c) c lo):Nat):Int)),(8,.slice qt 16 ct)]) (cs:=#[I4 (t:Int),I4 (c:Int),I4 lo,I4 hi,I4 (((BG rs (t:Int) c).length:Nat):Int),I4 (((Br (BG rs (t:Int) c) c lo):Nat):Int),.slice none 0 0,.slice none 0 0,.slice qt 16 ct]) Y (AY (pl:=#[(0,1),(1,1),(2,1),(3,1),(4,1),(5,1),(6,1),(7,1),(8,1)]) cC D4 (fun _=>by kernel_rfl) A6))<|Yz 11 0 4095 [5,3,2,1] [true,true,true,true] [(5,(_,_)),(3,(_,_)),(2,(_,_)),(1,(_,_))] V Y V rfl V rfl (Al cC #[_,_,_,_,_,_,_,_,_])<|AD fun pb=>B5<|Yw 12 8191 V (Xw L7 #[I4 (t:Int),I4 (c:Int),I4 lo,I4 hi,I4 (((BG rs (t:Int) c).length:Nat):Int),I4 (((Br (BG rs (t:Int) c) c lo):Nat):Int),.slice none 0 0,.slice none 0 0,.slice qt 16 ct])<|CT<|Ah<|Zn [10,12,14,15,16] ?_;refine Zx<|Zq<|A0<|Zm Y<|A3 Y<|AQ<|BV<|BV<|BV<|Zb [17,10,12,15,16] ?_;refine BB (e0:=[(17,_)]) (fun m e H=>∃(k:Nat) (cu:Value) (O:List A9) (vp:Value) (sp:List A9) (J:List Value) (X:List A9),m=(toT (BG rs (t:Int) c) c hi) -(Br (BG rs (t:Int) c) c lo) -k/\(k<=(toT (BG rs (t:Int) c) c hi) -(Br (BG rs (t:Int) c) c lo)/\Bb 5 83 cu k (Af (((BG rs (t:Int) c).drop (Br (BG rs (t:Int) c) c lo)).take k)) O/\Bb 1 45 vp k J sp/\Jr X J (J8 (BG rs (t:Int) c) (Br (BG rs (t:Int) c) c lo) k))/\e=[(17,I4 (((Br (BG rs (t:Int) c) c lo)+k:Nat):Int))]/\H=[[(pb,.cells #[I4 (t:Int),I4 (c:Int),I4 lo,I4 hi,I4 (((BG rs (t:Int) c).length:Nat):Int),I4 (((Br (BG rs (t:Int) c) c lo):Nat):Int),cu,vp,.slice qt 16 ct] 152 (0,0))],O,sp,X]) (by exact ⟨0,.slice none 0 0,[],.slice none 0 0,[],[],[],rfl,⟨C0 _,by rw [Hx];exact Bf 5 _,Bf 1 _,Q4 _⟩,rfl,rfl⟩) Wp ?_;rintro _ _ _ ⟨k,cu,O,vp,sp,J,X,rfl,⟨hk,W,U,hP⟩,rfl,rfl⟩;obtain ⟨q2,c2,rfl⟩:=W.form;obtain ⟨q3,c3,rfl⟩:=U.form
  refine Zq<|A0<|Zm Y<|Zm Y<|Zv (Av Y Y)<|A4<|Au Y (fun l9=>?_) (fun l9=>?_)
  ·
   obtain ⟨x,hx⟩:∃x,(BG rs (t:Int) c)[(Br (BG rs (t:Int) c) c lo)+k]?=some x:=⟨_,B4 A1⟩;obtain ⟨g,off,cur,T,zz,rfl,o8,pg,gB⟩:=hg _ x hx;have bn:((BG rs (t:Int) c).drop (Br (BG rs (t:Int) c) c lo))[k]?=some x:=by rw [PA];exact hx
   refine AC<|Zx<|Zq<|AQ<|A0<|Zh 1 Mp V rfl HH Y<|Zl Kf Y ?_;refine Zm Y<|Zc [_,_] Y call177 Y rfl (Sc p8 (by rw [GL];omega) (fun s h=>by have:=XX (fun r hr=>ic r (MO hr)) s h;omega) ((Br (BG rs (t:Int) c) c lo)+k) (by rw [GL];omega) Tg zg) ?_;rintro _ _ ⟨_,⟨o9,I,rfl,K,rfl⟩,rfl⟩;have ax:(FC (Nr (BG rs (t:Int) c)) ((Br (BG rs (t:Int) c) c lo)+k)).length<=maxLen:=iW K
   have l5:=Gc K ax;have af:=Qf (BG rs (t:Int) c) (Br (BG rs (t:Int) c) c lo) k▸hP.snoc (l5.mono (fun c h=>DP X h)) (fun c h=>Fm I h)
   obtain ⟨qx,cx,rfl⟩:=K.form;refine Zm Y<|Zd Y V<|Zd Y V<|Za Y<|A3 Y<|CK (s1:=I) (s2:=X) Wo Wo ?_;refine Az (n:=18) (0::1::0::4::0::28::60::124::255::0::512::0::2048::8191::2047::32767::65535::131071::[]) 176512 A6 A6 V<|A2 0 V (AB (off:=6) D4 V rfl C6 Y)<|B3 1 V FA Y ?_;refine A2 2 V (AB (off:=0) Mp V rfl C6 Y)<|B3 3 V FA Y ?_;refine A2 4 V (AO Y)<|A2 5 V (Ac B6 An Y Y A1)<|D8 (b:=g) (x:= .cells cur T zz) (D':=127) 6 V rfl V (by simp [o8]) (AA (cs:=x.A29) CI An Y A1 gB) ?_;refine A2 9 V (AB (off:=7) D4 V rfl Kd Y)<|B3 10 V isAgg150 Y ?_;refine A2 11 V (AO Y)<|Zz (l:=[7,12])<|B1 [true,false,false,true] [(10,(_,_)),(1,(_,_))] V rfl (Aj (vs:=[_]) (cs:=[_,_,_,_,_]) B6 An DS Y V rfl V rfl V) ?_ (fun _ _ h=>h.elim) ?_
   ·
    rintro _ _ ⟨Z,rfl,rfl⟩;refine B5<|Zz (l:=[8,12])<|B1 [true,false] [(10,(_,_))] V rfl (BR (by_:=40) (sz:=5) B6 (V:Tryz.prog.info? 83=some Tryz.t83) V rfl V rfl Y (W) Y (DC 5 Z 1 1 83 (0,0) [I4 x.t,I4 x.k,I4 x.v.a,I4 x.v.b,I4 x.v.c] V) Wo Wo Fl A1 A1) ?hk_7 (fun _ _ h=>h.elim) ?hl_7
    case hk_7=>
     rintro _ _ ⟨j5,B,rfl⟩;refine ⟨Zk (AZ),?_⟩;obtain ⟨gm,cO,rfl⟩:=B.form;refine A2 14 V (AB (off:=6) D4 V rfl C6 Y)<|Zz (l:=[12])<|B1 [true] [(10,(_,_))] V rfl (Aj (vs:=[_]) (cs:=[_]) LL HH US Y V rfl V rfl V) ?_ (fun _ _ h=>h.elim) Ai;rintro _ _ ⟨gq,rfl,rfl⟩;refine B5<|Yw 13 32767 V (Dy (by_:=24) (sz:=1) (news:=[_]) LL (V:Tryz.prog.info? 45=some Tryz.t45) V rfl V rfl Y U Y Wo Wh AN V a7 AW A1 A1) ?_;rintro _ _ ⟨kv,G,rfl⟩;obtain ⟨gy,d9,rfl⟩:=G.form;refine Yw 15 65535 V (Zs C6 Y Y V (hc:=by exact (V:_=(#[I4 (t:Int),I4 (c:Int),I4 lo,I4 hi,I4 (((BG rs (t:Int) c).length:Nat):Int),I4 (((Br (BG rs (t:Int) c) c lo):Nat):Int),_,_,.slice qt 16 ct]:Array Value))) (hi:=by(simp;done)))<|CT<|A2 16 V (AB (off:=7) D4 V rfl Kd Y)<|Zz (l:=[17])<|B1 [] [] V rfl (Zs Kd Y Y V (hc:=by exact (V:_=(#[I4 (t:Int),I4 (c:Int),I4 lo,I4 hi,I4 (((BG rs (t:Int) c).length:Nat):Int),I4 (((Br (BG rs (t:Int) c) c lo):Nat):Int),_,_,.slice qt 16 ct]:Array Value))) (hi:=by(simp;done))) ?_ (fun _ _ h=>h.elim) Ai;rintro _ _ ⟨rfl,rfl⟩;refine B5<|Ah<|Zn [10,12,15,16,17] ?_;refine A8<|Zx<|Zg<|Zm Y<|Ya (n:=1) Y Y<|AG Y<|Zn [17,10,12,15,16] ?_;refine Ab (e':=[(17,_)]) (by exact ⟨k+1,_,_,_,_,J++[_],I++X,rfl,⟨by omega,BS B rfl (by rw [Bn bn,Bh];rfl),BS G rfl rfl,af⟩,rfl,rfl⟩)
    refine B1 [true,true] [(10,(_,_)),(1,(_,_))] V rfl (Aj (vs:=[_]) (cs:=[_]) LL HH US Y V rfl V rfl V) ?_ (fun _ _ h=>h.elim) Ai;rintro _ _ ⟨gq,rfl,rfl⟩;refine B5<|Yz 8 255 8191 [10,1] [true,false] [(10,(_,_))] V Y V rfl V rfl (BR (by_:=40) (sz:=5) B6 (V:Tryz.prog.info? 83=some Tryz.t83) V rfl V rfl Y (W) Y (DC 5 Z 1 1 83 (0,0) [I4 x.t,I4 x.k,I4 x.v.a,I4 x.v.b,I4 x.v.c] V) Wo Wo Fl A1 A1) ?_;rintro _ _ ⟨j5,B,rfl⟩;refine ⟨Zk (AZ),?_⟩;obtain ⟨gm,cO,rfl⟩:=B.form;refine A2 14 V (AB (off:=6) D4 V rfl C6 Y)<|Zz (l:=[13])<|B1 [false] [] V rfl (Dy (by_:=24) (sz:=1) (news:=[_]) LL (V:Tryz.prog.info? 45=some Tryz.t45) V rfl V rfl Y U Y Wo Wh AN V a7 AW A1 A1) ?hk_15 (fun _ _ h=>h.elim) ?hl_15
    case hk_15=>
     rintro _ _ ⟨kv,G,rfl⟩;refine ⟨AZ,?_⟩;obtain ⟨gy,d9,rfl⟩:=G.form;refine Yw 15 65535 V (Zs C6 Y Y V (hc:=by exact (V:_=(#[I4 (t:Int),I4 (c:Int),I4 lo,I4 hi,I4 (((BG rs (t:Int) c).length:Nat):Int),I4 (((Br (BG rs (t:Int) c) c lo):Nat):Int),_,_,.slice qt 16 ct]:Array Value))) (hi:=by(simp;done)))<|CT<|A2 16 V (AB (off:=7) D4 V rfl Kd Y)<|Zz (l:=[17])<|B1 [] [] V rfl (Zs Kd Y Y V (hc:=by exact (V:_=(#[I4 (t:Int),I4 (c:Int),I4 lo,I4 hi,I4 (((BG rs (t:Int) c).length:Nat):Int),I4 (((Br (BG rs (t:Int) c) c lo):Nat):Int),_,_,.slice qt 16 ct]:Array Value))) (hi:=by(simp;done))) ?_ (fun _ _ h=>h.elim) Ai;rintro _ _ ⟨rfl,rfl⟩;refine B5<|Ah<|Zn [10,12,15,16,17] ?_;refine A8<|Zx<|Zg<|Zm Y<|Ya (n:=1) Y Y<|AG Y<|Zn [17,10,12,15,16] ?_;refine Ab (e':=[(17,_)]) (by exact ⟨k+1,_,_,_,_,J++[_],I++X,rfl,⟨by omega,BS B rfl (by rw [Bn bn,Bh];rfl),BS G rfl rfl,af⟩,rfl,rfl⟩)
    exact Ai
   refine B1 [true,true,true,true] [(10,(_,_)),(6,(_,_)),(3,(_,_)),(1,(_,_))] V rfl (Aj (vs:=[_]) (cs:=[_]) LL HH US Y V rfl V rfl V) ?_ (fun _ _ h=>h.elim) Ai;rintro _ _ ⟨gq,rfl,rfl⟩;refine ⟨Zk (FE (by simp [*]) (Zk (Zk (AZ)))),?_⟩;refine Yz 7 124 7935 [10,6,3,1] [true,false,false,true] [(10,(_,_)),(1,(_,_))] V Y V rfl V rfl (Aj (vs:=[_]) (cs:=[_,_,_,_,_]) B6 An DS Y V rfl V rfl V)<|AD fun Z=>B5<|Yz 8 255 8191 [10,1] [true,false] [(10,(_,_))] V Y V rfl V rfl (BR (by_:=40) (sz:=5) B6 (V:Tryz.prog.info? 83=some Tryz.t83) V rfl V rfl Y (W) Y (DC 5 Z 1 1 83 (0,0) [I4 x.t,I4 x.k,I4 x.v.a,I4 x.v.b,I4 x.v.c] V) Wo Wo Fl A1 A1) ?_;rintro _ _ ⟨j5,B,rfl⟩;refine ⟨Zk (AZ),?_⟩;obtain ⟨gm,cO,rfl⟩:=B.form;refine A2 14 V (AB (off:=6) D4 V rfl C6 Y)<|Zz (l:=[13])<|B1 [false] [] V rfl (Dy (by_:=24) (sz:=1) (news:=[_]) LL (V:Tryz.prog.info? 45=some Tryz.t45) V rfl V rfl Y U Y Wo Wh AN V a7 AW A1 A1) ?hk_22 (fun _ _ h=>h.elim) ?hl_22
   case hk_22=>
    rintro _ _ ⟨kv,G,rfl⟩;refine ⟨AZ,?_⟩;obtain ⟨gy,d9,rfl⟩:=G.form;refine Yw 15 65535 V (Zs C6 Y Y V (hc:=by exact (V:_=(#[I4 (t:Int),I4 (c:Int),I4 lo,I4 hi,I4 (((BG rs (t:Int) c).length:Nat):Int),I4 (((Br (BG rs (t:Int) c) c lo):Nat):Int),_,_,.slice qt 16 ct]:Array Value))) (hi:=by(simp;done)))<|CT<|A2 16 V (AB (off:=7) D4 V rfl Kd Y)<|Zz (l:=[17])<|B1 [] [] V rfl (Zs Kd Y Y V (hc:=by exact (V:_=(#[I4 (t:Int),I4 (c:Int),I4 lo,I4 hi,I4 (((BG rs (t:Int) c).length:Nat):Int),I4 (((Br (BG rs (t:Int) c) c lo):Nat):Int),_,_,.slice qt 16 ct]:Array Value))) (hi:=by(simp;done))) ?_ (fun _ _ h=>h.elim) Ai;rintro _ _ ⟨rfl,rfl⟩;refine B5<|Ah<|Zn [10,12,15,16,17] ?_;refine A8<|Zx<|Zg<|Zm Y<|Ya (n:=1) Y Y<|AG Y<|Zn [17,10,12,15,16] ?_;refine Ab (e':=[(17,_)]) (by exact ⟨k+1,_,_,_,_,J++[_],I++X,rfl,⟨by omega,BS B rfl (by rw [Bn bn,Bh];rfl),BS G rfl rfl,af⟩,rfl,rfl⟩)
   exact Ai
  have ek:k=(toT (BG rs (t:Int) c) c hi) -(Br (BG rs (t:Int) c) c lo):=by omega
  subst ek;refine Ay<|Zt<|Zt<|AR<|Zx<|A0<|Zo Wh (AA (cs:=#[I4 (t:Int),I4 (c:Int),I4 lo,I4 hi,I4 (((BG rs (t:Int) c).length:Nat):Int),I4 (((Br (BG rs (t:Int) c) c lo):Nat):Int),.slice q2 _ c2,.slice q3 _ c3,.slice qt 16 ct]) cG L7 Y Ax AN) ?_;refine Xe (Xw L7 #[I4 (t:Int),I4 (c:Int),I4 lo,I4 hi,I4 (((BG rs (t:Int) c).length:Nat):Int),I4 (((Br (BG rs (t:Int) c) c lo):Nat):Int),.slice q2 _ c2,.slice q3 _ c3,.slice qt 16 ct]) ?_;refine A3 Y<|AJ<|Bi rfl results103 Y Wh (Ak cG L7 Wn (rfl)) Y (by exact ⟨_,_,_,O,sp,J,X,so,rfl,BS W (by rw [C1,C2];omega) rfl,U,hP,j3,rfl⟩)
 refine B1 [true,true,true,true] [(5,(_,_)),(3,(_,_)),(2,(_,_)),(1,(_,_))] V rfl (Al cC #[_,_,_,_,_,_,_,_,_]) ?_ (fun _ _ h=>h.elim) Ai;rintro _ _ ⟨pb,rfl,rfl⟩;refine B5<|Zz (l:=[9])<|B1 [true,true,true,true] [(5,(_,_)),(3,(_,_)),(2,(_,_)),(1,(_,_))] V rfl (Zw [_] Y call176 Y V (Uw _ p rs s hv hs hn ic Tg zg)) ?_ Bz Ai;rintro _ _ ⟨_,⟨so,j3,rfl⟩,rfl⟩;refine ⟨Zk (Zk (Zk (Zk (AZ)))),?_⟩;obtain ⟨qt,ct,rfl⟩:=j3.form;refine A2 10 V (BL (vs:=[(0,I4 (t:Int)),(1,I4 (c:Int)),(2,I4 lo),(3,I4 hi),(4,I4 (((BG rs (t:Int) c).length:Nat):Int)),(5,I4 (((Br (BG rs (t:Int) c) c lo):Nat):Int)),(8,.slice qt 16 ct)]) (cs:=#[I4 (t:Int),I4 (c:Int),I4 lo,I4 hi,I4 (((BG rs (t:Int) c).length:Nat):Int),I4 (((Br (BG rs (t:Int) c) c lo):Nat):Int),.slice none 0 0,.slice none 0 0,.slice qt 16 ct]) Y (AY (pl:=#[(0,1),(1,1),(2,1),(3,1),(4,1),(5,1),(6,1),(7,1),(8,1)]) cC D4 (fun _=>by kernel_rfl) A6))<|Yw 12 8191 V (Xw L7 #[I4 (t:Int),I4 (c:Int),I4 lo,I4 hi,I4 (((BG rs (t:Int) c).length:Nat):Int),I4 (((Br (BG rs (t:Int) c) c lo):Nat):Int),.slice none 0 0,.slice none 0 0,.slice qt 16 ct])<|CT<|Ah<|Zn [10,12,14,15,16] ?_;refine Zx<|Zq<|A0<|Zm Y<|A3 Y<|AQ<|BV<|BV<|BV<|Zb [17,10,12,15,16] ?_;refine BB (e0:=[(17,_)]) (fun m e H=>∃(k:Nat) (cu:Value) (O:List A9) (vp:Value) (sp:List A9) (J:List Value) (X:List A9),m=(toT (BG rs (t:Int) c) c hi) -(Br (BG rs (t:Int) c) c lo) -k/\(k<=(toT (BG rs (t:Int) c) c hi) -(Br (BG rs (t:Int) c) c lo)/\Bb 5 83 cu k (Af (((BG rs (t:Int) c).drop (Br (BG rs (t:Int) c) c lo)).take k)) O/\Bb 1 45 vp k J sp/\Jr X J (J8 (BG rs (t:Int) c) (Br (BG rs (t:Int) c) c lo) k))/\e=[(17,I4 (((Br (BG rs (t:Int) c) c lo)+k:Nat):Int))]/\H=[[(pb,.cells #[I4 (t:Int),I4 (c:Int),I4 lo,I4 hi,I4 (((BG rs (t:Int) c).length:Nat):Int),I4 (((Br (BG rs (t:Int) c) c lo):Nat):Int),cu,vp,.slice qt 16 ct] 152 (0,0))],O,sp,X]) (by exact ⟨0,.slice none 0 0,[],.slice none 0 0,[],[],[],rfl,⟨C0 _,by rw [Hx];exact Bf 5 _,Bf 1 _,Q4 _⟩,rfl,rfl⟩) Wp ?_
 rintro _ _ _ ⟨k,cu,O,vp,sp,J,X,rfl,⟨hk,W,U,hP⟩,rfl,rfl⟩;obtain ⟨q2,c2,rfl⟩:=W.form;obtain ⟨q3,c3,rfl⟩:=U.form;refine Zq<|A0<|Zm Y<|Zm Y<|Zv (Av Y Y)<|A4<|Au Y (fun l9=>?_) (fun l9=>?_)
 ·
  obtain ⟨x,hx⟩:∃x,(BG rs (t:Int) c)[(Br (BG rs (t:Int) c) c lo)+k]?=some x:=⟨_,B4 A1⟩;obtain ⟨g,off,cur,T,zz,rfl,o8,pg,gB⟩:=hg _ x hx;have bn:((BG rs (t:Int) c).drop (Br (BG rs (t:Int) c) c lo))[k]?=some x:=by rw [PA];exact hx
  refine AC<|Zx<|Zq<|AQ<|A0<|Zh 1 Mp V rfl HH Y<|Zl Kf Y ?_;refine Zm Y<|Zc [_,_] Y call177 Y rfl (Sc p8 (by rw [GL];omega) (fun s h=>by have:=XX (fun r hr=>ic r (MO hr)) s h;omega) ((Br (BG rs (t:Int) c) c lo)+k) (by rw [GL];omega) Tg zg) ?_;rintro _ _ ⟨_,⟨o9,I,rfl,K,rfl⟩,rfl⟩;have ax:(FC (Nr (BG rs (t:Int) c)) ((Br (BG rs (t:Int) c) c lo)+k)).length<=maxLen:=iW K
  have l5:=Gc K ax;have af:=Qf (BG rs (t:Int) c) (Br (BG rs (t:Int) c) c lo) k▸hP.snoc (l5.mono (fun c h=>DP X h)) (fun c h=>Fm I h)
  obtain ⟨qx,cx,rfl⟩:=K.form;refine Zm Y<|Zd Y V<|Zd Y V<|Za Y<|A3 Y<|CK (s1:=I) (s2:=X) Wo Wo ?_;refine Az (n:=18) (0::1::0::4::0::28::60::124::255::0::512::0::2048::8191::2047::32767::65535::131071::[]) 176512 A6 A6 V<|A2 0 V (AB (off:=6) D4 V rfl C6 Y)<|B3 1 V FA Y ?_;refine A2 2 V (AB (off:=0) Mp V rfl C6 Y)<|B3 3 V FA Y ?_;refine A2 4 V (AO Y)<|A2 5 V (Ac B6 An Y Y A1)<|D8 (b:=g) (x:= .cells cur T zz) (D':=127) 6 V rfl V (by simp [o8]) (AA (cs:=x.A29) CI An Y A1 gB) ?_;refine A2 9 V (AB (off:=7) D4 V rfl Kd Y)<|B3 10 V isAgg150 Y ?_;refine A2 11 V (AO Y)<|Zz (l:=[7,12])<|B1 [true,false,false,true] [(10,(_,_)),(1,(_,_))] V rfl (Aj (vs:=[_]) (cs:=[_,_,_,_,_]) B6 An DS Y V rfl V rfl V) ?_ (fun _ _ h=>h.elim) ?_
  ·
   rintro _ _ ⟨Z,rfl,rfl⟩;refine B5<|Zz (l:=[8,12])<|B1 [true,false] [(10,(_,_))] V rfl (BR (by_:=40) (sz:=5) B6 (V:Tryz.prog.info? 83=some Tryz.t83) V rfl V rfl Y (W) Y (DC 5 Z 1 1 83 (0,0) [I4 x.t,I4 x.k,I4 x.v.a,I4 x.v.b,I4 x.v.c] V) Wo Wo Fl A1 A1) ?hk_32 (fun _ _ h=>h.elim) ?hl_32
   case hk_32=>
    rintro _ _ ⟨j5,B,rfl⟩;refine ⟨Zk (AZ),?_⟩;obtain ⟨gm,cO,rfl⟩:=B.form;refine A2 14 V (AB (off:=6) D4 V rfl C6 Y)<|Zz (l:=[12])<|B1 [true] [(10,(_,_))] V rfl (Aj (vs:=[_]) (cs:=[_]) LL HH US Y V rfl V rfl V) ?_ (fun _ _ h=>h.elim) Ai;rintro _ _ ⟨gq,rfl,rfl⟩;refine B5<|Yw 13 32767 V (Dy (by_:=24) (sz:=1) (news:=[_]) LL (V:Tryz.prog.info? 45=some Tryz.t45) V rfl V rfl Y U Y Wo Wh AN V a7 AW A1 A1) ?_;rintro _ _ ⟨kv,G,rfl⟩;obtain ⟨gy,d9,rfl⟩:=G.form;refine Yw 15 65535 V (Zs C6 Y Y V (hc:=by exact (V:_=(#[I4 (t:Int),I4 (c:Int),I4 lo,I4 hi,I4 (((BG rs (t:Int) c).length:Nat):Int),I4 (((Br (BG rs (t:Int) c) c lo):Nat):Int),_,_,.slice qt 16 ct]:Array Value))) (hi:=by(simp;done)))<|CT<|A2 16 V (AB (off:=7) D4 V rfl Kd Y)<|Zz (l:=[17])<|B1 [] [] V rfl (Zs Kd Y Y V (hc:=by exact (V:_=(#[I4 (t:Int),I4 (c:Int),I4 lo,I4 hi,I4 (((BG rs (t:Int) c).length:Nat):Int),I4 (((Br (BG rs (t:Int) c) c lo):Nat):Int),_,_,.slice qt 16 ct]:Array Value))) (hi:=by(simp;done))) ?_ (fun _ _ h=>h.elim) Ai;rintro _ _ ⟨rfl,rfl⟩;refine B5<|Ah<|Zn [10,12,15,16,17] ?_;refine A8<|Zx<|Zg<|Zm Y<|Ya (n:=1) Y Y<|AG Y<|Zn [17,10,12,15,16] ?_;refine Ab (e':=[(17,_)]) (by exact ⟨k+1,_,_,_,_,J++[_],I++X,rfl,⟨by omega,BS B rfl (by rw [Bn bn,Bh];rfl),BS G rfl rfl,af⟩,rfl,rfl⟩)
   refine B1 [true,true] [(10,(_,_)),(1,(_,_))] V rfl (Aj (vs:=[_]) (cs:=[_]) LL HH US Y V rfl V rfl V) ?_ (fun _ _ h=>h.elim) Ai;rintro _ _ ⟨gq,rfl,rfl⟩;refine B5<|Yz 8 255 8191 [10,1] [true,false] [(10,(_,_))] V Y V rfl V rfl (BR (by_:=40) (sz:=5) B6 (V:Tryz.prog.info? 83=some Tryz.t83) V rfl V rfl Y (W) Y (DC 5 Z 1 1 83 (0,0) [I4 x.t,I4 x.k,I4 x.v.a,I4 x.v.b,I4 x.v.c] V) Wo Wo Fl A1 A1) ?_;rintro _ _ ⟨j5,B,rfl⟩;refine ⟨Zk (AZ),?_⟩;obtain ⟨gm,cO,rfl⟩:=B.form;refine A2 14 V (AB (off:=6) D4 V rfl C6 Y)<|Zz (l:=[13])<|B1 [false] [] V rfl (Dy (by_:=24) (sz:=1) (news:=[_]) LL (V:Tryz.prog.info? 45=some Tryz.t45) V rfl V rfl Y U Y Wo Wh AN V a7 AW A1 A1) ?hk_40 (fun _ _ h=>h.elim) ?hl_40
   case hk_40=>
    rintro _ _ ⟨kv,G,rfl⟩;refine ⟨AZ,?_⟩;obtain ⟨gy,d9,rfl⟩:=G.form;refine Yw 15 65535 V (Zs C6 Y Y V (hc:=by exact (V:_=(#[I4 (t:Int),I4 (c:Int),I4 lo,I4 hi,I4 (((BG rs (t:Int) c).length:Nat):Int),I4 (((Br (BG rs (t:Int) c) c lo):Nat):Int),_,_,.slice qt 16 ct]:Array Value))) (hi:=by(simp;done)))<|CT<|A2 16 V (AB (off:=7) D4 V rfl Kd Y)<|Zz (l:=[17])<|B1 [] [] V rfl (Zs Kd Y Y V (hc:=by exact (V:_=(#[I4 (t:Int),I4 (c:Int),I4 lo,I4 hi,I4 (((BG rs (t:Int) c).length:Nat):Int),I4 (((Br (BG rs (t:Int) c) c lo):Nat):Int),_,_,.slice qt 16 ct]:Array Value))) (hi:=by(simp;done))) ?_ (fun _ _ h=>h.elim) Ai;rintro _ _ ⟨rfl,rfl⟩;refine B5<|Ah<|Zn [10,12,15,16,17] ?_;refine A8<|Zx<|Zg<|Zm Y<|Ya (n:=1) Y Y<|AG Y<|Zn [17,10,12,15,16] ?_;refine Ab (e':=[(17,_)]) (by exact ⟨k+1,_,_,_,_,J++[_],I++X,rfl,⟨by omega,BS B rfl (by rw [Bn bn,Bh];rfl),BS G rfl rfl,af⟩,rfl,rfl⟩)
   exact Ai
  refine B1 [true,true,true,true] [(10,(_,_)),(6,(_,_)),(3,(_,_)),(1,(_,_))] V rfl (Aj (vs:=[_]) (cs:=[_]) LL HH US Y V rfl V rfl V) ?_ (fun _ _ h=>h.elim) Ai;rintro _ _ ⟨gq,rfl,rfl⟩;refine ⟨Zk (FE (by simp [*]) (Zk (Zk (AZ)))),?_⟩;refine Yz 7 124 7935 [10,6,3,1] [true,false,false,true] [(10,(_,_)),(1,(_,_))] V Y V rfl V rfl (Aj (vs:=[_]) (cs:=[_,_,_,_,_]) B6 An DS Y V rfl V rfl V)<|AD fun Z=>B5<|Yz 8 255 8191 [10,1] [true,false] [(10,(_,_))] V Y V rfl V rfl (BR (by_:=40) (sz:=5) B6 (V:Tryz.prog.info? 83=some Tryz.t83) V rfl V rfl Y (W) Y (DC 5 Z 1 1 83 (0,0) [I4 x.t,I4 x.k,I4 x.v.a,I4 x.v.b,I4 x.v.c] V) Wo Wo Fl A1 A1) ?_;rintro _ _ ⟨j5,B,rfl⟩;refine ⟨Zk (AZ),?_⟩;obtain ⟨gm,cO,rfl⟩:=B.form;refine A2 14 V (AB (off:=6) D4 V rfl C6 Y)<|Zz (l:=[13])<|B1 [false] [] V rfl (Dy (by_:=24) (sz:=1) (news:=[_]) LL (V:Tryz.prog.info? 45=some Tryz.t45) V rfl V rfl Y U Y Wo Wh AN V a7 AW A1 A1) ?hk_47 (fun _ _ h=>h.elim) ?hl_47
  case hk_47=>
   rintro _ _ ⟨kv,G,rfl⟩;refine ⟨AZ,?_⟩;obtain ⟨gy,d9,rfl⟩:=G.form;refine Yw 15 65535 V (Zs C6 Y Y V (hc:=by exact (V:_=(#[I4 (t:Int),I4 (c:Int),I4 lo,I4 hi,I4 (((BG rs (t:Int) c).length:Nat):Int),I4 (((Br (BG rs (t:Int) c) c lo):Nat):Int),_,_,.slice qt 16 ct]:Array Value))) (hi:=by(simp;done)))<|CT<|A2 16 V (AB (off:=7) D4 V rfl Kd Y)<|Zz (l:=[17])<|B1 [] [] V rfl (Zs Kd Y Y V (hc:=by exact (V:_=(#[I4 (t:Int),I4 (c:Int),I4 lo,I4 hi,I4 (((BG rs (t:Int) c).length:Nat):Int),I4 (((Br (BG rs (t:Int) c) c lo):Nat):Int),_,_,.slice qt 16 ct]:Array Value))) (hi:=by(simp;done))) ?_ (fun _ _ h=>h.elim) Ai;rintro _ _ ⟨rfl,rfl⟩;refine B5<|Ah<|Zn [10,12,15,16,17] ?_;refine A8<|Zx<|Zg<|Zm Y<|Ya (n:=1) Y Y<|AG Y<|Zn [17,10,12,15,16] ?_;refine Ab (e':=[(17,_)]) (by exact ⟨k+1,_,_,_,_,J++[_],I++X,rfl,⟨by omega,BS B rfl (by rw [Bn bn,Bh];rfl),BS G rfl rfl,af⟩,rfl,rfl⟩)
  exact Ai
 have ek:k=(toT (BG rs (t:Int) c) c hi) -(Br (BG rs (t:Int) c) c lo):=by omega
 subst ek;refine Ay<|Zt<|Zt<|AR<|Zx<|A0<|Zo Wh (AA (cs:=#[I4 (t:Int),I4 (c:Int),I4 lo,I4 hi,I4 (((BG rs (t:Int) c).length:Nat):Int),I4 (((Br (BG rs (t:Int) c) c lo):Nat):Int),.slice q2 _ c2,.slice q3 _ c3,.slice qt 16 ct]) cG L7 Y Ax AN) ?_;refine Xe (Xw L7 #[I4 (t:Int),I4 (c:Int),I4 lo,I4 hi,I4 (((BG rs (t:Int) c).length:Nat):Int),I4 (((Br (BG rs (t:Int) c) c lo):Nat):Int),.slice q2 _ c2,.slice q3 _ c3,.slice qt 16 ct]) ?_;refine A3 Y<|AJ<|Bi rfl results103 Y Wh (Ak cG L7 Wn (rfl)) Y (by exact ⟨_,_,_,O,sp,J,X,so,rfl,BS W (by rw [C1,C2];omega) rfl,U,hP,j3,rfl⟩)
def MF(M:List A9)(v:Value)(ps:List (List Bs)):Prop:=∃p cap,v= .slice p ps.length cap/\(ps.length<=maxLen/\ps.length<=cap)/\∀(i:Nat) (l:List Bs),ps[i]?=some l->∃q c,ET M (.slice q l.length c) l/\∃g off cur T zz,p=some ⟨g,off,none⟩/\(g,Obj.cells cur T zz)∈M/\cur[off+i]?=some (.slice q l.length c)
def Xt(M:List A9)(v:Value)(x:RP):Prop:=∃vr vp vt,v= .agg #[I4 x.tb,I4 x.cl,I4 x.lo,I4 x.hi,I4 x.ct,I4 x.fi,vr,vp,vt]/\De M vr x.rows/\MF M vp x.paths/\ET M vt x.roots
theorem VT{e:TypeId}{ps:List (List Bs)}{m:List Value}{s W:List A9}(h:Bb 1 e v ps.length m s)(G:Jr W m ps)(J:ps.length<=maxLen):MF (s++W) v ps:=by
 rcases PB ps.length with h0|h0
 · obtain ⟨b,cap,rfl⟩:=h.form
   exact ⟨b,cap,rfl,⟨J,by omega⟩,fun i s K=>by rw [LO h0]at K;simp at K⟩
 · obtain ⟨g,cap,cur,z,rfl,rfl,B,X⟩:=LX h h0
   refine ⟨_,cap,V,⟨J,B⟩,fun i l I=>?_⟩;have Z:=(B9.1 I).1
   obtain ⟨w,U⟩:∃w,m[i]?=some w:=⟨_,B4 (by have:=G.1;omega)⟩;have O:=G.2 i w l U I
   obtain ⟨q,c,e1,h1,h2⟩:=id O;subst e1;refine ⟨q,c,O.mono (fun c h=>Fm _ h),g,0,cur,e,z,V,by simp,?_⟩;rw [Cl];exact X i _ U
theorem MF.mono{m:List A9}{ls:List (List Bs)}(h:MF M v ls)(B:∀c∈M,c∈m):MF m v ls:=by
 obtain ⟨p,cap,e,J,I⟩:=h;refine ⟨p,cap,e,J,fun i s K=>?_⟩;obtain ⟨q,c,h0,g,off,cur,T,zz,e1,G,h2⟩:=I i s K;exact ⟨q,c,h0.mono B,g,off,cur,T,zz,e1,B _ G,h2⟩
theorem dQ(v:Value)(p:Int)(rs:List AU)(s:List A9)(hv:RG v p rs s)(K:BP rs)(hn:rs.length<=2000)(G:∀r∈rs,r.ok)(t c:Nat)(ht:t<=3)(hc:c<=3)(lo hi:Int)(B:lo<=hi)(m:TypeId)(J:Nat×Nat):
 BZ prog 103 #[v,I4 (t:Int),I4 (c:Int),I4 lo,I4 hi] [[(4,.cells (Eo.map Ct).toArray m J)],s] (fun r H'=>∃O mem,r= .tuple #[O,I4 0]/\Xt mem O (El rs t c lo hi)/\H'=[mem,[(4,.cells (Eo.map Ct).toArray m J)],s]):=by
 have af:=mL;refine Gv (dR v p rs s hv K hn G t c ht hc lo hi B m J) V ?_;rintro r H' ⟨vr,vp,vt,I,sp,cu,mp,so,rfl,U,h2,W,X,rfl⟩;have Z:=JB K (t:Int) c
 have bn:toT (BG rs (t:Int) c) c hi<=(BG rs (t:Int) c).length:=nj _ _;have g:=df (BG rs (t:Int) c) (Br (BG rs (t:Int) c) c lo) (toT (BG rs (t:Int) c) c hi -Br (BG rs (t:Int) c) c lo)
 have ax:(((BG rs (t:Int) c).drop (Br (BG rs (t:Int) c) c lo)).take (toT (BG rs (t:Int) c) c hi -Br (BG rs (t:Int) c) c lo)).length<=2000:=by rw [C1,C2];omega
 refine ⟨_,⟨_,I++(sp++mp)++so,V,⟨vr,vp,vt,V,?_,?_,?_⟩,V⟩,by simp⟩
 · exact (DU U A1).mono (fun c h=>DP _ (DP _ h))
 · exact (VT (BS h2 g.symm rfl) W (by rw [g];omega)).mono (fun c h=>DP _ (Fm _ h))
 · exact (Gc (BS X (Y7 rs).symm rfl) (by rw [Y7];omega)).mono (fun c h=>Fm _ h)
def Xq(x:RP)(j:Nat)(r:AU):Prop:=r.ok/\r.t=x.tb/\(Bl r x.cl<x.lo->j=0)/\(x.hi<Bl r x.cl->x.rows.length<=j+1)
def UJ(x:RP)(q r:AU):Prop:=Bl q x.cl<Bl r x.cl\/Bl q x.cl=Bl r x.cl/\q.k<r.k
structure Ga(x:RP):Prop where
 tc:(0<=x.tb/\x.tb<4)/\0<=x.cl/\x.cl<4
 lh:x.lo<=x.hi
 ct:0<=x.ct/\x.ct<=2000
 fi:0<=x.fi/\x.fi<=x.ct
 n:(x.rows.length:Int)<=x.ct -x.fi
 none:x.rows.length=0->x.ct=0
 all:∀(j:Nat) (r:AU),x.rows[j]?=some r->Xq x j r/\(0<j->∀q,x.rows[j -1]?=some q->UJ x q r)
 first:∀r,x.rows[0]?=some r->x.fi=0\/Bl r x.cl<x.lo
 last:∀r,x.rows[x.rows.length -1]?=some r->x.fi+(x.rows.length:Int)=x.ct\/x.hi<Bl r x.cl
noncomputable instance(x:RP):Decidable (Ga x):=Classical.propDecidable _
theorem He{p:Option Addr}{cap:Nat}(x:RP)(vp vt:Value)(U:De M (.slice p x.rows.length cap) x.rows)(hc:0<=x.cl/\x.cl<=3)(K i:Nat)(r:AU)(I:x.rows[i]?=some r):BI prog 301 #[I4 (i:Int),I5 K] [[(K,.cells #[I4 x.tb,I4 x.cl,I4 x.lo,I4 x.hi,I4 x.ct,I4 x.fi,.slice p x.rows.length cap,vp,vt] 152 (0,0))],M] (I4 (Bl r x.cl)):=by
 have Z:=mL;obtain ⟨p9,G,O,hl,W⟩:=U;injection O with e91 e92 e93
 subst e91 e93;obtain ⟨g,off,cur,T,zz,rfl,B,J,m⟩:=W i r I;have X:=(B9.1 I).1
 refine Se func301 ntmps301 [0,1] ?_;intro u R;refine A0<|A3 Y<|Zq<|Az (n:=9) (0::1::0::7::15::0::32::127::255::[]) 128 A6 A6 V<|A2 0 V (AB (off:=6) D4 V rfl C6 Y)<|B3 1 V FA Y ?_;refine A2 2 V (AO Y)<|A2 3 V (Ac B6 An Y Y A1)<|D8 (b:=g) (x:= .cells cur T zz) (D':=31) 4 V rfl V (by simp [B]) (AA (cs:=r.A29) CI An Y A1 m) ?_;refine A2 5 V (AB (off:=1) D4 V rfl A5 Y)<|B3 6 V AE Y ?_;refine Yw 7 255 V (Zu [_,_] Y S8 Y V (Fs r x.cl hc))<|CT<|A2 8 V (Aw Y)<|Ah<|Zx<|AJ<|AP V results301 Y (by exact ⟨V,V⟩)
variable{x:RP}
set_option maxHeartbeats 4000000 in
theorem Uc(hv:Xt M v x):BI prog 271 #[v] [M] (.bool (decide (Ga x))):=by
 have vw:=mL;obtain ⟨vr,vp,vt,rfl,hR,hP,hT⟩:=hv;obtain ⟨p,cap,e9,hl,hg⟩:=id hR;subst e9;refine Se func271 ntmps271 [0] ?_;intro u R;refine A0<|Ze (Bx #[_,_,_,_,_,_,_,_,_])<|AD fun pb=>A3 Y<|A0<|Zh 6 D4 V rfl C6 Y<|Zl FA Y ?_;refine Zv (Aa B6 Y)<|A3 Y<|Zq<|A0<|Zh 0 D4 V rfl A5 Y<|Zl AE Y ?_;refine Zh 1 D4 V rfl A5 Y<|Zl AE Y ?_;refine Xr [_,_] Y call169 Y V (Qo x.tb x.cl) ?_;refine Zv (Cm Y)<|Zm Y<|Am (t:=17) Y V (fun qa=>?_) (fun qa=>?_)
 ·
  repeat refine A7 Y rfl ?_
  refine Zv (AV Y Y)<|Zm Y<|A7 Y V<|A7 Y V<|A7 Y V<|Zv (AV Y Y)<|Zm Y<|A7 Y V<|A7 Y V<|A7 Y V<|Zv (AV Y Y)<|Zm Y<|A7 Y V<|A7 Y V<|A7 Y V<|Zv (AV Y Y)<|Zm Y ?_;repeat refine A7 Y rfl ?_
  refine Zv (AV Y Y)<|Zm Y ?_;repeat refine A7 Y rfl ?_
  refine Zv (AV Y Y)<|Z0<|Zn [1,3,54] ?_;refine Zx<|Cn Y<|A0<|A3 Y<|AJ<|Zt<|AP V KK Y (by exact ⟨congrArg Value.bool (C4 (fun B:Ga x=>by have J:=B.tc;have K:=B.lh;have O:=B.ct;have U:=B.fi;have af:=B.n;omega)).symm,V⟩)
 refine Yf 2 D4 V rfl A5 Y<|Yl AE Y ?_;refine Yf 3 D4 V rfl A5 Y<|Yl AE Y ?_;refine Yg (Er Y Y)<|Zv (AL Y Y)<|Zm Y<|Am (t:=24) Y V (fun qb=>?_) (fun qb=>?_)
 ·
  refine A7 Y V<|A7 Y V<|A7 Y V<|Zv (AV Y Y)<|Zm Y<|A7 Y V<|A7 Y V<|A7 Y V<|Zv (AV Y Y)<|Zm Y<|A7 Y V<|A7 Y V<|A7 Y V<|Zv (AV Y Y)<|Zm Y ?_;repeat refine A7 Y rfl ?_
  refine Zv (AV Y Y)<|Zm Y ?_;repeat refine A7 Y rfl ?_
  refine Zv (AV Y Y)<|Z0<|Zn [1,3,54] ?_;refine Zx<|Cn Y<|A0<|A3 Y<|AJ<|Zt<|AP V KK Y (by exact ⟨congrArg Value.bool (C4 (fun B:Ga x=>by have J:=B.tc;have K:=B.lh;have O:=B.ct;have U:=B.fi;have af:=B.n;omega)).symm,V⟩)
 refine Yf 4 D4 V rfl A5 Y<|Yl AE Y ?_;refine Yg (Dt Y Y)<|Zv (AL Y Y)<|Zm Y<|Am (t:=29) Y V (fun qj=>?_) (fun qj=>?_)
 ·
  refine A7 Y V<|A7 Y V<|A7 Y V<|Zv (AV Y Y)<|Zm Y<|A7 Y V<|A7 Y V<|A7 Y V<|Zv (AV Y Y)<|Zm Y ?_;repeat refine A7 Y rfl ?_
  refine Zv (AV Y Y)<|Zm Y ?_;repeat refine A7 Y rfl ?_
  refine Zv (AV Y Y)<|Z0<|Zn [1,3,54] ?_;refine Zx<|Cn Y<|A0<|A3 Y<|AJ<|Zt<|AP V KK Y (by exact ⟨congrArg Value.bool (C4 (fun B:Ga x=>by have J:=B.tc;have K:=B.lh;have O:=B.ct;have U:=B.fi;have af:=B.n;omega)).symm,V⟩)
 refine Yf 4 D4 V rfl A5 Y<|Yl AE Y ?_;refine Yg (Er Y Y)<|Zv (AL Y Y)<|Zm Y<|Am (t:=34) Y V (fun ql=>?_) (fun ql=>?_)
 ·
  refine A7 Y V<|A7 Y V<|A7 Y V<|Zv (AV Y Y)<|Zm Y ?_;repeat refine A7 Y rfl ?_
  refine Zv (AV Y Y)<|Zm Y ?_;repeat refine A7 Y rfl ?_
  refine Zv (AV Y Y)<|Z0<|Zn [1,3,54] ?_;refine Zx<|Cn Y<|A0<|A3 Y<|AJ<|Zt<|AP V KK Y (by exact ⟨congrArg Value.bool (C4 (fun B:Ga x=>by have J:=B.tc;have K:=B.lh;have O:=B.ct;have U:=B.fi;have af:=B.n;omega)).symm,V⟩)
 refine Yf 5 D4 V rfl A5 Y<|Yl AE Y ?_;refine Yg (Dt Y Y)<|Zv (AL Y Y)<|Zm Y<|Am (t:=39) Y V (fun qo=>?_) (fun qo=>?_)
 ·
  repeat refine A7 Y rfl ?_
  refine Zv (AV Y Y)<|Zm Y ?_;repeat refine A7 Y rfl ?_
  refine Zv (AV Y Y)<|Z0<|Zn [1,3,54] ?_;refine Zx<|Cn Y<|A0<|A3 Y<|AJ<|Zt<|AP V KK Y (by exact ⟨congrArg Value.bool (C4 (fun B:Ga x=>by have J:=B.tc;have K:=B.lh;have O:=B.ct;have U:=B.fi;have af:=B.n;omega)).symm,V⟩)
 refine Yf 5 D4 V rfl A5 Y<|Yl AE Y ?_;refine Yf 4 D4 V rfl A5 Y<|Yl AE Y ?_;refine Yg (Er Y Y)<|Zv (AL Y Y)<|Zm Y<|Am (t:=46) Y V (fun qw=>?_) (fun qw=>?_)
 ·
  repeat refine A7 Y rfl ?_
  refine Zv (AV Y Y)<|Z0<|Zn [1,3,54] ?_;refine Zx<|Cn Y<|A0<|A3 Y<|AJ<|Zt<|AP V KK Y (by exact ⟨congrArg Value.bool (C4 (fun B:Ga x=>by have J:=B.tc;have K:=B.lh;have O:=B.ct;have U:=B.fi;have af:=B.n;omega)).symm,V⟩)
 refine Zf Y Y<|Yf 4 D4 V rfl A5 Y<|Yl AE Y ?_;refine Yf 5 D4 V rfl A5 Y<|Yl AE Y ?_
 (refine Gr Y (GG Y Y (IntWalk.i64_in _ ?_)) rfl rfl ?_;(focus (first|omega|(simp;omega))))
 refine Yg (Er Y Y)<|Zv (AL Y Y)<|Z0<|Zn [1,3,54] ?_;refine Zx<|Au Y (fun qx=>?_) (fun qx=>?_)
 ·
  refine A0<|A3 Y<|AJ<|Zt<|AP V KK Y (by exact ⟨congrArg Value.bool (C4 (fun B:Ga x=>by have J:=B.tc;have K:=B.lh;have O:=B.ct;have U:=B.fi;have af:=B.n;omega)).symm,V⟩)
 refine AC<|Zx<|Zq<|A0<|Zm Y<|Zv (CR (n:=0) Y Y)<|A4<|Au Y (fun hz=>?_) (fun hz=>?_)
 ·
  refine A0<|Zh 4 D4 V rfl A5 Y<|Zl AE Y ?_;refine Zv (CP Y Y)<|A3 Y<|AJ<|Zt<|AP V KK Y (by exact ⟨Tz ⟨fun B=>⟨by omega,by omega,by omega,by omega,by omega,fun _=>B,fun j r W=>by have:=(B9.1 W).1;omega,fun r W=>by have:=(B9.1 W).1;omega,fun r W=>by have:=(B9.1 W).1;omega⟩,fun B=>B.none hz⟩,V⟩)
 refine AC<|Zx<|A0<|Zv (Bg (vs:=[]) (us:=[_]) Y Y)<|A3 Y<|Zq<|A0<|Zh 6 D4 V rfl C6 Y<|Zl FA Y ?_;refine Zv (Aa B6 Y)<|Zm Y<|A4<|AQ<|Zb [64,1,3,4,62,63] ?_;refine BB (e0:=[(64,_)]) (fun m e H=>∃(i:Nat),m=x.rows.length -i/\(i<=x.rows.length/\∀(j:Nat) (r:AU),j<i->x.rows[j]?=some r->Xq x j r/\(0<j->∀q,x.rows[j -1]?=some q->UJ x q r))/\e=[(64,I4 (i:Int))]/\H=[]) (by exact ⟨0,V,⟨C0 _,by intro j r W;omega⟩,V,V⟩) Wp ?_;rintro _ _ _ ⟨i,rfl,⟨hi,Z⟩,rfl,rfl⟩;refine A0<|Zv (Av Y Y)<|A4<|Zq<|Au Y (fun pq=>?_) (fun pq=>?_)
 ·
  obtain ⟨r,hr⟩:∃r,x.rows[i]?=some r:=⟨_,B4 pq⟩;obtain ⟨g,off,cur,T,zz,rfl,sM,ve,p9⟩:=hg i r hr;refine AC<|Zx<|Zq<|AQ<|A0<|Zm Y<|BX (Ac B6 An Y Y A1)<|CQ (cs:=[(g,.cells cur T zz)]) (by simp [sM]) (AA (cs:=r.A29) CI An Y A1 p9) V rfl ?_;refine Ze (Al DS #[_,_,_,_,_])<|AD fun rb=>Za Y<|Xe (Xw An r.A29) ?_;refine A4<|A0<|Zm Y<|Zm Y<|Xr [_] Y call301 Y V (He x vp vt hR A1 pb i r hr) ?_;refine A3 Y<|Zb [1,3,4,5,6,7,62,63,64] ?_;refine DK (e0:=[]) (H0:=[]) (fun e H=>∃(u9:Unit),(Xq x i r)/\e=[]/\H=[]) Wp ?hx_10 ?hy_10
  case hx_10=>
   refine A0<|Zo Wh (AA (cs:=#[_,_,_,_,_]) CI An Y Ax AN) ?_;refine Xr [_] Y call203 Y V (S9 r) ?_;refine Zv (Cm Y)<|Zm Y<|Am (t:=75) Y V (fun qz=>?_) (fun qz=>?_)
   ·
    repeat refine A7 Y rfl ?_
    refine Zv (AV Y Y)<|Zm Y ?_;repeat refine A7 Y rfl ?_
    refine Zv (AV Y Y)<|Zm Y ?_;repeat refine A7 Y rfl ?_
    refine Zv (AV Y Y)<|Z0<|Zn [1,3,4,5,6,7,62,63,64,103] ?_;refine Zx<|Cn Y<|A0<|A3 Y<|AJ<|Zt<|Ae<|Zt<|Zt<|Ae<|Zt<|AP rfl KK Y (by exact ⟨congrArg Value.bool (C4 (fun B:Ga x=>by obtain ⟨⟨J,K,O,U⟩,_⟩:=B.all i r hr;contradiction)).symm,rfl⟩)
   refine Yf 0 FG V rfl A5 Y<|Yl AE Y ?_;refine Yf 0 D4 V rfl A5 Y<|Yl AE Y ?_;refine Yg (J9 Y Y)<|Zv (AL Y Y)<|Zm Y<|Am (t:=82) Y V (fun sj=>?_) (fun sj=>?_)
   ·
    repeat refine A7 Y rfl ?_
    refine Zv (AV Y Y)<|Zm Y ?_;repeat refine A7 Y rfl ?_
    refine Zv (AV Y Y)<|Z0<|Zn [1,3,4,5,6,7,62,63,64,103] ?_;refine Zx<|Cn Y<|A0<|A3 Y<|AJ<|Zt<|Ae<|Zt<|Zt<|Ae<|Zt<|AP rfl KK Y (by exact ⟨congrArg Value.bool (C4 (fun B:Ga x=>by obtain ⟨⟨J,K,O,U⟩,_⟩:=B.all i r hr;omega)).symm,rfl⟩)
   refine Zf Y Y<|Yf 2 D4 V rfl A5 Y<|Yl AE Y ?_;refine Yg (Dt Y Y)<|Zf Y Y ?_;refine Am (t:=87) Y V (fun l5=>?_) (fun l5=>?_)
   ·
    refine Zf Y Y<|Yg (DJ (n:=0) Y Y)<|Yg (AV Y Y)<|Zv (AL Y Y)<|Zm Y<|Am (t:=92) Y V (fun l8=>?_) (fun l8=>?_)
    ·
     repeat refine A7 Y rfl ?_
     refine Zv (AV Y Y)<|Z0<|Zn [1,3,4,5,6,7,62,63,64,103] ?_;refine Zx<|Cn Y<|A0<|A3 Y<|AJ<|Zt<|Ae<|Zt<|Zt<|Ae<|Zt<|AP rfl KK Y (by exact ⟨congrArg Value.bool (C4 (fun B:Ga x=>by obtain ⟨⟨J,K,O,U⟩,_⟩:=B.all i r hr;omega)).symm,rfl⟩)
    refine Zf Y Y<|Yf 3 D4 V rfl A5 Y<|Yl AE Y ?_;refine Yg (Er Y Y)<|Zf Y Y ?_;refine Am (t:=97) Y V (fun l9=>?_) (fun l9=>?_)
    ·
     refine Zf Y Y<|Zf Y Y ?_
     (refine Gr Y (CO (n:=1) Y Y ?_ ?_) rfl rfl ?_;(focus (first|omega|(simp;omega)));(focus (first|omega|(simp;omega))))
     refine Yg (Av Y Y)<|Yg (AV Y Y)<|Zv (AL Y Y)<|Z0<|Zn [1,3,4,5,6,7,62,63,64,103] ?_;refine Zx<|Au Y (fun o8=>?_) (fun o8=>?_)
     ·
      refine A0<|A3 Y<|AJ<|Zt<|Ae<|Zt<|Zt<|Ae<|Zt<|AP rfl KK Y (by exact ⟨congrArg Value.bool (C4 (fun B:Ga x=>by obtain ⟨⟨J,K,O,U⟩,_⟩:=B.all i r hr;omega)).symm,rfl⟩)
     refine AC<|Zn [1,3,4,5,6,7,62,63,64] ?_;refine BN (e':=[]) (by exact ⟨(),⟨by exact HT.1 dr,by omega,fun h=>by omega,fun h=>by omega⟩,V,V⟩)
    refine A7 Y V<|A7 Y V<|A7 Y V<|A7 Y V<|Yg (AL Y Y)<|Zv (AL Y Y)<|Z0<|Zn [1,3,4,5,6,7,62,63,64,103] ?_;refine Zx<|Ch Y<|AC<|Zn [1,3,4,5,6,7,62,63,64] ?_;refine BN (e':=[]) (by exact ⟨(),⟨by exact HT.1 dr,by omega,fun h=>by omega,fun h=>by omega⟩,V,V⟩)
   refine A7 Y V<|A7 Y V<|Yg (AL Y Y)<|Zv (AL Y Y)<|Zm Y<|Zf Y Y<|Yf 3 D4 V rfl A5 Y<|Yl AE Y ?_;refine Yg (Er Y Y)<|Zf Y Y ?_;refine Am (t:=97) Y V (fun o9=>?_) (fun o9=>?_)
   ·
    refine Zf Y Y<|Zf Y Y ?_
    (refine Gr Y (CO (n:=1) Y Y ?_ ?_) rfl rfl ?_;(focus (first|omega|(simp;omega)));(focus (first|omega|(simp;omega))))
    refine Yg (Av Y Y)<|Yg (AV Y Y)<|Zv (AL Y Y)<|Z0<|Zn [1,3,4,5,6,7,62,63,64,103] ?_;refine Zx<|Au Y (fun p8=>?_) (fun p8=>?_)
    ·
     refine A0<|A3 Y<|AJ<|Zt<|Ae<|Zt<|Zt<|Ae<|Zt<|AP rfl KK Y (by exact ⟨congrArg Value.bool (C4 (fun B:Ga x=>by obtain ⟨⟨J,K,O,U⟩,_⟩:=B.all i r hr;omega)).symm,rfl⟩)
    refine AC<|Zn [1,3,4,5,6,7,62,63,64] ?_;refine BN (e':=[]) (by exact ⟨(),⟨by exact HT.1 dr,by omega,fun h=>by omega,fun h=>by omega⟩,V,V⟩)
   refine A7 Y V<|A7 Y V<|A7 Y V<|A7 Y V<|Yg (AL Y Y)<|Zv (AL Y Y)<|Z0<|Zn [1,3,4,5,6,7,62,63,64,103] ?_;refine Zx<|Ch Y<|AC<|Zn [1,3,4,5,6,7,62,63,64] ?_;refine BN (e':=[]) (by exact ⟨(),⟨by exact HT.1 dr,by omega,fun h=>by omega,fun h=>by omega⟩,V,V⟩)
  rintro _ _ ⟨u9,d9,rfl,rfl⟩;refine Zq<|Az (n:=30) (0::1::3::7::7::7::39::119::255::511::1023::1023::1023::5119::15359::32767::65535::131071::262143::131071::655359::131071::2228223::7995391::16383999::33161215::67108863::134217727::268435455::536870911::[]) 16512 A6 A6 V<|A2 0 V (AO Y)<|A2 1 V (DJ (n:=0) Y Y)<|A2 2 V (AO Y)<|CW (t:=106) Y (fun ek=>?_) (fun ek=>?_)
  ·
   rw [CM ek];obtain ⟨q,hq⟩:∃q,x.rows[i -1]?=some q:=⟨_,B4 A1⟩;obtain ⟨g2,vo,gq,T2,sO,gy,pz,j3,gB⟩:=hg (i -1) q hq;injection gy with gy
   injection gy with e291 e292
   subst e291 e292;have sJ:gq[off+(i -1)*5+1]?=some (I4 q.k):=by rw [PI gB j3 1 A1];rfl
   refine AH 3 V (AO Y)<|AH 4 V (AO Y)<|AH 5 V (AO Y) ?_
   (refine AH 6 rfl (CO (n:=1) Y Y ?_ ?_) ?_;(focus (first|omega|(simp;omega)));(focus (first|omega|(simp;omega))))
   refine Yw 7 255 V (Zu [_] Y call301 Y V (He x vp vt hR A1 pb (i -1) q hq))<|CT<|AH 8 V (Dt Y Y)<|AH 9 V (AO Y)<|CW (t:=113) Y (fun kv=>?_) (fun kv=>?_)
   ·
    rw [CM kv];refine AF 10 V<|AF 11 V<|AF 12 V<|AF 13 V<|AF 14 V<|AF 15 V<|AF 16 V<|AF 17 V<|AF 18 V<|AF 19 V<|AF 20 V<|AF 21 V<|AF 22 V<|AF 23 V<|AF 24 V<|AF 25 V<|AF 26 V<|AF 27 V<|AH 28 V (AV Y Y)<|A2 29 V (AV Y Y)<|Ah<|Zn [1,3,4,62,63,64,133] ?_;refine Zx<|Cn Y<|A0<|A3 Y<|AJ<|Ae<|Zt<|Zt<|Ae<|Zt<|AP V KK Y (by exact ⟨congrArg Value.bool (C4 (fun B:Ga x=>by have ha:=(B.all i r hr).2 ek q hq;unfold UJ at ha;omega)).symm,V⟩)
   rw [C4 kv];refine AH 10 V (AO Y)<|AH 11 V (AO Y)<|AH 12 V (AO Y) ?_
   (refine AH 13 rfl (CO (n:=1) Y Y ?_ ?_) ?_;(focus (first|omega|(simp;omega)));(focus (first|omega|(simp;omega))))
   refine Yw 14 32767 V (Zu [_] Y call301 Y V (He x vp vt hR A1 pb (i -1) q hq))<|CT<|AH 15 V (CP Y Y)<|AH 16 V (AO Y)<|CW (t:=120) Y (fun j5=>?_) (fun j5=>?_)
   ·
    rw [CM j5];refine AH 17 V (AB (off:=1) FG V rfl A5 Y)<|DA 18 V Wh (BO AE Y AN) ?_;refine AH 19 V (AB (off:=6) D4 V rfl C6 Y)<|DA 20 V Wh (BO FA Y AN) ?_;refine AH 21 V (AO Y) ?_
    (refine AH 22 rfl (CO (n:=1) Y Y ?_ ?_) ?_;(focus (first|omega|(simp;omega)));(focus (first|omega|(simp;omega))))
    refine AH 23 V (Ac B6 An Y Y A1)<|AH 24 V (Ap (off:=1) FG V rfl A5 Y)<|XE (b:=g) (x:= .cells gq T2 sO) (D':=67108863) 25 Y V rfl V (by simp [pz]) (BO AE Y (by exact sJ)) ?_;refine AH 26 V (NC Y Y)<|AH 27 V (AV Y Y)<|AH 28 V (AL Y Y)<|A2 29 V (AV Y Y)<|Ah<|Zn [1,3,4,62,63,64,133] ?_;refine Zx<|Au Y (fun sw=>?_) (fun sw=>?_)
    ·
     refine A0<|A3 Y<|AJ<|Ae<|Zt<|Zt<|Ae<|Zt<|AP V KK Y (by exact ⟨congrArg Value.bool (C4 (fun B:Ga x=>by have ha:=(B.all i r hr).2 ek q hq;unfold UJ at ha;omega)).symm,V⟩)
    refine AC<|A8<|Zx<|Zg<|Ya (n:=1) Y Y<|Zm Y<|Z0<|Zn [64,1,3,4,62,63] ?_;refine Ab (e':=[(64,_)]) (by
     exact ⟨i+1,V,⟨by omega,fun j r9 W G=>by
      rcases Dg j i with B|B
      · exact Z j r9 B G
      · obtain rfl:j=i:=A1
        rw [hr]at G;injection G with G;subst G
        refine ⟨d9,fun pg q9 X=>?_⟩
        (rw [hq]at X;injection X with X;subst X;unfold UJ;omega)⟩,rfl,rfl⟩)
   rw [C4 j5];refine AF 17 V<|AF 18 V<|AF 19 V<|AF 20 V<|AF 21 V<|AF 22 V<|AF 23 V<|AF 24 V<|AF 25 V<|AF 26 V<|AH 27 V (AL Y Y)<|AH 28 V (AL Y Y)<|A2 29 V (AV Y Y)<|Ah<|Zn [1,3,4,62,63,64,133] ?_;refine Zx<|Ch Y<|AC<|A8<|Zx<|Zg<|Ya (n:=1) Y Y<|Zm Y<|Z0<|Zn [64,1,3,4,62,63] ?_;refine Ab (e':=[(64,_)]) (by
    exact ⟨i+1,V,⟨by omega,fun j r9 W G=>by
     rcases Dg j i with B|B
     · exact Z j r9 B G
     · obtain rfl:j=i:=A1
       rw [hr]at G;injection G with G;subst G
       refine ⟨d9,fun pg q9 X=>?_⟩
       (rw [hq]at X;injection X with X;subst X;unfold UJ;omega)⟩,rfl,rfl⟩)
  rw [C4 ek];refine AF 3 V<|AF 4 V<|AF 5 V<|AF 6 V<|AF 7 V<|AF 8 V<|AF 9 V<|AF 10 V<|AF 11 V<|AF 12 V<|AF 13 V<|AF 14 V<|AF 15 V<|AF 16 V<|AF 17 V<|AF 18 V<|AF 19 V<|AF 20 V<|AF 21 V<|AF 22 V<|AF 23 V<|AF 24 V<|AF 25 V<|AF 26 V<|AF 27 V<|AF 28 V<|A2 29 V (AL Y Y)<|Ah<|Zn [1,3,4,62,63,64,133] ?_;refine Zx<|Ch Y<|AC<|A8<|Zx<|Zg<|Ya (n:=1) Y Y<|Zm Y<|Z0<|Zn [64,1,3,4,62,63] ?_;refine Ab (e':=[(64,_)]) (by
   exact ⟨i+1,V,⟨by omega,fun j r9 W G=>by
    rcases Dg j i with B|B
    · exact Z j r9 B G
    · obtain rfl:j=i:=A1
      rw [hr]at G;injection G with G;subst G
      refine ⟨d9,fun pg q9 X=>?_⟩
      (exfalso;omega)⟩,rfl,rfl⟩)
 obtain ⟨r0,ic⟩:∃r,x.rows[0]?=some r:=⟨_,B4 A1⟩;obtain ⟨rl,gm⟩:∃r,x.rows[x.rows.length -1]?=some r:=⟨_,B4 A1⟩;have I:Ga x↔(x.fi=0\/Bl r0 x.cl<x.lo)/\(x.fi+(x.rows.length:Int)=x.ct\/x.hi<Bl rl x.cl):=⟨fun h=>⟨h.first r0 ic,h.last rl gm⟩,fun h=>⟨by omega,by omega,by omega,by omega,by omega,fun h0=>absurd h0 hz,fun j r W=>Z j r (by have:=(B9.1 W).1;omega) W,fun r W=>by rw [ic]at W;injection W with W;rw [<-W];exact h.1,fun r W=>by rw [gm]at W;injection W with W;rw [<-W];exact h.2⟩⟩
 refine Ay<|Zt<|Zt<|AR<|Zx<|Zq<|Az (n:=29) (0::1::3::7::15::31::15::79::255::511::1023::2047::4095::2047::16383::2047::34815::131071::262143::524287::524287::1572863::4194303::524287::8912895::33554431::67108863::134217727::268435455::[]) 4194336 A6 A6 V<|A2 0 V (AB (off:=5) D4 V rfl A5 Y)<|B3 1 V AE Y ?_;refine A2 2 V (CP Y Y)<|A2 3 V (AO Y)<|CW (t:=138) Y (fun ax=>?_) (fun ax=>?_)
 ·
  rw [CM ax];refine AF 4 V<|AF 5 V<|AF 6 V<|AF 7 V<|AF 8 V<|A2 9 V (AV Y Y)<|A2 10 V (AO Y)<|AH 11 V (AB (off:=5) D4 V rfl A5 Y)<|DA 12 V Wh (BO AE Y AN) ?_;refine AH 13 V (AO Y) ?_
  (refine AH 14 rfl (HV Y Y (IntWalk.i64_in _ ?_)) ?_;(focus (first|omega|(simp;omega))))
  refine AH 15 V (AB (off:=4) D4 V rfl A5 Y)<|DA 16 V Wh (BO AE Y AN) ?_;refine AH 17 V (CP Y Y)<|AH 18 V (AO Y)<|CW (t:=153) Y (fun bn=>?_) (fun bn=>?_)
  ·
   rw [CM bn];refine AF 19 V<|AF 20 V<|AF 21 V<|AF 22 V<|AF 23 V<|AF 24 V<|AF 25 V<|AH 26 V (AV Y Y)<|A2 27 V (AV Y Y)<|A2 28 V (Aw Y)<|Ah<|Zn [2] ?_;refine Zx<|AJ<|AP V KK Y (by exact ⟨by exact congrArg Value.bool (CM (I.2 ⟨by omega,by omega⟩)).symm,V⟩)
  rw [C4 bn];refine AH 19 V (AO Y)<|AH 20 V (AO Y) ?_
  (refine AH 21 rfl (CO (n:=1) Y Y ?_ ?_) ?_;(focus (first|omega|(simp;omega)));(focus (first|omega|(simp;omega))))
  refine AH 23 V (AB (off:=3) D4 V rfl A5 Y)<|DA 24 V Wh (BO AE Y AN) ?_;refine Yz 22 4194303 33554431 [24,16,12,1] [true,false,false,false] [(24,(_,_))] V Y V rfl V rfl (Zu [_] Y call301 Y V (He x vp vt hR A1 pb (x.rows.length -1) rl gm))<|CT<|B5<|AH 25 V (Er Y Y)<|AH 26 V (AL Y Y)<|A2 27 V (AV Y Y)<|A2 28 V (Aw Y)<|Ah<|Zn [2] ?_;refine Zx<|AJ<|AP V KK Y (by exact ⟨by exact Tz ⟨fun B=>I.2 ⟨by omega,by omega⟩,fun B=>by have:=I.1 B;omega⟩,V⟩)
 rw [C4 ax];refine AH 4 V (AO Y)<|AH 6 V (AB (off:=2) D4 V rfl A5 Y)<|DA 7 V Wh (BO AE Y AN) ?_;refine Yz 5 31 255 [7,1] [true,false] [(7,(_,_))] V Y V rfl V rfl (Zu [_] Y call301 Y V (He x vp vt hR A1 pb 0 r0 ic))<|CT<|B5<|AH 8 V (Dt Y Y)<|A2 9 V (AL Y Y)<|A2 10 V (AO Y)<|CW (t:=145) Y (fun cu=>?_) (fun cu=>?_)
 ·
  rw [CM cu];refine AH 11 V (AB (off:=5) D4 V rfl A5 Y)<|DA 12 V Wh (BO AE Y AN) ?_;refine AH 13 V (AO Y) ?_
  (refine AH 14 rfl (HV Y Y (IntWalk.i64_in _ ?_)) ?_;(focus (first|omega|(simp;omega))))
  refine AH 15 V (AB (off:=4) D4 V rfl A5 Y)<|DA 16 V Wh (BO AE Y AN) ?_;refine AH 17 V (CP Y Y)<|AH 18 V (AO Y)<|CW (t:=153) Y (fun cO=>?_) (fun cO=>?_)
  ·
   rw [CM cO];refine AF 19 V<|AF 20 V<|AF 21 V<|AF 22 V<|AF 23 V<|AF 24 V<|AF 25 V<|AH 26 V (AV Y Y)<|A2 27 V (AV Y Y)<|A2 28 V (Aw Y)<|Ah<|Zn [2] ?_;refine Zx<|AJ<|AP V KK Y (by exact ⟨by exact congrArg Value.bool (CM (I.2 ⟨by omega,by omega⟩)).symm,V⟩)
  rw [C4 cO];refine AH 19 V (AO Y)<|AH 20 V (AO Y) ?_
  (refine AH 21 rfl (CO (n:=1) Y Y ?_ ?_) ?_;(focus (first|omega|(simp;omega)));(focus (first|omega|(simp;omega))))
  refine AH 23 V (AB (off:=3) D4 V rfl A5 Y)<|DA 24 V Wh (BO AE Y AN) ?_;refine Yz 22 4194303 33554431 [24,16,12,7] [true,false,false,false] [(24,(_,_))] V Y V rfl V rfl (Zu [_] Y call301 Y V (He x vp vt hR A1 pb (x.rows.length -1) rl gm))<|CT<|B5<|AH 25 V (Er Y Y)<|AH 26 V (AL Y Y)<|A2 27 V (AV Y Y)<|A2 28 V (Aw Y)<|Ah<|Zn [2] ?_;refine Zx<|AJ<|AP V KK Y (by exact ⟨by exact Tz ⟨fun B=>I.2 ⟨by omega,by omega⟩,fun B=>by have:=I.1 B;omega⟩,V⟩)
 rw [C4 cu];refine AF 11 V<|AF 12 V<|AF 13 V<|AF 14 V<|AF 15 V<|AF 16 V<|AF 17 V<|AF 18 V<|AF 19 V<|AF 20 V<|AF 21 V<|AF 22 V<|AF 23 V<|AF 24 V<|AF 25 V<|AF 26 V<|A2 27 V (AL Y Y)<|A2 28 V (Aw Y)<|Ah<|Zn [2] ?_;refine Zx<|AJ<|AP V KK Y (by exact ⟨by exact congrArg Value.bool (C4 (fun B=>by have:=I.1 B;omega)).symm,V⟩)
def inB(x:RP)(r:AU):Bool:=decide (x.lo<=Bl r x.cl/\Bl r x.cl<=x.hi)
noncomputable def EN(x:RP):List AU:=if Ga x then x.rows.filter (inB x)else []
theorem dE(h:Ga x):EN x=x.rows.filter (inB x):=AM h
theorem yu(h:¬Ga x):EN x=[]:=AK h
theorem tQ{i:Nat}{r:AU}(g:x.rows[i]?=some r)(h:inB x r=true):(x.rows.take (i+1)).filter (inB x)=(x.rows.take i).filter (inB x)++[r]:=by rw [Bn g,Hh];simp [h]
theorem XR{i:Nat}{r:AU}(g:x.rows[i]?=some r)(h:inB x r=false):(x.rows.take (i+1)).filter (inB x)=(x.rows.take i).filter (inB x):=by rw [Bn g,Hh];simp [h]
set_option maxHeartbeats 4000000 in
theorem jr(hv:Xt M v x):BZ prog 218 #[v] [M] (fun r H'=>∃vr sr,r= .tuple #[vr,.bool (decide (Ga x))]/\Bb 5 83 vr (EN x).length (Af (EN x)) sr/\H'=[sr,M]):=by
 have gy:=mL;obtain ⟨vr,vp,vt,rfl,hR,hP,hT⟩:=id hv;obtain ⟨p,cap,e9,hl,hg⟩:=id hR;subst e9;refine Se func218 ntmps218 [0] ?_;intro u R;refine A0<|Ze (Bx #[_,_,_,_,_,_,_,_,_])<|AD fun pb=>Za Y<|A3 Y<|Zq<|A0<|Zo Wh (AA (cs:=#[I4 x.tb,I4 x.cl,I4 x.lo,I4 x.hi,I4 x.ct,I4 x.fi,.slice p x.rows.length cap,vp,vt]) cG L7 Y Ax AN) ?_;refine Xr [_] Y call271 Y V (Uc hv) ?_;refine Zv (Cm Y)<|A4<|Au Y (fun B=>?_) (fun B=>?_)
 ·
  refine BV<|A0<|Za Y<|A3 Y<|AJ<|Zt<|Cy rfl results218 Y Y (by exact ⟨.slice none 0 0,[],by rw [C4 B],by rw [yu B];exact Bf 5 _,rfl⟩)
 have B:=HT.1 B;have cO:=B.tc
 have d9:=B.ct;have ek:=B.n
 have gm:=B.fi;refine AC<|Zx<|A0<|A3 Y<|Zq<|A0<|Zh 6 D4 V rfl C6 Y<|Zl FA Y ?_;refine Zv (Aa B6 Y)<|Zm Y<|A4<|AQ<|BV<|Zb [4,14,1,12,13] ?_;refine BB (e0:=[(4,_),(14,_)]) (fun m e H=>∃(i:Nat) (vo:Value) (O:List A9),m=x.rows.length -i/\(i<=x.rows.length/\Bb 5 83 vo ((x.rows.take i).filter (inB x)).length (Af ((x.rows.take i).filter (inB x))) O)/\e=[(4,vo),(14,I4 (i:Int))]/\H=[O]) (by exact ⟨0,.slice none 0 0,[],rfl,⟨C0 _,by rw [Hx];exact Bf 5 _⟩,rfl,rfl⟩) Wp ?_;rintro _ _ _ ⟨i,vo,O,rfl,⟨hi,I⟩,rfl,rfl⟩;obtain ⟨qo,co,rfl⟩:=I.form;have gq:((x.rows.take i).filter (inB x)).length<=i:=Mb (MD _ _) (List.length_take_le _ _)
 refine A0<|Zv (Av Y Y)<|A4<|Zq<|Au Y (fun W=>?_) (fun W=>?_)
 ·
  obtain ⟨r,K⟩:∃r,x.rows[i]?=some r:=⟨_,B4 W⟩;obtain ⟨g,off,cur,T,zz,rfl,af,ax,U⟩:=hg i r K;refine AC<|Zx<|Zq<|AQ<|A0<|BX (Ac B6 An Y Y A1)<|CQ (cs:=[(g,.cells cur T zz)]) (by simp [af]) (AA (cs:=r.A29) CI An Y A1 U) V rfl ?_;refine Ze (Al DS #[_,_,_,_,_])<|AD fun rb=>Xe (Xw An r.A29) ?_;refine A4<|A0<|Zo Wh (AA (cs:=#[_,_,_,_,_]) CI An Y Ax AN) ?_;refine Zh 1 D4 V rfl A5 Y<|Zl AE Y ?_;refine Xr [_,_] Y S8 Y V (Fs r x.cl A1) ?_;refine A3 Y<|A0<|Zm Y<|Zh 2 D4 V rfl A5 Y<|Zl AE Y ?_;refine Zv (H9 Y Y)<|Zm Y<|Am (t:=26) Y V (fun X=>?_) (fun X=>?_)
  ·
   refine Zf Y Y<|Yf 3 D4 V rfl A5 Y<|Yl AE Y ?_;refine Yg (NC Y Y)<|Zv (AV Y Y)<|Z0<|Zn [1,4,6,12,13,14,31] ?_;refine Zx<|Au Y (fun Z=>?_) (fun Z=>?_)
   ·
    have G:inB x r=true:=CM A1;refine Zg<|Zm Y<|Zo Wh (AA (cs:=#[_,_,_,_,_]) CI An Y Ax AN) ?_;refine Ze (Aj (vs:=[_]) (cs:=[_,_,_,_,_]) B6 An DS Y V rfl V rfl V)<|AD fun gb=>Ze (BR (by_:=40) (sz:=5) B6 (V:Tryz.prog.info? 83=some Tryz.t83) V rfl V rfl Y (I) Y (DC 5 gb 1 1 83 (0,0) [I4 r.t,I4 r.k,I4 r.v.a,I4 r.v.b,I4 r.v.c] V) Wo Wo Fl A1 A1) ?_;rintro _ _ ⟨gB,J,rfl⟩;obtain ⟨cu,bn,rfl⟩:=J.form;refine AG Y<|A8<|Zx<|Zg<|Ya (n:=1) Y Y<|Zm Y<|Z0<|Zn [4,14,1,12,13] ?_;refine Ab (e':=[(4,_),(14,_)]) (by exact ⟨i+1,_,_,rfl,⟨by omega,BS J (by rw [tQ K G,B7];rfl) (by rw [tQ K G,Bh];rfl)⟩,rfl,rfl⟩)
   have G:inB x r=false:=C4 A1;refine AC<|A8<|Zx<|Zg<|Ya (n:=1) Y Y<|Zm Y<|Z0<|Zn [4,14,1,12,13] ?_;refine Ab (e':=[(4,_),(14,_)]) (by exact ⟨i+1,_,O,rfl,⟨by omega,BS I (by rw [XR K G]) (by rw [XR K G])⟩,rfl,rfl⟩)
  have G:inB x r=false:=C4 A1;refine A7 Y V<|A7 Y V<|A7 Y V<|A7 Y V<|Zv (AL Y Y)<|Z0<|Zn [1,4,6,12,13,14,31] ?_;refine Zx<|Ch Y<|AC<|A8<|Zx<|Zg<|Ya (n:=1) Y Y<|Zm Y<|Z0<|Zn [4,14,1,12,13] ?_;refine Ab (e':=[(4,_),(14,_)]) (by exact ⟨i+1,_,O,rfl,⟨by omega,BS I (by rw [XR K G]) (by rw [XR K G])⟩,rfl,rfl⟩)
 have ei:i=x.rows.length:=by omega
 subst ei;rw [G0]at I⊢;refine Ay<|Zt<|Zt<|AR<|Zx<|A0<|Zm Y<|Za Y<|A3 Y<|AJ<|Cy rfl results218 Y Y (by exact ⟨.slice qo _ co,O,by rw [CM B],by rw [dE B];exact I,rfl⟩)
end Go.Proofs.YteaiajghbkenoaaGreatDoor
