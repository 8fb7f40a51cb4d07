/- statetree: Prove. -/
import Derived.Test.YtfhjaegddfehhaaGreatDoorTr6
set_option linter.unusedVariables false
set_option linter.unusedSimpArgs false
namespace Go.Proofs.YtfhjaegddfehhaaGreatDoor
open Go.Proofs.Tryz
open Go Go.RowKit Gw
set_option maxRecDepth 100000
attribute [local irreducible] Gw.At Gw.Nx Gw.Ops
def Ce(pd:AV->Bool)(l:List AV):Nat:=(l.takeWhile (fun x=>!pd x)).length
theorem Gx(g:AV->Bool)(l:List AV):Ce g l<=l.length:=(List.takeWhile_sublist _).length_le
theorem Tv{g:AV->Bool}:∀{l:List AV} {i:Nat} {x:AV},l[i]?=some x->g x=true->(∀(j:Nat) (y:AV),j<i->l[j]?=some y->g y=false)->Ce g l=i
 |[],i,x,hx,_,_=>by simp at hx
 |z::l,0,x,hx,hp,_=>by
  simp only [Ys,W1]at hx;subst hx;simp [Ce,hp]
 |z::l,i+1,x,hx,hp,hno=>by
  simp only [cD]at hx;have h0:=hno 0 z A1 rfl
  have m:=Tv (l:=l) hx hp (fun j y B hy=>hno (j+1) y A1 hy);unfold Ce at m⊢;rw [PA,AM (by simp [h0]),DG,m]
theorem Nz{m:AV->Bool}:∀{l:List AV},(∀(j:Nat) (y:AV),l[j]?=some y->m y=false)->Ce m l=l.length
 |[],_=>rfl
 |z::l,hno=>by
  have h0:=hno 0 z rfl;have g:=Nz (l:=l) (fun j y hy=>hno (j+1) y hy)
  unfold Ce at g⊢;rw [PA,AM (by simp [h0]),DG,g,DG]
def R9(n len:Nat):Int:=if n<len then(n:Int)else-1
def geV(c:Nat)(lo:Int)(r:AV):Bool:=decide (lo<=Di r c)
def gtV(c:Nat)(hi:Int)(r:AV):Bool:=decide (hi<Di r c)
theorem tP(v lo:Int)(bl:Nat):BH prog 133 #[I4 v,I5 bl] [[(bl,.cells #[I4 lo] 3 (0,0))]] (.bool (decide (lo<=v))):=by
 refine Se func133 ntmps133 [0,1] ?_;intro u R;refine A0<|A3 Y<|A0<|Zm Y<|Zl AD Y<|Zv (Ha Y Y)<|A3 Y<|AJ<|AO V results133 Y (by exact ⟨V,V⟩)
theorem vj(r:AV)(c:Nat)(hc:c<=3)(lo:Int)(m g bl:Nat):BH prog 131 #[.agg r.A58,I5 m,I5 g] [[(m,.cells #[.func (.func 133) #[] #[I5 bl]] 100 (0,0))],[(g,.cells #[I4 (c:Int)] 3 (0,0))],[(bl,.cells #[I4 lo] 3 (0,0))]] (.bool (geV c lo r)):=by
 refine Se func131 ntmps131 [0,1,2] ?_;intro u R;refine A0<|Ze (Bx #[_,_,_,_,_])<|AE fun B=>A3 Y<|Zq<|Az (n:=6) (0::0::0::6::15::31::[]) 24 A6 A6 V<|B2 0 V isAgg100 Y ?_;refine E7 1 V Wh (Pa #[_,_,_,_,_] CI AW Y) ?_;refine B2 2 V AD Y ?_;refine Yz 3 6 15 [2,1,0] [false,false,true] [(0,(_,_))] V Y V rfl V rfl (Zu [_,_] Y SD Y V (Oa r c hc))<|CT<|B6<|Yw 4 31 V (Zu [_] Y call133 Y V (tP (Di r c) lo bl))<|CT<|A2 5 V (Av Y)<|Ag<|Zx<|AJ<|AO V results131 Y (by exact ⟨V,V⟩)
variable{M:List AA}{v:Value}{L:List AV}
theorem w8(hv:Db M v L)(hn:L.length<=1000000)(c:Nat)(hc:c<=3)(lo:Int)(K J bl:Nat):BH prog 130 #[v,.func (.func 131) #[] #[I5 K,I5 J]] [[(K,.cells #[.func (.func 133) #[] #[I5 bl]] 100 (0,0))],[(J,.cells #[I4 (c:Int)] 3 (0,0))],[(bl,.cells #[I4 lo] 3 (0,0))],M] (I4 (R9 (Ce (geV c lo) L) L.length)):=by
 have af:=mL;obtain ⟨p,cap,rfl,hl,Z⟩:=hv;refine Se func130 ntmps130 [0,1] ?_;intro u R;refine A0<|A3 Y<|Zq<|A0<|Zm Y<|Zv (AY B5 Y)<|Zm Y<|A5<|AR<|Zb [8,0,1,7] ?_;refine BA (e0:=[(8,_)]) (fun m e H=>∃(i:Nat),m=L.length -i/\(i<=L.length/\∀(j:Nat) (y:AV),j<i->L[j]?=some y->geV c lo y=false)/\e=[(8,I4 (i:Int))]/\H=[]) (by exact ⟨0,V,⟨C0 _,by intro j y hj;omega⟩,V,V⟩) Wp ?_;rintro _ _ _ ⟨i,rfl,⟨hi,G⟩,rfl,rfl⟩;refine A0<|Zv (Au Y Y)<|A5<|Zq<|Aq Y (fun B=>?_) (fun B=>?_);·
  obtain ⟨x,hx⟩:∃x,L[i]?=some x:=⟨_,B3 B⟩;obtain ⟨g,off,cur,T,zz,rfl,U,X,I⟩:=Z i x hx;refine AC<|Zx<|Zq<|AR<|A0<|Zm Y<|A3 Y<|A0<|Zm Y<|Zm Y<|Zm Y<|Bb (Ac B5 AW Y Y A1)<|CS (cs:=[(g,.cells cur T zz)]) (by simp [U]) (A9 (cs:=x.A58) CI AW Y A1 I) V rfl<|Xr [_] Y call131 Y V (vj x c hc lo K J bl)<|A5<|AX Y (fun W=>?_) (fun W=>?_);·
   refine A0<|Zm Y<|A3 Y<|AJ<|Ad<|Zt<|Zt<|Ad<|Zt<|AO rfl fj Y (by exact ⟨by rw [Tv hx W G];unfold R9;rw [AM B],rfl⟩)
  refine AC<|A8<|Zx<|Zg<|Ya (n:=1) Y Y<|Zm Y<|Z0<|Zn [8,0,1,7] ?_;refine Ab (e':=[(8,_)]) (by exact ⟨i+1,rfl,⟨by omega,fun j y hj hy=>by rcases E0 j i with h9|h9;exact G j y h9 hy;obtain rfl:j=i:=A1;rw [hx]at hy;injection hy with hy;rw [<-hy];exact W⟩,rfl,rfl⟩)
 have O:Ce (geV c lo) L=L.length:=Nz (fun j y hy=>G j y (by have:=(BE.1 hy).1;omega) hy);refine Ay<|Zt<|Zt<|AU<|Zx<|A0<|A3 Y<|AJ<|AO rfl fj Y (by exact ⟨by rw [O];unfold R9;rw [AK A1],rfl⟩)
theorem tW{J W:Value}(hv:Db M J L)(hn:L.length<=1000000)(c:Nat)(hc:c<=3)(lo:Int)(I m bl:Nat):BH prog 129 #[.func (.func 133) #[] #[I5 bl],I5 I,I5 m] [[(I,.cells #[J,W] 236 (0,0))],[(m,.cells #[I4 (c:Int)] 3 (0,0))],[(bl,.cells #[I4 lo] 3 (0,0))],M] (I4 ((Ce (geV c lo) L:Nat):Int)):=by
 have U:=mL;obtain ⟨p,cap,rfl,Z,X⟩:=id hv;have O:=Gx (geV c lo) L
 refine Se func129 ntmps129 [0,1,2] ?_;intro u R;refine A0<|Ze (Bx #[_])<|AE fun K=>A3 Y<|A0<|Zh 0 N3 V rfl C6 Y<|Zl F1 Y<|Zv (Bg (vs:=[]) (us:=[_,_]) Y Y)<|Xr [_,_] Y call130 Y V (w8 hv hn c hc lo K m bl)<|A3 Y<|Zq<|A0<|Zm Y<|Zv (Dv Y Y)<|A5<|Aq Y (fun g=>?_) (fun g=>?_);·
  have B:Ce (geV c lo) L=L.length:=by
   rcases E0 (Ce (geV c lo) L) L.length with h9|h9
   · unfold R9 at g;rw [AM h9]at g;omega
   · omega
  refine A0<|Zh 0 N3 V rfl C6 Y<|Zl F1 Y<|Zv (AY B5 Y)<|AG Y<|Zn [4] ?_;refine Zx<|AJ<|Zt<|AO rfl results129 Y (by exact ⟨by rw [B],rfl⟩)
 have G:Ce (geV c lo) L<L.length:=by
  rcases E0 (Ce (geV c lo) L) L.length with h9|h9
  · exact h9
  · unfold R9 at g;rw [AK A1]at g;omega
 refine AC<|Zx<|A0<|Zm Y<|A3 Y<|AJ<|AO rfl results129 Y (by exact ⟨by unfold R9;rw [AM G],rfl⟩)
theorem tM(v lo:Int)(bl:Nat):BH prog 134 #[I4 v,I5 bl] [[(bl,.cells #[I4 lo] 3 (0,0))]] (.bool (decide (lo<v))):=by
 refine Se func134 ntmps134 [0,1] ?_;intro u R;refine A0<|A3 Y<|A0<|Zm Y<|Zl AD Y<|Zv (Ev Y Y)<|A3 Y<|AJ<|AO V results134 Y (by exact ⟨V,V⟩)
theorem vi(r:AV)(c:Nat)(hc:c<=3)(lo:Int)(m g bl:Nat):BH prog 131 #[.agg r.A58,I5 m,I5 g] [[(m,.cells #[.func (.func 134) #[] #[I5 bl]] 100 (0,0))],[(g,.cells #[I4 (c:Int)] 3 (0,0))],[(bl,.cells #[I4 lo] 3 (0,0))]] (.bool (gtV c lo r)):=by
 refine Se func131 ntmps131 [0,1,2] ?_;intro u R;refine A0<|Ze (Bx #[_,_,_,_,_])<|AE fun B=>A3 Y<|Zq<|Az (n:=6) (0::0::0::6::15::31::[]) 24 A6 A6 V<|B2 0 V isAgg100 Y ?_;refine E7 1 V Wh (Pa #[_,_,_,_,_] CI AW Y) ?_;refine B2 2 V AD Y ?_;refine Yz 3 6 15 [2,1,0] [false,false,true] [(0,(_,_))] V Y V rfl V rfl (Zu [_,_] Y SD Y V (Oa r c hc))<|CT<|B6<|Yw 4 31 V (Zu [_] Y call134 Y V (tM (Di r c) lo bl))<|CT<|A2 5 V (Av Y)<|Ag<|Zx<|AJ<|AO V results131 Y (by exact ⟨V,V⟩)
theorem w7(hv:Db M v L)(hn:L.length<=1000000)(c:Nat)(hc:c<=3)(lo:Int)(K J bl:Nat):BH prog 130 #[v,.func (.func 131) #[] #[I5 K,I5 J]] [[(K,.cells #[.func (.func 134) #[] #[I5 bl]] 100 (0,0))],[(J,.cells #[I4 (c:Int)] 3 (0,0))],[(bl,.cells #[I4 lo] 3 (0,0))],M] (I4 (R9 (Ce (gtV c lo) L) L.length)):=by
 have af:=mL;obtain ⟨p,cap,rfl,hl,Z⟩:=hv;refine Se func130 ntmps130 [0,1] ?_;intro u R;refine A0<|A3 Y<|Zq<|A0<|Zm Y<|Zv (AY B5 Y)<|Zm Y<|A5<|AR<|Zb [8,0,1,7] ?_;refine BA (e0:=[(8,_)]) (fun m e H=>∃(i:Nat),m=L.length -i/\(i<=L.length/\∀(j:Nat) (y:AV),j<i->L[j]?=some y->gtV c lo y=false)/\e=[(8,I4 (i:Int))]/\H=[]) (by exact ⟨0,V,⟨C0 _,by intro j y hj;omega⟩,V,V⟩) Wp ?_;rintro _ _ _ ⟨i,rfl,⟨hi,G⟩,rfl,rfl⟩;refine A0<|Zv (Au Y Y)<|A5<|Zq<|Aq Y (fun B=>?_) (fun B=>?_);·
  obtain ⟨x,hx⟩:∃x,L[i]?=some x:=⟨_,B3 B⟩;obtain ⟨g,off,cur,T,zz,rfl,U,X,I⟩:=Z i x hx;refine AC<|Zx<|Zq<|AR<|A0<|Zm Y<|A3 Y<|A0<|Zm Y<|Zm Y<|Zm Y<|Bb (Ac B5 AW Y Y A1)<|CS (cs:=[(g,.cells cur T zz)]) (by simp [U]) (A9 (cs:=x.A58) CI AW Y A1 I) V rfl<|Xr [_] Y call131 Y V (vi x c hc lo K J bl)<|A5<|AX Y (fun W=>?_) (fun W=>?_);·
   refine A0<|Zm Y<|A3 Y<|AJ<|Ad<|Zt<|Zt<|Ad<|Zt<|AO rfl fj Y (by exact ⟨by rw [Tv hx W G];unfold R9;rw [AM B],rfl⟩)
  refine AC<|A8<|Zx<|Zg<|Ya (n:=1) Y Y<|Zm Y<|Z0<|Zn [8,0,1,7] ?_;refine Ab (e':=[(8,_)]) (by exact ⟨i+1,rfl,⟨by omega,fun j y hj hy=>by rcases E0 j i with h9|h9;exact G j y h9 hy;obtain rfl:j=i:=A1;rw [hx]at hy;injection hy with hy;rw [<-hy];exact W⟩,rfl,rfl⟩)
 have O:Ce (gtV c lo) L=L.length:=Nz (fun j y hy=>G j y (by have:=(BE.1 hy).1;omega) hy);refine Ay<|Zt<|Zt<|AU<|Zx<|A0<|A3 Y<|AJ<|AO rfl fj Y (by exact ⟨by rw [O];unfold R9;rw [AK A1],rfl⟩)
theorem tU{J W:Value}(hv:Db M J L)(hn:L.length<=1000000)(c:Nat)(hc:c<=3)(lo:Int)(I m bl:Nat):BH prog 129 #[.func (.func 134) #[] #[I5 bl],I5 I,I5 m] [[(I,.cells #[J,W] 236 (0,0))],[(m,.cells #[I4 (c:Int)] 3 (0,0))],[(bl,.cells #[I4 lo] 3 (0,0))],M] (I4 ((Ce (gtV c lo) L:Nat):Int)):=by
 have U:=mL;obtain ⟨p,cap,rfl,Z,X⟩:=id hv;have O:=Gx (gtV c lo) L
 refine Se func129 ntmps129 [0,1,2] ?_;intro u R;refine A0<|Ze (Bx #[_])<|AE fun K=>A3 Y<|A0<|Zh 0 N3 V rfl C6 Y<|Zl F1 Y<|Zv (Bg (vs:=[]) (us:=[_,_]) Y Y)<|Xr [_,_] Y call130 Y V (w7 hv hn c hc lo K m bl)<|A3 Y<|Zq<|A0<|Zm Y<|Zv (Dv Y Y)<|A5<|Aq Y (fun g=>?_) (fun g=>?_);·
  have B:Ce (gtV c lo) L=L.length:=by
   rcases E0 (Ce (gtV c lo) L) L.length with h9|h9
   · unfold R9 at g;rw [AM h9]at g;omega
   · omega
  refine A0<|Zh 0 N3 V rfl C6 Y<|Zl F1 Y<|Zv (AY B5 Y)<|AG Y<|Zn [4] ?_;refine Zx<|AJ<|Zt<|AO rfl results129 Y (by exact ⟨by rw [B],rfl⟩)
 have G:Ce (gtV c lo) L<L.length:=by
  rcases E0 (Ce (gtV c lo) L) L.length with h9|h9
  · exact h9
  · unfold R9 at g;rw [AK A1]at g;omega
 refine AC<|Zx<|A0<|Zm Y<|A3 Y<|AJ<|AO rfl results129 Y (by exact ⟨by unfold R9;rw [AM G],rfl⟩)
theorem Qp(t c:Int):BH prog 127 #[I4 t,I4 c] [] (.bool (decide ((0<=t/\t<4)/\0<=c/\c<4))):=by
 refine Se func127 ntmps127 [0,1] ?_;intro u R;refine A0<|A3 Y<|A0<|Zm Y<|Zv (Ha Y Y)<|Zm Y<|Aj (t:=7) Y V (fun g=>?_) (fun g=>?_);·
  refine Zf Y Y<|Yg (Dv Y Y)<|Zv (AQ Y Y)<|Zm Y<|Aj (t:=11) Y V (fun h2=>?_) (fun h2=>?_);·
   refine Zf Y Y<|Yg (Ha Y Y)<|Zv (AQ Y Y)<|Zm Y<|Aj (t:=15) Y V (fun m=>?_) (fun m=>?_);·
    refine Zf Y Y<|Yg (Dv Y Y)<|Zv (AQ Y Y)<|AG Y<|Zn [4] ?_;refine Zx<|AJ<|AO V results127 Y (by exact ⟨by exact congrArg Value.bool (decide_eq_decide.2 A1),V⟩)
   refine A7 Y V<|A7 Y V<|Zv (AL Y Y)<|AG Y<|Zn [4] ?_;refine Zx<|AJ<|AO V results127 Y (by exact ⟨by exact congrArg Value.bool (CN A1).symm,V⟩)
  refine A7 Y V<|A7 Y V<|Zv (AL Y Y)<|Zm Y<|A7 Y V<|A7 Y V<|Zv (AL Y Y)<|AG Y<|Zn [4] ?_;refine Zx<|AJ<|AO V results127 Y (by exact ⟨by exact congrArg Value.bool (CN A1).symm,V⟩)
 refine A7 Y V<|A7 Y V<|Zv (AL Y Y)<|Zm Y<|A7 Y V<|A7 Y V<|Zv (AL Y Y)<|Zm Y<|A7 Y V<|A7 Y V<|Zv (AL Y Y)<|AG Y<|Zn [4] ?_;refine Zx<|AJ<|AO V results127 Y (by exact ⟨by exact congrArg Value.bool (CN A1).symm,V⟩)
structure RP where
 tb:Int
 cl:Int
 lo:Int
 hi:Int
 ct:Int
 fi:Int
 rows:List AV
 paths:List (List Bs)
 roots:List Bs
deriving DecidableEq
def Bp(L:List AV)(c:Nat)(lo:Int):Nat:=Ce (geV c lo) L -1
def toT(L:List AV)(c:Nat)(hi:Int):Nat:=min (Ce (gtV c hi) L+1) L.length
def JF(L:List AV)(f k:Nat):List (List Bs):=(List.range k).map fun j=>FI (O1 L) (f+j)
def Ep(rs:List AV)(t c:Nat)(lo hi:Int):RP:=
 ⟨t,c,lo,hi,(BG rs (t:Int) c).length,(Bp (BG rs (t:Int) c) c lo:Nat),((BG rs (t:Int) c).drop (Bp (BG rs (t:Int) c) c lo)).take (toT (BG rs (t:Int) c) c hi -Bp (BG rs (t:Int) c) c lo),
   JF (BG rs (t:Int) c) (Bp (BG rs (t:Int) c) c lo) (toT (BG rs (t:Int) c) c hi -Bp (BG rs (t:Int) c) c lo),bW rs⟩
def Ju(M:List AA)(pvs:List Value)(ps:List (List Bs)):Prop:=pvs.length=ps.length/\∀(i:Nat) (v:Value) (l:List Bs),pvs[i]?=some v->ps[i]?=some l->EN M v l
theorem Q6(M:List AA):Ju M [] []:=⟨rfl,by intro i v l h;simp at h⟩
theorem Ju.snoc{B:List AA}{g:List Value}{ps:List (List Bs)}(h:Ju M g ps){l:List Bs}(hv:EN B v l)(I:∀c∈M,c∈B):Ju B (g++[v]) (ps++[l]):=by
 obtain ⟨G,h2⟩:=h;refine ⟨by rw [B7,B7,G];rfl,?_⟩;intro i w k hi m;rcases E0 i g.length with h9|h9
 · rw [cC h9]at hi
   rw [cC A1]at m;exact (h2 i w k hi m).mono I
 · rw [SM h9]at hi
   rw [SM A1]at m;rw [G]at hi;cases h:i -ps.length with
   |zero=>rw [h]at hi m;simp at hi m;rw [<-hi,<-m];exact hv
   |succ n=>rw [h]at hi;simp at hi
theorem Qg(L:List AV)(f k:Nat):JF L f (k+1)=JF L f k++[FI (O1 L) (f+k)]:=by unfold JF;rw [ir,BW];rfl
theorem dh(L:List AV)(f k:Nat):(JF L f k).length=k:=by unfold JF;rw [B4,cG]
theorem iw{e:TypeId}{n:Nat}{xs:List Value}{s:List AA}(h:Bc 1 e v n xs s):n<=maxLen:=by
 obtain ⟨_,⟨_,h0,_⟩|⟨_,_,_,_,_,_,g,h2,_⟩⟩:=h;· omega
 · omega
theorem Y9(rs:List AV):(bW rs).length=16:=by unfold bW;rw [B4];rfl
set_option maxHeartbeats 4000000 in
theorem dS(v:Value)(p:Int)(rs:List AV)(s:List AA)(hv:RH v p rs s)(hs:BQ rs)(hn:rs.length<=2000)(gB:∀r∈rs,r.ok)(t c:Nat)(ht:t<=3)(hc:c<=3)(lo hi:Int)(qj:lo<=hi)(Tg:TypeId)(zg:Nat×Nat):
 Ba prog 83 #[v,I4 (t:Int),I4 (c:Int),I4 lo,I4 hi] [[(4,.cells (Et.map Cs).toArray Tg zg)],s] (fun r H'=>∃vr vp vt O sp J X so,r= .tuple #[.agg #[I4 (t:Int),I4 (c:Int),I4 lo,I4 hi,I4 (((BG rs (t:Int) c).length:Nat):Int),I4 (((Bp (BG rs (t:Int) c) c lo):Nat):Int),vr,vp,vt],I4 0]/\Bc 5 71 vr (((BG rs (t:Int) c).drop (Bp (BG rs (t:Int) c) c lo)).take ((toT (BG rs (t:Int) c) c hi) -(Bp (BG rs (t:Int) c) c lo))).length (Ae (((BG rs (t:Int) c).drop (Bp (BG rs (t:Int) c) c lo)).take ((toT (BG rs (t:Int) c) c hi) -(Bp (BG rs (t:Int) c) c lo)))) O/\Bc 1 45 vp ((toT (BG rs (t:Int) c) c hi) -(Bp (BG rs (t:Int) c) c lo)) J sp/\Ju X J (JF (BG rs (t:Int) c) (Bp (BG rs (t:Int) c) c lo) ((toT (BG rs (t:Int) c) c hi) -(Bp (BG rs (t:Int) c) c lo)))/\Bc 1 9 vt 16 ((bW rs).map GH) so/\H'=[O,sp,X,so,[(4,.cells (Et.map Cs).toArray Tg zg)],s]):=by
 have qo:=mL;obtain ⟨sj,r9,pq,pg,qz,rfl,p8⟩:=id hv;have ql:=JH hs (t:Int) c
 have pz:=Gx (geV c lo) (BG rs (t:Int) c);have q9:=Gx (gtV c hi) (BG rs (t:Int) c)
 have qa:(Bp (BG rs (t:Int) c) c lo)=Ce (geV c lo) (BG rs (t:Int) c) -1:=rfl;have qy:(toT (BG rs (t:Int) c) c hi)=min (Ce (gtV c hi) (BG rs (t:Int) c)+1) (BG rs (t:Int) c).length:=rfl
 refine Se func83 ntmps83 [0,1,2,3,4] ?_;intro u R;refine A0<|Ze (Bx #[_])<|AE fun bc=>Ze (Bx #[_])<|AE fun bl=>Ze (Bx #[_])<|AE fun bh=>Ze (Al cL #[_,_,_,_,_,_,_,_,_])<|AE fun qb=>A3 Y<|Zq<|AR<|A0<|Zm Y<|Zv (Be ml Y Y)<|A3 Y<|AX Y (fun h1=>by cases h1)<|fun h1=>A0<|Zm Y<|Zl AD Y ?_;refine Xr [_,_] Y call127 Y V (Qp (t:Int) (c:Int)) ?_;rw [Cp (show((0<=(t:Int)/\(t:Int)<4)/\0<=(c:Int)/\(c:Int)<4) by omega)];refine Zv (Br Y)<|Zm Y<|Af (t:=29) Y V (fun h2=>by cases h2)<|fun h2=>Yl AD Y ?_;refine Yl AD Y ?_;refine Yg (Ev Y Y)<|Zv (AL Y Y)<|AG Y<|Zn [0,1,7,8,9,10,24] ?_;refine Zx<|Aq Y (fun h3=>by omega)<|fun h3=>AC<|A8<|Zx<|A0<|Zm Y<|Zm Y<|Zl AD Y ?_;refine Zc [_,_,_] Y call128 Y V (TG _ p rs s hv hs hn gB (t:Int) c hc) ?_;rintro _ _ ⟨_,⟨vr,ve,sr,se,rfl,hO,rfl⟩,rfl⟩;obtain ⟨qr,cr,rfl⟩:=hO.1.form;obtain ⟨qe,ce,rfl⟩:=hO.2.form;have kv:=DU hO.1 A1
 have lw:EN se (.slice qe (BG rs (t:Int) c).length ce) (O1 (BG rs (t:Int) c)):=Gg (BS hO.2 (GU _).symm rfl) (by rw [GU];omega);obtain ⟨p9,o9,e9,qw,hg⟩:=id kv;injection e9 with e91 e92 e93
 subst e91 e93;refine Ze (Al ju #[_,_])<|AE fun ob=>Xe (Xw eA #[.slice qr (BG rs (t:Int) c).length cr,.slice qe (BG rs (t:Int) c).length ce]) ?_;refine A5<|A0<|Zv (Bg (vs:=[]) (us:=[_,_]) Y Y)<|A3 Y<|A0<|Zm Y<|Zv (Bg (vs:=[]) (us:=[_]) Y Y)<|Xr [_] Y call129 Y V (tW kv A1 c hc lo ob bc bl) ?_
 (refine Bb (GL Y Y (IntWalk.i64_in _ ?_)) ?_;(focus (omega)))
 refine Zv (eO Y Y)<|AG Y<|Zn [0,1,7,8,9,10,12,13,14] ?_;refine Zx<|Zq<|Az (n:=9) (0::0::3::7::0::16::48::127::255::[]) 4 A6 A6 V<|A2 0 V (AP Y)<|A2 1 V (Bg (vs:=[]) (us:=[_]) Y Y)<|A2 4 V (AB (off:=0) N3 V rfl C6 Y)<|B2 5 V F1 Y ?_;refine A2 6 V (AY B5 Y)<|Zz (l:=[2])<|B1 [true] [(5,(_,_))] V rfl (Zu [_] Y call129 Y V (tU kv A1 c hc hi ob bc bh)) ?_ (fun _ _ h=>h.elim) Ai;rintro _ _ ⟨rfl,rfl⟩;refine B6<|A2 3 V (EC (n:=1) Y Y A1)<|A2 7 V (QA Y Y)<|A2 8 V (Av Y)<|Ag<|Zx<|Zq<|Az (n:=13) (0::0::0::0::0::16::48::0::0::256::1023::0::4095::[]) 6656 A6 A6 V<|A2 0 V (AP Y)<|B2 1 V AD Y ?_;refine B2 2 V AD Y ?_;refine B2 3 V AD Y ?_;refine A2 4 V (AB (off:=0) N3 V rfl C6 Y)<|B2 5 V F1 Y ?_;refine A2 6 V (AY B5 Y)<|A2 7 V (AP Y)<|A2 8 V (AP Y)<|Zz (l:=[9,11])<|B1 [true,true,true,true] [(5,(_,_)),(3,(_,_)),(2,(_,_)),(1,(_,_))] V rfl (Zw [_] Y call135 Y V (Uy _ p rs s hv hs hn gB Tg zg)) ?_ Bv ?_;·
  rintro _ _ ⟨_,⟨so,gF,rfl⟩,rfl⟩;refine ⟨Zk (Zk (Zk (Zk (Aa)))),?_⟩;obtain ⟨qt,ct,rfl⟩:=gF.form;refine A2 10 V (BM (vs:=[(0,I4 (t:Int)),(1,I4 (c:Int)),(2,I4 lo),(3,I4 hi),(4,I4 (((BG rs (t:Int) c).length:Nat):Int)),(5,I4 (((Bp (BG rs (t:Int) c) c lo):Nat):Int)),(8,.slice qt 16 ct)]) (cs:=#[I4 (t:Int),I4 (c:Int),I4 lo,I4 hi,I4 (((BG rs (t:Int) c).length:Nat):Int),I4 (((Bp (BG rs (t:Int) c) c lo):Nat):Int),.slice none 0 0,.slice none 0 0,.slice qt 16 ct]) Y (AZ (pl:=#[(0,1),(1,1),(2,1),(3,1),(4,1),(5,1),(6,1),(7,1),(8,1)]) cL C4 (fun _=>by kernel_rfl) A6))<|Yz 11 0 4095 [5,3,2,1] [true,true,true,true] [(5,(_,_)),(3,(_,_)),(2,(_,_)),(1,(_,_))] V Y V rfl V rfl (Al cL #[_,_,_,_,_,_,_,_,_])<|AE fun pb=>B6<|Yw 12 8191 V (Xw Hv #[I4 (t:Int),I4 (c:Int),I4 lo,I4 hi,I4 (((BG rs (t:Int) c).length:Nat):Int),I4 (((Bp (BG rs (t:Int) c) c lo):Nat):Int),.slice none 0 0,.slice none 0 0,.slice qt 16 ct])<|CT<|Ag<|Zn [10,12,14,15,16] ?_;refine Zx<|Zq<|A0<|Zm Y<|A3 Y<|AR<|BU<|BU<|BU<|Zb [17,10,12,15,16] ?_;refine BA (e0:=[(17,_)]) (fun m e H=>∃(k:Nat) (bn:Value) (O:List AA) (vp:Value) (sp:List AA) (J:List Value) (X:List AA),m=(toT (BG rs (t:Int) c) c hi) -(Bp (BG rs (t:Int) c) c lo) -k/\(k<=(toT (BG rs (t:Int) c) c hi) -(Bp (BG rs (t:Int) c) c lo)/\Bc 5 71 bn k (Ae (((BG rs (t:Int) c).drop (Bp (BG rs (t:Int) c) c lo)).take k)) O/\Bc 1 45 vp k J sp/\Ju X J (JF (BG rs (t:Int) c) (Bp (BG rs (t:Int) c) c lo) k))/\e=[(17,I4 (((Bp (BG rs (t:Int) c) c lo)+k:Nat):Int))]/\H=[[(pb,.cells #[I4 (t:Int),I4 (c:Int),I4 lo,I4 hi,I4 (((BG rs (t:Int) c).length:Nat):Int),I4 (((Bp (BG rs (t:Int) c) c lo):Nat):Int),bn,vp,.slice qt 16 ct] 143 (0,0))],O,sp,X]) (by exact ⟨0,.slice none 0 0,[],.slice none 0 0,[],[],[],rfl,⟨C0 _,by rw [ID];exact Bf 5 _,Bf 1 _,Q6 _⟩,rfl,rfl⟩) Wp ?_;rintro _ _ _ ⟨k,bn,O,vp,sp,J,X,rfl,⟨hk,W,U,hP⟩,rfl,rfl⟩;obtain ⟨q2,c2,rfl⟩:=W.form;obtain ⟨q3,c3,rfl⟩:=U.form
  refine Zq<|A0<|Zm Y<|Zm Y<|Zv (Au Y Y)<|A5<|Aq Y (fun l5=>?_) (fun l5=>?_);·
   obtain ⟨x,hx⟩:∃x,(BG rs (t:Int) c)[(Bp (BG rs (t:Int) c) c lo)+k]?=some x:=⟨_,B3 A1⟩;obtain ⟨g,off,cur,T,zz,rfl,l8,o8,gy⟩:=hg _ x hx;have bg:((BG rs (t:Int) c).drop (Bp (BG rs (t:Int) c) c lo))[k]?=some x:=by rw [NO];exact hx
   refine AC<|Zx<|Zq<|AR<|A0<|Zh 1 N3 V rfl HB Y<|Zl Hc Y ?_;refine Zm Y<|Zc [_,_] Y call136 Y rfl (Si lw (by rw [GU];omega) (fun s h=>by have:=Xa (fun r hr=>gB r (Md hr)) s h;omega) ((Bp (BG rs (t:Int) c) c lo)+k) (by rw [GU];omega) Tg zg) ?_;rintro _ _ ⟨_,⟨l9,I,rfl,K,rfl⟩,rfl⟩;have ax:(FI (O1 (BG rs (t:Int) c)) ((Bp (BG rs (t:Int) c) c lo)+k)).length<=maxLen:=iw K
   have j5:=Gg K ax;have af:=Qg (BG rs (t:Int) c) (Bp (BG rs (t:Int) c) c lo) k▸hP.snoc (j5.mono (fun c h=>Dg X h)) (fun c h=>G2 I h)
   obtain ⟨qx,cx,rfl⟩:=K.form;refine Zm Y<|Zd Y V<|Zd Y V<|Za Y<|A3 Y<|CK (s1:=I) (s2:=X) Wo Wo ?_;refine Az (n:=18) (0::1::0::4::0::28::60::124::255::0::512::0::2048::8191::2047::32767::65535::131071::[]) 176512 A6 A6 V<|A2 0 V (AB (off:=6) C4 V rfl C6 Y)<|B2 1 V F1 Y ?_;refine A2 2 V (AB (off:=0) N3 V rfl C6 Y)<|B2 3 V F1 Y ?_;refine A2 4 V (AP Y)<|A2 5 V (Ac B5 AW Y Y A1)<|CQ (b:=g) (x:= .cells cur T zz) (D':=127) 6 V rfl V (by simp [l8]) (A9 (cs:=x.A58) CI AW Y A1 gy) ?_;refine A2 9 V (AB (off:=7) C4 V rfl HU Y)<|B2 10 V V1 Y ?_;refine A2 11 V (AP Y)<|Zz (l:=[7,12])<|B1 [true,false,false,true] [(10,(_,_)),(1,(_,_))] V rfl (Ah (vs:=[_]) (cs:=[_,_,_,_,_]) B5 AW DS Y V rfl V rfl V) ?_ (fun _ _ h=>h.elim) ?_;·
    rintro _ _ ⟨Z,rfl,rfl⟩;refine B6<|Zz (l:=[8,12])<|B1 [true,false] [(10,(_,_))] V rfl (BR (by_:=40) (sz:=5) B5 (V:Tryz.prog.info? 71=some Tryz.t71) V rfl V rfl Y (W) Y (D8 5 Z 1 1 71 (0,0) [I4 x.t,I4 x.k,I4 x.v.a,I4 x.v.b,I4 x.v.c] V) Wo Wo Fm A1 A1) ?hk_7 (fun _ _ h=>h.elim) ?hl_7
    case hk_7=>
     rintro _ _ ⟨ic,B,rfl⟩;refine ⟨Zk (Aa),?_⟩;obtain ⟨d9,cu,rfl⟩:=B.form;refine A2 14 V (AB (off:=6) C4 V rfl C6 Y)<|Zz (l:=[12])<|B1 [true] [(10,(_,_))] V rfl (Ah (vs:=[_]) (cs:=[_]) Hs HB Up Y V rfl V rfl V) ?_ (fun _ _ h=>h.elim) Ai;rintro _ _ ⟨gm,rfl,rfl⟩;refine B6<|Yw 13 32767 V (E5 (by_:=24) (sz:=1) (news:=[_]) Hs (V:Tryz.prog.info? 45=some Tryz.t45) V rfl V rfl Y U Y Wo Wh AN V bj AH A1 A1) ?_;rintro _ _ ⟨j3,G,rfl⟩;obtain ⟨gq,cO,rfl⟩:=G.form;refine Yw 15 65535 V (Zs C6 Y Y V (hc:=by exact (V:_=(#[I4 (t:Int),I4 (c:Int),I4 lo,I4 hi,I4 (((BG rs (t:Int) c).length:Nat):Int),I4 (((Bp (BG rs (t:Int) c) c lo):Nat):Int),_,_,.slice qt 16 ct]:Array Value))) (hi:=by(simp;done)))<|CT<|A2 16 V (AB (off:=7) C4 V rfl HU Y)<|Zz (l:=[17])<|B1 [] [] V rfl (Zs HU Y Y V (hc:=by exact (V:_=(#[I4 (t:Int),I4 (c:Int),I4 lo,I4 hi,I4 (((BG rs (t:Int) c).length:Nat):Int),I4 (((Bp (BG rs (t:Int) c) c lo):Nat):Int),_,_,.slice qt 16 ct]:Array Value))) (hi:=by(simp;done))) ?_ (fun _ _ h=>h.elim) Ai;rintro _ _ ⟨rfl,rfl⟩;refine B6<|Ag<|Zn [10,12,15,16,17] ?_;refine A8<|Zx<|Zg<|Zm Y<|Ya (n:=1) Y Y<|AG Y<|Zn [17,10,12,15,16] ?_;refine Ab (e':=[(17,_)]) (by exact ⟨k+1,_,_,_,_,J++[_],I++X,rfl,⟨by omega,BS B rfl (by rw [Bi bg,Bh];rfl),BS G rfl rfl,af⟩,rfl,rfl⟩)
    refine B1 [true,true] [(10,(_,_)),(1,(_,_))] V rfl (Ah (vs:=[_]) (cs:=[_]) Hs HB Up Y V rfl V rfl V) ?_ (fun _ _ h=>h.elim) Ai;rintro _ _ ⟨gm,rfl,rfl⟩;refine B6<|Yz 8 255 8191 [10,1] [true,false] [(10,(_,_))] V Y V rfl V rfl (BR (by_:=40) (sz:=5) B5 (V:Tryz.prog.info? 71=some Tryz.t71) V rfl V rfl Y (W) Y (D8 5 Z 1 1 71 (0,0) [I4 x.t,I4 x.k,I4 x.v.a,I4 x.v.b,I4 x.v.c] V) Wo Wo Fm A1 A1) ?_;rintro _ _ ⟨ic,B,rfl⟩;refine ⟨Zk (Aa),?_⟩;obtain ⟨d9,cu,rfl⟩:=B.form;refine A2 14 V (AB (off:=6) C4 V rfl C6 Y)<|Zz (l:=[13])<|B1 [false] [] V rfl (E5 (by_:=24) (sz:=1) (news:=[_]) Hs (V:Tryz.prog.info? 45=some Tryz.t45) V rfl V rfl Y U Y Wo Wh AN V bj AH A1 A1) ?hk_15 (fun _ _ h=>h.elim) ?hl_15
    case hk_15=>
     rintro _ _ ⟨j3,G,rfl⟩;refine ⟨Aa,?_⟩;obtain ⟨gq,cO,rfl⟩:=G.form;refine Yw 15 65535 V (Zs C6 Y Y V (hc:=by exact (V:_=(#[I4 (t:Int),I4 (c:Int),I4 lo,I4 hi,I4 (((BG rs (t:Int) c).length:Nat):Int),I4 (((Bp (BG rs (t:Int) c) c lo):Nat):Int),_,_,.slice qt 16 ct]:Array Value))) (hi:=by(simp;done)))<|CT<|A2 16 V (AB (off:=7) C4 V rfl HU Y)<|Zz (l:=[17])<|B1 [] [] V rfl (Zs HU Y Y V (hc:=by exact (V:_=(#[I4 (t:Int),I4 (c:Int),I4 lo,I4 hi,I4 (((BG rs (t:Int) c).length:Nat):Int),I4 (((Bp (BG rs (t:Int) c) c lo):Nat):Int),_,_,.slice qt 16 ct]:Array Value))) (hi:=by(simp;done))) ?_ (fun _ _ h=>h.elim) Ai;rintro _ _ ⟨rfl,rfl⟩;refine B6<|Ag<|Zn [10,12,15,16,17] ?_;refine A8<|Zx<|Zg<|Zm Y<|Ya (n:=1) Y Y<|AG Y<|Zn [17,10,12,15,16] ?_;refine Ab (e':=[(17,_)]) (by exact ⟨k+1,_,_,_,_,J++[_],I++X,rfl,⟨by omega,BS B rfl (by rw [Bi bg,Bh];rfl),BS G rfl rfl,af⟩,rfl,rfl⟩)
    exact Ai
   refine B1 [true,true,true,true] [(10,(_,_)),(6,(_,_)),(3,(_,_)),(1,(_,_))] V rfl (Ah (vs:=[_]) (cs:=[_]) Hs HB Up Y V rfl V rfl V) ?_ (fun _ _ h=>h.elim) Ai;rintro _ _ ⟨gm,rfl,rfl⟩;refine ⟨Zk (FK (by simp [*]) (Zk (Zk (Aa)))),?_⟩;refine Yz 7 124 7935 [10,6,3,1] [true,false,false,true] [(10,(_,_)),(1,(_,_))] V Y V rfl V rfl (Ah (vs:=[_]) (cs:=[_,_,_,_,_]) B5 AW DS Y V rfl V rfl V)<|AE fun Z=>B6<|Yz 8 255 8191 [10,1] [true,false] [(10,(_,_))] V Y V rfl V rfl (BR (by_:=40) (sz:=5) B5 (V:Tryz.prog.info? 71=some Tryz.t71) V rfl V rfl Y (W) Y (D8 5 Z 1 1 71 (0,0) [I4 x.t,I4 x.k,I4 x.v.a,I4 x.v.b,I4 x.v.c] V) Wo Wo Fm A1 A1) ?_;rintro _ _ ⟨ic,B,rfl⟩;refine ⟨Zk (Aa),?_⟩;obtain ⟨d9,cu,rfl⟩:=B.form;refine A2 14 V (AB (off:=6) C4 V rfl C6 Y)<|Zz (l:=[13])<|B1 [false] [] V rfl (E5 (by_:=24) (sz:=1) (news:=[_]) Hs (V:Tryz.prog.info? 45=some Tryz.t45) V rfl V rfl Y U Y Wo Wh AN V bj AH A1 A1) ?hk_22 (fun _ _ h=>h.elim) ?hl_22
   case hk_22=>
    rintro _ _ ⟨j3,G,rfl⟩;refine ⟨Aa,?_⟩;obtain ⟨gq,cO,rfl⟩:=G.form;refine Yw 15 65535 V (Zs C6 Y Y V (hc:=by exact (V:_=(#[I4 (t:Int),I4 (c:Int),I4 lo,I4 hi,I4 (((BG rs (t:Int) c).length:Nat):Int),I4 (((Bp (BG rs (t:Int) c) c lo):Nat):Int),_,_,.slice qt 16 ct]:Array Value))) (hi:=by(simp;done)))<|CT<|A2 16 V (AB (off:=7) C4 V rfl HU Y)<|Zz (l:=[17])<|B1 [] [] V rfl (Zs HU Y Y V (hc:=by exact (V:_=(#[I4 (t:Int),I4 (c:Int),I4 lo,I4 hi,I4 (((BG rs (t:Int) c).length:Nat):Int),I4 (((Bp (BG rs (t:Int) c) c lo):Nat):Int),_,_,.slice qt 16 ct]:Array Value))) (hi:=by(simp;done))) ?_ (fun _ _ h=>h.elim) Ai;rintro _ _ ⟨rfl,rfl⟩;refine B6<|Ag<|Zn [10,12,15,16,17] ?_;refine A8<|Zx<|Zg<|Zm Y<|Ya (n:=1) Y Y<|AG Y<|Zn [17,10,12,15,16] ?_;refine Ab (e':=[(17,_)]) (by exact ⟨k+1,_,_,_,_,J++[_],I++X,rfl,⟨by omega,BS B rfl (by rw [Bi bg,Bh];rfl),BS G rfl rfl,af⟩,rfl,rfl⟩)
   exact Ai
  have ek:k=(toT (BG rs (t:Int) c) c hi) -(Bp (BG rs (t:Int) c) c lo):=by omega
  subst ek;refine Ay<|Zt<|Zt<|AU<|Zx<|A0<|Zo Wh (A9 (cs:=#[I4 (t:Int),I4 (c:Int),I4 lo,I4 hi,I4 (((BG rs (t:Int) c).length:Nat):Int),I4 (((Bp (BG rs (t:Int) c) c lo):Nat):Int),.slice q2 _ c2,.slice q3 _ c3,.slice qt 16 ct]) Wk Hv Y As AN) ?_;refine Xe (Xw Hv #[I4 (t:Int),I4 (c:Int),I4 lo,I4 hi,I4 (((BG rs (t:Int) c).length:Nat):Int),I4 (((Bp (BG rs (t:Int) c) c lo):Nat):Int),.slice q2 _ c2,.slice q3 _ c3,.slice qt 16 ct]) ?_;refine A3 Y<|AJ<|Bj rfl results83 Y Wh (Am Wk Hv Wn (rfl)) Y (by exact ⟨_,_,_,O,sp,J,X,so,rfl,BS W (by rw [C3,C2];omega) rfl,U,hP,gF,rfl⟩)
 refine B1 [true,true,true,true] [(5,(_,_)),(3,(_,_)),(2,(_,_)),(1,(_,_))] V rfl (Al cL #[_,_,_,_,_,_,_,_,_]) ?_ (fun _ _ h=>h.elim) Ai;rintro _ _ ⟨pb,rfl,rfl⟩;refine B6<|Zz (l:=[9])<|B1 [true,true,true,true] [(5,(_,_)),(3,(_,_)),(2,(_,_)),(1,(_,_))] V rfl (Zw [_] Y call135 Y V (Uy _ p rs s hv hs hn gB Tg zg)) ?_ Bv Ai;rintro _ _ ⟨_,⟨so,gF,rfl⟩,rfl⟩;refine ⟨Zk (Zk (Zk (Zk (Aa)))),?_⟩;obtain ⟨qt,ct,rfl⟩:=gF.form;refine A2 10 V (BM (vs:=[(0,I4 (t:Int)),(1,I4 (c:Int)),(2,I4 lo),(3,I4 hi),(4,I4 (((BG rs (t:Int) c).length:Nat):Int)),(5,I4 (((Bp (BG rs (t:Int) c) c lo):Nat):Int)),(8,.slice qt 16 ct)]) (cs:=#[I4 (t:Int),I4 (c:Int),I4 lo,I4 hi,I4 (((BG rs (t:Int) c).length:Nat):Int),I4 (((Bp (BG rs (t:Int) c) c lo):Nat):Int),.slice none 0 0,.slice none 0 0,.slice qt 16 ct]) Y (AZ (pl:=#[(0,1),(1,1),(2,1),(3,1),(4,1),(5,1),(6,1),(7,1),(8,1)]) cL C4 (fun _=>by kernel_rfl) A6))<|Yw 12 8191 V (Xw Hv #[I4 (t:Int),I4 (c:Int),I4 lo,I4 hi,I4 (((BG rs (t:Int) c).length:Nat):Int),I4 (((Bp (BG rs (t:Int) c) c lo):Nat):Int),.slice none 0 0,.slice none 0 0,.slice qt 16 ct])<|CT<|Ag<|Zn [10,12,14,15,16] ?_;refine Zx<|Zq<|A0<|Zm Y<|A3 Y<|AR<|BU<|BU<|BU<|Zb [17,10,12,15,16] ?_;refine BA (e0:=[(17,_)]) (fun m e H=>∃(k:Nat) (bn:Value) (O:List AA) (vp:Value) (sp:List AA) (J:List Value) (X:List AA),m=(toT (BG rs (t:Int) c) c hi) -(Bp (BG rs (t:Int) c) c lo) -k/\(k<=(toT (BG rs (t:Int) c) c hi) -(Bp (BG rs (t:Int) c) c lo)/\Bc 5 71 bn k (Ae (((BG rs (t:Int) c).drop (Bp (BG rs (t:Int) c) c lo)).take k)) O/\Bc 1 45 vp k J sp/\Ju X J (JF (BG rs (t:Int) c) (Bp (BG rs (t:Int) c) c lo) k))/\e=[(17,I4 (((Bp (BG rs (t:Int) c) c lo)+k:Nat):Int))]/\H=[[(pb,.cells #[I4 (t:Int),I4 (c:Int),I4 lo,I4 hi,I4 (((BG rs (t:Int) c).length:Nat):Int),I4 (((Bp (BG rs (t:Int) c) c lo):Nat):Int),bn,vp,.slice qt 16 ct] 143 (0,0))],O,sp,X]) (by exact ⟨0,.slice none 0 0,[],.slice none 0 0,[],[],[],rfl,⟨C0 _,by rw [ID];exact Bf 5 _,Bf 1 _,Q6 _⟩,rfl,rfl⟩) Wp ?_
 rintro _ _ _ ⟨k,bn,O,vp,sp,J,X,rfl,⟨hk,W,U,hP⟩,rfl,rfl⟩;obtain ⟨q2,c2,rfl⟩:=W.form;obtain ⟨q3,c3,rfl⟩:=U.form;refine Zq<|A0<|Zm Y<|Zm Y<|Zv (Au Y Y)<|A5<|Aq Y (fun l5=>?_) (fun l5=>?_);·
  obtain ⟨x,hx⟩:∃x,(BG rs (t:Int) c)[(Bp (BG rs (t:Int) c) c lo)+k]?=some x:=⟨_,B3 A1⟩;obtain ⟨g,off,cur,T,zz,rfl,l8,o8,gy⟩:=hg _ x hx;have bg:((BG rs (t:Int) c).drop (Bp (BG rs (t:Int) c) c lo))[k]?=some x:=by rw [NO];exact hx
  refine AC<|Zx<|Zq<|AR<|A0<|Zh 1 N3 V rfl HB Y<|Zl Hc Y ?_;refine Zm Y<|Zc [_,_] Y call136 Y rfl (Si lw (by rw [GU];omega) (fun s h=>by have:=Xa (fun r hr=>gB r (Md hr)) s h;omega) ((Bp (BG rs (t:Int) c) c lo)+k) (by rw [GU];omega) Tg zg) ?_;rintro _ _ ⟨_,⟨l9,I,rfl,K,rfl⟩,rfl⟩;have ax:(FI (O1 (BG rs (t:Int) c)) ((Bp (BG rs (t:Int) c) c lo)+k)).length<=maxLen:=iw K
  have j5:=Gg K ax;have af:=Qg (BG rs (t:Int) c) (Bp (BG rs (t:Int) c) c lo) k▸hP.snoc (j5.mono (fun c h=>Dg X h)) (fun c h=>G2 I h)
  obtain ⟨qx,cx,rfl⟩:=K.form;refine Zm Y<|Zd Y V<|Zd Y V<|Za Y<|A3 Y<|CK (s1:=I) (s2:=X) Wo Wo ?_;refine Az (n:=18) (0::1::0::4::0::28::60::124::255::0::512::0::2048::8191::2047::32767::65535::131071::[]) 176512 A6 A6 V<|A2 0 V (AB (off:=6) C4 V rfl C6 Y)<|B2 1 V F1 Y ?_;refine A2 2 V (AB (off:=0) N3 V rfl C6 Y)<|B2 3 V F1 Y ?_;refine A2 4 V (AP Y)<|A2 5 V (Ac B5 AW Y Y A1)<|CQ (b:=g) (x:= .cells cur T zz) (D':=127) 6 V rfl V (by simp [l8]) (A9 (cs:=x.A58) CI AW Y A1 gy) ?_;refine A2 9 V (AB (off:=7) C4 V rfl HU Y)<|B2 10 V V1 Y ?_;refine A2 11 V (AP Y)<|Zz (l:=[7,12])<|B1 [true,false,false,true] [(10,(_,_)),(1,(_,_))] V rfl (Ah (vs:=[_]) (cs:=[_,_,_,_,_]) B5 AW DS Y V rfl V rfl V) ?_ (fun _ _ h=>h.elim) ?_;·
   rintro _ _ ⟨Z,rfl,rfl⟩;refine B6<|Zz (l:=[8,12])<|B1 [true,false] [(10,(_,_))] V rfl (BR (by_:=40) (sz:=5) B5 (V:Tryz.prog.info? 71=some Tryz.t71) V rfl V rfl Y (W) Y (D8 5 Z 1 1 71 (0,0) [I4 x.t,I4 x.k,I4 x.v.a,I4 x.v.b,I4 x.v.c] V) Wo Wo Fm A1 A1) ?hk_32 (fun _ _ h=>h.elim) ?hl_32
   case hk_32=>
    rintro _ _ ⟨ic,B,rfl⟩;refine ⟨Zk (Aa),?_⟩;obtain ⟨d9,cu,rfl⟩:=B.form;refine A2 14 V (AB (off:=6) C4 V rfl C6 Y)<|Zz (l:=[12])<|B1 [true] [(10,(_,_))] V rfl (Ah (vs:=[_]) (cs:=[_]) Hs HB Up Y V rfl V rfl V) ?_ (fun _ _ h=>h.elim) Ai;rintro _ _ ⟨gm,rfl,rfl⟩;refine B6<|Yw 13 32767 V (E5 (by_:=24) (sz:=1) (news:=[_]) Hs (V:Tryz.prog.info? 45=some Tryz.t45) V rfl V rfl Y U Y Wo Wh AN V bj AH A1 A1) ?_;rintro _ _ ⟨j3,G,rfl⟩;obtain ⟨gq,cO,rfl⟩:=G.form;refine Yw 15 65535 V (Zs C6 Y Y V (hc:=by exact (V:_=(#[I4 (t:Int),I4 (c:Int),I4 lo,I4 hi,I4 (((BG rs (t:Int) c).length:Nat):Int),I4 (((Bp (BG rs (t:Int) c) c lo):Nat):Int),_,_,.slice qt 16 ct]:Array Value))) (hi:=by(simp;done)))<|CT<|A2 16 V (AB (off:=7) C4 V rfl HU Y)<|Zz (l:=[17])<|B1 [] [] V rfl (Zs HU Y Y V (hc:=by exact (V:_=(#[I4 (t:Int),I4 (c:Int),I4 lo,I4 hi,I4 (((BG rs (t:Int) c).length:Nat):Int),I4 (((Bp (BG rs (t:Int) c) c lo):Nat):Int),_,_,.slice qt 16 ct]:Array Value))) (hi:=by(simp;done))) ?_ (fun _ _ h=>h.elim) Ai;rintro _ _ ⟨rfl,rfl⟩;refine B6<|Ag<|Zn [10,12,15,16,17] ?_;refine A8<|Zx<|Zg<|Zm Y<|Ya (n:=1) Y Y<|AG Y<|Zn [17,10,12,15,16] ?_;refine Ab (e':=[(17,_)]) (by exact ⟨k+1,_,_,_,_,J++[_],I++X,rfl,⟨by omega,BS B rfl (by rw [Bi bg,Bh];rfl),BS G rfl rfl,af⟩,rfl,rfl⟩)
   refine B1 [true,true] [(10,(_,_)),(1,(_,_))] V rfl (Ah (vs:=[_]) (cs:=[_]) Hs HB Up Y V rfl V rfl V) ?_ (fun _ _ h=>h.elim) Ai;rintro _ _ ⟨gm,rfl,rfl⟩;refine B6<|Yz 8 255 8191 [10,1] [true,false] [(10,(_,_))] V Y V rfl V rfl (BR (by_:=40) (sz:=5) B5 (V:Tryz.prog.info? 71=some Tryz.t71) V rfl V rfl Y (W) Y (D8 5 Z 1 1 71 (0,0) [I4 x.t,I4 x.k,I4 x.v.a,I4 x.v.b,I4 x.v.c] V) Wo Wo Fm A1 A1) ?_;rintro _ _ ⟨ic,B,rfl⟩;refine ⟨Zk (Aa),?_⟩;obtain ⟨d9,cu,rfl⟩:=B.form;refine A2 14 V (AB (off:=6) C4 V rfl C6 Y)<|Zz (l:=[13])<|B1 [false] [] V rfl (E5 (by_:=24) (sz:=1) (news:=[_]) Hs (V:Tryz.prog.info? 45=some Tryz.t45) V rfl V rfl Y U Y Wo Wh AN V bj AH A1 A1) ?hk_40 (fun _ _ h=>h.elim) ?hl_40
   case hk_40=>
    rintro _ _ ⟨j3,G,rfl⟩;refine ⟨Aa,?_⟩;obtain ⟨gq,cO,rfl⟩:=G.form;refine Yw 15 65535 V (Zs C6 Y Y V (hc:=by exact (V:_=(#[I4 (t:Int),I4 (c:Int),I4 lo,I4 hi,I4 (((BG rs (t:Int) c).length:Nat):Int),I4 (((Bp (BG rs (t:Int) c) c lo):Nat):Int),_,_,.slice qt 16 ct]:Array Value))) (hi:=by(simp;done)))<|CT<|A2 16 V (AB (off:=7) C4 V rfl HU Y)<|Zz (l:=[17])<|B1 [] [] V rfl (Zs HU Y Y V (hc:=by exact (V:_=(#[I4 (t:Int),I4 (c:Int),I4 lo,I4 hi,I4 (((BG rs (t:Int) c).length:Nat):Int),I4 (((Bp (BG rs (t:Int) c) c lo):Nat):Int),_,_,.slice qt 16 ct]:Array Value))) (hi:=by(simp;done))) ?_ (fun _ _ h=>h.elim) Ai;rintro _ _ ⟨rfl,rfl⟩;refine B6<|Ag<|Zn [10,12,15,16,17] ?_;refine A8<|Zx<|Zg<|Zm Y<|Ya (n:=1) Y Y<|AG Y<|Zn [17,10,12,15,16] ?_;refine Ab (e':=[(17,_)]) (by exact ⟨k+1,_,_,_,_,J++[_],I++X,rfl,⟨by omega,BS B rfl (by rw [Bi bg,Bh];rfl),BS G rfl rfl,af⟩,rfl,rfl⟩)
   exact Ai
  refine B1 [true,true,true,true] [(10,(_,_)),(6,(_,_)),(3,(_,_)),(1,(_,_))] V rfl (Ah (vs:=[_]) (cs:=[_]) Hs HB Up Y V rfl V rfl V) ?_ (fun _ _ h=>h.elim) Ai;rintro _ _ ⟨gm,rfl,rfl⟩;refine ⟨Zk (FK (by simp [*]) (Zk (Zk (Aa)))),?_⟩;refine Yz 7 124 7935 [10,6,3,1] [true,false,false,true] [(10,(_,_)),(1,(_,_))] V Y V rfl V rfl (Ah (vs:=[_]) (cs:=[_,_,_,_,_]) B5 AW DS Y V rfl V rfl V)<|AE fun Z=>B6<|Yz 8 255 8191 [10,1] [true,false] [(10,(_,_))] V Y V rfl V rfl (BR (by_:=40) (sz:=5) B5 (V:Tryz.prog.info? 71=some Tryz.t71) V rfl V rfl Y (W) Y (D8 5 Z 1 1 71 (0,0) [I4 x.t,I4 x.k,I4 x.v.a,I4 x.v.b,I4 x.v.c] V) Wo Wo Fm A1 A1) ?_;rintro _ _ ⟨ic,B,rfl⟩;refine ⟨Zk (Aa),?_⟩;obtain ⟨d9,cu,rfl⟩:=B.form;refine A2 14 V (AB (off:=6) C4 V rfl C6 Y)<|Zz (l:=[13])<|B1 [false] [] V rfl (E5 (by_:=24) (sz:=1) (news:=[_]) Hs (V:Tryz.prog.info? 45=some Tryz.t45) V rfl V rfl Y U Y Wo Wh AN V bj AH A1 A1) ?hk_47 (fun _ _ h=>h.elim) ?hl_47
  case hk_47=>
   rintro _ _ ⟨j3,G,rfl⟩;refine ⟨Aa,?_⟩;obtain ⟨gq,cO,rfl⟩:=G.form;refine Yw 15 65535 V (Zs C6 Y Y V (hc:=by exact (V:_=(#[I4 (t:Int),I4 (c:Int),I4 lo,I4 hi,I4 (((BG rs (t:Int) c).length:Nat):Int),I4 (((Bp (BG rs (t:Int) c) c lo):Nat):Int),_,_,.slice qt 16 ct]:Array Value))) (hi:=by(simp;done)))<|CT<|A2 16 V (AB (off:=7) C4 V rfl HU Y)<|Zz (l:=[17])<|B1 [] [] V rfl (Zs HU Y Y V (hc:=by exact (V:_=(#[I4 (t:Int),I4 (c:Int),I4 lo,I4 hi,I4 (((BG rs (t:Int) c).length:Nat):Int),I4 (((Bp (BG rs (t:Int) c) c lo):Nat):Int),_,_,.slice qt 16 ct]:Array Value))) (hi:=by(simp;done))) ?_ (fun _ _ h=>h.elim) Ai;rintro _ _ ⟨rfl,rfl⟩;refine B6<|Ag<|Zn [10,12,15,16,17] ?_;refine A8<|Zx<|Zg<|Zm Y<|Ya (n:=1) Y Y<|AG Y<|Zn [17,10,12,15,16] ?_;refine Ab (e':=[(17,_)]) (by exact ⟨k+1,_,_,_,_,J++[_],I++X,rfl,⟨by omega,BS B rfl (by rw [Bi bg,Bh];rfl),BS G rfl rfl,af⟩,rfl,rfl⟩)
  exact Ai
 have ek:k=(toT (BG rs (t:Int) c) c hi) -(Bp (BG rs (t:Int) c) c lo):=by omega
 subst ek;refine Ay<|Zt<|Zt<|AU<|Zx<|A0<|Zo Wh (A9 (cs:=#[I4 (t:Int),I4 (c:Int),I4 lo,I4 hi,I4 (((BG rs (t:Int) c).length:Nat):Int),I4 (((Bp (BG rs (t:Int) c) c lo):Nat):Int),.slice q2 _ c2,.slice q3 _ c3,.slice qt 16 ct]) Wk Hv Y As AN) ?_;refine Xe (Xw Hv #[I4 (t:Int),I4 (c:Int),I4 lo,I4 hi,I4 (((BG rs (t:Int) c).length:Nat):Int),I4 (((Bp (BG rs (t:Int) c) c lo):Nat):Int),.slice q2 _ c2,.slice q3 _ c3,.slice qt 16 ct]) ?_;refine A3 Y<|AJ<|Bj rfl results83 Y Wh (Am Wk Hv Wn (rfl)) Y (by exact ⟨_,_,_,O,sp,J,X,so,rfl,BS W (by rw [C3,C2];omega) rfl,U,hP,gF,rfl⟩)
def MV(M:List AA)(v:Value)(ps:List (List Bs)):Prop:=∃p cap,v= .slice p ps.length cap/\(ps.length<=maxLen/\ps.length<=cap)/\∀(i:Nat) (l:List Bs),ps[i]?=some l->∃q c,EN M (.slice q l.length c) l/\∃g off cur T zz,p=some ⟨g,off,none⟩/\(g,Obj.cells cur T zz)∈M/\cur[off+i]?=some (.slice q l.length c)
def UF(M:List AA)(v:Value)(x:RP):Prop:=∃vr vp vt,v= .agg #[I4 x.tb,I4 x.cl,I4 x.lo,I4 x.hi,I4 x.ct,I4 x.fi,vr,vp,vt]/\Db M vr x.rows/\MV M vp x.paths/\EN M vt x.roots
theorem VV{e:TypeId}{ps:List (List Bs)}{m:List Value}{s U:List AA}(h:Bc 1 e v ps.length m s)(G:Ju U m ps)(hn:ps.length<=maxLen):MV (s++U) v ps:=by
 rcases PB ps.length with h0|h0
 · obtain ⟨b,cap,rfl⟩:=h.form
   exact ⟨b,cap,rfl,⟨hn,by omega⟩,fun i s J=>by rw [Lw h0]at J;simp at J⟩
 · obtain ⟨g,cap,cur,z,rfl,rfl,B,W⟩:=Le h h0
   refine ⟨_,cap,V,⟨hn,B⟩,fun i l I=>?_⟩;have X:=(BE.1 I).1
   obtain ⟨w,O⟩:∃w,m[i]?=some w:=⟨_,B3 (by have:=G.1;omega)⟩;have K:=G.2 i w l O I
   obtain ⟨q,c,e1,Z,h2⟩:=id K;subst e1;refine ⟨q,c,K.mono (fun c h=>G2 _ h),g,0,cur,e,z,V,by simp,?_⟩;rw [D0];exact W i _ O
theorem MV.mono{m:List AA}{ls:List (List Bs)}(h:MV M v ls)(B:∀c∈M,c∈m):MV m v ls:=by
 obtain ⟨p,cap,e,J,I⟩:=h;refine ⟨p,cap,e,J,fun i s K=>?_⟩;obtain ⟨q,c,h0,g,off,cur,T,zz,e1,G,h2⟩:=I i s K;exact ⟨q,c,h0.mono B,g,off,cur,T,zz,e1,B _ G,h2⟩
theorem dR(v:Value)(p:Int)(rs:List AV)(s:List AA)(hv:RH v p rs s)(K:BQ rs)(hn:rs.length<=2000)(G:∀r∈rs,r.ok)(t c:Nat)(ht:t<=3)(hc:c<=3)(lo hi:Int)(B:lo<=hi)(m:TypeId)(J:Nat×Nat):
 Ba prog 83 #[v,I4 (t:Int),I4 (c:Int),I4 lo,I4 hi] [[(4,.cells (Et.map Cs).toArray m J)],s] (fun r H'=>∃O mem,r= .tuple #[O,I4 0]/\UF mem O (Ep rs t c lo hi)/\H'=[mem,[(4,.cells (Et.map Cs).toArray m J)],s]):=by
 have af:=mL;refine Gy (dS v p rs s hv K hn G t c ht hc lo hi B m J) V ?_;rintro r H' ⟨vr,vp,vt,I,sp,bn,mp,so,rfl,U,h2,W,X,rfl⟩;have Z:=JH K (t:Int) c
 have bg:toT (BG rs (t:Int) c) c hi<=(BG rs (t:Int) c).length:=od _ _;have g:=dh (BG rs (t:Int) c) (Bp (BG rs (t:Int) c) c lo) (toT (BG rs (t:Int) c) c hi -Bp (BG rs (t:Int) c) c lo)
 have ax:(((BG rs (t:Int) c).drop (Bp (BG rs (t:Int) c) c lo)).take (toT (BG rs (t:Int) c) c hi -Bp (BG rs (t:Int) c) c lo)).length<=2000:=by rw [C3,C2];omega
 refine ⟨_,⟨_,I++(sp++mp)++so,V,⟨vr,vp,vt,V,?_,?_,?_⟩,V⟩,by simp⟩;· exact (DU U A1).mono (fun c h=>Dg _ (Dg _ h))
 · exact (VV (BS h2 g.symm rfl) W (by rw [g];omega)).mono (fun c h=>Dg _ (G2 _ h))
 · exact (Gg (BS X (Y9 rs).symm rfl) (by rw [Y9];omega)).mono (fun c h=>G2 _ h)
def Xy(x:RP)(j:Nat)(r:AV):Prop:=r.ok/\r.t=x.tb/\(Bn r x.cl<x.lo->j=0)/\(x.hi<Bn r x.cl->x.rows.length<=j+1)
def UL(x:RP)(q r:AV):Prop:=Bn q x.cl<Bn r x.cl\/Bn q x.cl=Bn r x.cl/\q.k<r.k
structure Gd(x:RP):Prop where
 tc:(0<=x.tb/\x.tb<4)/\0<=x.cl/\x.cl<4
 lh:x.lo<=x.hi
 ct:0<=x.ct/\x.ct<=2000
 fi:0<=x.fi/\x.fi<=x.ct
 n:(x.rows.length:Int)<=x.ct -x.fi
 none:x.rows.length=0->x.ct=0
 all:∀(j:Nat) (r:AV),x.rows[j]?=some r->Xy x j r/\(0<j->∀q,x.rows[j -1]?=some q->UL x q r)
 first:∀r,x.rows[0]?=some r->x.fi=0\/Bn r x.cl<x.lo
 last:∀r,x.rows[x.rows.length -1]?=some r->x.fi+(x.rows.length:Int)=x.ct\/x.hi<Bn r x.cl
noncomputable instance(x:RP):Decidable (Gd x):=Classical.propDecidable _
theorem Hm{p:Option Addr}{cap:Nat}(x:RP)(vp vt:Value)(U:Db M (.slice p x.rows.length cap) x.rows)(hc:0<=x.cl/\x.cl<=3)(K i:Nat)(r:AV)(I:x.rows[i]?=some r):BH prog 263 #[I4 (i:Int),I5 K] [[(K,.cells #[I4 x.tb,I4 x.cl,I4 x.lo,I4 x.hi,I4 x.ct,I4 x.fi,.slice p x.rows.length cap,vp,vt] 143 (0,0))],M] (I4 (Bn r x.cl)):=by
 have Z:=mL;obtain ⟨p9,G,O,hl,W⟩:=U;injection O with e91 e92 e93
 subst e91 e93;obtain ⟨g,off,cur,T,zz,rfl,B,J,m⟩:=W i r I;have X:=(BE.1 I).1
 refine Se func263 ntmps263 [0,1] ?_;intro u R;refine A0<|A3 Y<|Zq<|Az (n:=9) (0::1::0::7::15::0::32::127::255::[]) 128 A6 A6 V<|A2 0 V (AB (off:=6) C4 V rfl C6 Y)<|B2 1 V F1 Y<|A2 2 V (AP Y)<|A2 3 V (Ac B5 AW Y Y A1)<|CQ (b:=g) (x:= .cells cur T zz) (D':=31) 4 V rfl V (by simp [B]) (A9 (cs:=r.A58) CI AW Y A1 m) ?_;refine A2 5 V (AB (off:=1) C4 V rfl A4 Y)<|B2 6 V AD Y<|Yw 7 255 V (Zu [_,_] Y SD Y V (Fy r x.cl hc))<|CT<|A2 8 V (Av Y)<|Ag<|Zx<|AJ<|AO V results263 Y (by exact ⟨V,V⟩)
variable{x:RP}
set_option maxHeartbeats 4000000 in
theorem Ue(hv:UF M v x):BH prog 232 #[v] [M] (.bool (decide (Gd x))):=by
 have sJ:=mL;obtain ⟨vr,vp,vt,rfl,hR,hP,hT⟩:=hv;obtain ⟨p,cap,e9,hl,hg⟩:=id hR;subst e9;refine Se func232 ntmps232 [0] ?_;intro u R;refine A0<|Ze (Bx #[_,_,_,_,_,_,_,_,_])<|AE fun pb=>A3 Y<|A0<|Zh 6 C4 V rfl C6 Y<|Zl F1 Y ?_;refine Zv (AY B5 Y)<|A3 Y<|Zq<|A0<|Zh 0 C4 V rfl A4 Y<|Zl AD Y ?_;refine Zh 1 C4 V rfl A4 Y<|Zl AD Y ?_;refine Xr [_,_] Y call127 Y V (Qp x.tb x.cl) ?_;refine Zv (D7 Y)<|Zm Y<|Aj (t:=17) Y V (fun pg=>?_) (fun pg=>?_);·
  refine A7 Y V<|A7 Y V<|A7 Y V<|A7 Y V<|A7 Y V<|Zv (AQ Y Y)<|Zm Y<|A7 Y V<|A7 Y V<|A7 Y V<|Zv (AQ Y Y)<|Zm Y<|A7 Y V<|A7 Y V<|A7 Y V<|Zv (AQ Y Y)<|Zm Y<|A7 Y V<|A7 Y V<|A7 Y V<|Zv (AQ Y Y)<|Zm Y<|A7 Y V<|A7 Y V<|A7 Y V<|A7 Y V<|A7 Y V<|Zv (AQ Y Y)<|Zm Y<|A7 Y V<|A7 Y V<|A7 Y V<|A7 Y V<|A7 Y V<|A7 Y V<|A7 Y V<|Zv (AQ Y Y)<|Z0<|Zn [1,3,54] ?_;refine Zx<|CW Y<|A0<|A3 Y<|AJ<|Zt<|AO V LI Y (by exact ⟨congrArg Value.bool (CN (fun B:Gd x=>by have J:=B.tc;have K:=B.lh;have O:=B.ct;have U:=B.fi;have af:=B.n;omega)).symm,V⟩)
 refine Yf 2 C4 V rfl A4 Y<|Yl AD Y ?_;refine Yf 3 C4 V rfl A4 Y<|Yl AD Y ?_;refine Yg (Ev Y Y)<|Zv (AL Y Y)<|Zm Y<|Aj (t:=24) Y V (fun pq=>?_) (fun pq=>?_);·
  refine A7 Y V<|A7 Y V<|A7 Y V<|Zv (AQ Y Y)<|Zm Y<|A7 Y V<|A7 Y V<|A7 Y V<|Zv (AQ Y Y)<|Zm Y<|A7 Y V<|A7 Y V<|A7 Y V<|Zv (AQ Y Y)<|Zm Y<|A7 Y V<|A7 Y V<|A7 Y V<|A7 Y V<|A7 Y V<|Zv (AQ Y Y)<|Zm Y<|A7 Y V<|A7 Y V<|A7 Y V<|A7 Y V<|A7 Y V<|A7 Y V<|A7 Y V<|Zv (AQ Y Y)<|Z0<|Zn [1,3,54] ?_;refine Zx<|CW Y<|A0<|A3 Y<|AJ<|Zt<|AO V LI Y (by exact ⟨congrArg Value.bool (CN (fun B:Gd x=>by have J:=B.tc;have K:=B.lh;have O:=B.ct;have U:=B.fi;have af:=B.n;omega)).symm,V⟩)
 refine Yf 4 C4 V rfl A4 Y<|Yl AD Y ?_;refine Yg (Dv Y Y)<|Zv (AL Y Y)<|Zm Y<|Aj (t:=29) Y V (fun pz=>?_) (fun pz=>?_);·
  refine A7 Y V<|A7 Y V<|A7 Y V<|Zv (AQ Y Y)<|Zm Y<|A7 Y V<|A7 Y V<|A7 Y V<|Zv (AQ Y Y)<|Zm Y<|A7 Y V<|A7 Y V<|A7 Y V<|A7 Y V<|A7 Y V<|Zv (AQ Y Y)<|Zm Y<|A7 Y V<|A7 Y V<|A7 Y V<|A7 Y V<|A7 Y V<|A7 Y V<|A7 Y V<|Zv (AQ Y Y)<|Z0<|Zn [1,3,54] ?_;refine Zx<|CW Y<|A0<|A3 Y<|AJ<|Zt<|AO V LI Y (by exact ⟨congrArg Value.bool (CN (fun B:Gd x=>by have J:=B.tc;have K:=B.lh;have O:=B.ct;have U:=B.fi;have af:=B.n;omega)).symm,V⟩)
 refine Yf 4 C4 V rfl A4 Y<|Yl AD Y ?_;refine Yg (Ev Y Y)<|Zv (AL Y Y)<|Zm Y<|Aj (t:=34) Y V (fun qa=>?_) (fun qa=>?_);·
  refine A7 Y V<|A7 Y V<|A7 Y V<|Zv (AQ Y Y)<|Zm Y<|A7 Y V<|A7 Y V<|A7 Y V<|A7 Y V<|A7 Y V<|Zv (AQ Y Y)<|Zm Y<|A7 Y V<|A7 Y V<|A7 Y V<|A7 Y V<|A7 Y V<|A7 Y V<|A7 Y V<|Zv (AQ Y Y)<|Z0<|Zn [1,3,54] ?_;refine Zx<|CW Y<|A0<|A3 Y<|AJ<|Zt<|AO V LI Y (by exact ⟨congrArg Value.bool (CN (fun B:Gd x=>by have J:=B.tc;have K:=B.lh;have O:=B.ct;have U:=B.fi;have af:=B.n;omega)).symm,V⟩)
 refine Yf 5 C4 V rfl A4 Y<|Yl AD Y ?_;refine Yg (Dv Y Y)<|Zv (AL Y Y)<|Zm Y<|Aj (t:=39) Y V (fun qb=>?_) (fun qb=>?_);·
  refine A7 Y V<|A7 Y V<|A7 Y V<|A7 Y V<|A7 Y V<|Zv (AQ Y Y)<|Zm Y<|A7 Y V<|A7 Y V<|A7 Y V<|A7 Y V<|A7 Y V<|A7 Y V<|A7 Y V<|Zv (AQ Y Y)<|Z0<|Zn [1,3,54] ?_;refine Zx<|CW Y<|A0<|A3 Y<|AJ<|Zt<|AO V LI Y (by exact ⟨congrArg Value.bool (CN (fun B:Gd x=>by have J:=B.tc;have K:=B.lh;have O:=B.ct;have U:=B.fi;have af:=B.n;omega)).symm,V⟩)
 refine Yf 5 C4 V rfl A4 Y<|Yl AD Y ?_;refine Yf 4 C4 V rfl A4 Y<|Yl AD Y ?_;refine Yg (Ev Y Y)<|Zv (AL Y Y)<|Zm Y<|Aj (t:=46) Y V (fun qj=>?_) (fun qj=>?_);·
  refine A7 Y V<|A7 Y V<|A7 Y V<|A7 Y V<|A7 Y V<|A7 Y V<|A7 Y V<|Zv (AQ Y Y)<|Z0<|Zn [1,3,54] ?_;refine Zx<|CW Y<|A0<|A3 Y<|AJ<|Zt<|AO V LI Y (by exact ⟨congrArg Value.bool (CN (fun B:Gd x=>by have J:=B.tc;have K:=B.lh;have O:=B.ct;have U:=B.fi;have af:=B.n;omega)).symm,V⟩)
 refine Zf Y Y<|Yf 4 C4 V rfl A4 Y<|Yl AD Y ?_;refine Yf 5 C4 V rfl A4 Y<|Yl AD Y ?_
 (refine Gu Y (GL Y Y (IntWalk.i64_in _ ?_)) rfl rfl ?_;(focus (first|omega|(simp;omega))))
 refine Yg (Ev Y Y)<|Zv (AL Y Y)<|Z0<|Zn [1,3,54] ?_;refine Zx<|Aq Y (fun ql=>?_) (fun ql=>?_);·
  refine A0<|A3 Y<|AJ<|Zt<|AO V LI Y (by exact ⟨congrArg Value.bool (CN (fun B:Gd x=>by have J:=B.tc;have K:=B.lh;have O:=B.ct;have U:=B.fi;have af:=B.n;omega)).symm,V⟩)
 refine AC<|Zx<|Zq<|A0<|Zm Y<|Zv (Cb (n:=0) Y Y)<|A5<|Aq Y (fun hz=>?_) (fun hz=>?_);·
  refine A0<|Zh 4 C4 V rfl A4 Y<|Zl AD Y ?_;refine Zv (CP Y Y)<|A3 Y<|AJ<|Zt<|AO V LI Y (by exact ⟨PQ ⟨fun B=>⟨by omega,by omega,by omega,by omega,by omega,fun _=>B,fun j r W=>by have:=(BE.1 W).1;omega,fun r W=>by have:=(BE.1 W).1;omega,fun r W=>by have:=(BE.1 W).1;omega⟩,fun B=>B.none hz⟩,V⟩)
 refine AC<|Zx<|A0<|Zv (Bg (vs:=[]) (us:=[_]) Y Y)<|A3 Y<|Zq<|A0<|Zh 6 C4 V rfl C6 Y<|Zl F1 Y ?_;refine Zv (AY B5 Y)<|Zm Y<|A5<|AR<|Zb [64,1,3,4,62,63] ?_;refine BA (e0:=[(64,_)]) (fun m e H=>∃(i:Nat),m=x.rows.length -i/\(i<=x.rows.length/\∀(j:Nat) (r:AV),j<i->x.rows[j]?=some r->Xy x j r/\(0<j->∀q,x.rows[j -1]?=some q->UL x q r))/\e=[(64,I4 (i:Int))]/\H=[]) (by exact ⟨0,V,⟨C0 _,by intro j r W;omega⟩,V,V⟩) Wp ?_;rintro _ _ _ ⟨i,rfl,⟨hi,Z⟩,rfl,rfl⟩;refine A0<|Zv (Au Y Y)<|A5<|Zq<|Aq Y (fun p8=>?_) (fun p8=>?_);·
  obtain ⟨r,hr⟩:∃r,x.rows[i]?=some r:=⟨_,B3 p8⟩;obtain ⟨g,off,cur,T,zz,rfl,qz,sw,o8⟩:=hg i r hr;refine AC<|Zx<|Zq<|AR<|A0<|Zm Y<|Bb (Ac B5 AW Y Y A1)<|CS (cs:=[(g,.cells cur T zz)]) (by simp [qz]) (A9 (cs:=r.A58) CI AW Y A1 o8) V rfl ?_;refine Ze (Al DS #[_,_,_,_,_])<|AE fun rb=>Za Y<|Xe (Xw AW r.A58) ?_;refine A5<|A0<|Zm Y<|Zm Y<|Xr [_] Y call263 Y V (Hm x vp vt hR A1 pb i r hr) ?_;refine A3 Y<|Zb [1,3,4,5,6,7,62,63,64] ?_;refine DJ (e0:=[]) (H0:=[]) (fun e H=>∃(u9:Unit),(Xy x i r)/\e=[]/\H=[]) Wp ?hx_10 ?hy_10
  case hx_10=>
   refine A0<|Zo Wh (A9 (cs:=#[_,_,_,_,_]) CI AW Y As AN) ?_;refine Xr [_] Y call195 Y V (SB r) ?_;refine Zv (D7 Y)<|Zm Y<|Aj (t:=75) Y V (fun qo=>?_) (fun qo=>?_);·
    refine A7 Y V<|A7 Y V<|A7 Y V<|A7 Y V<|A7 Y V<|Zv (AQ Y Y)<|Zm Y<|A7 Y V<|A7 Y V<|A7 Y V<|A7 Y V<|A7 Y V<|A7 Y V<|A7 Y V<|A7 Y V<|Zv (AQ Y Y)<|Zm Y<|A7 Y V<|A7 Y V<|A7 Y V<|A7 Y V<|A7 Y V<|A7 Y V<|A7 Y V<|A7 Y V<|A7 Y V<|A7 Y V<|Zv (AQ Y Y)<|Z0<|Zn [1,3,4,5,6,7,62,63,64,103] ?_;refine Zx<|CW Y<|A0<|A3 Y<|AJ<|Zt<|Ad<|Zt<|Zt<|Ad<|Zt<|AO rfl LI Y (by exact ⟨congrArg Value.bool (CN (fun B:Gd x=>by obtain ⟨⟨J,K,O,U⟩,_⟩:=B.all i r hr;contradiction)).symm,rfl⟩)
   refine Yf 0 FF V rfl A4 Y<|Yl AD Y ?_;refine Yf 0 C4 V rfl A4 Y<|Yl AD Y ?_;refine Yg (GG Y Y)<|Zv (AL Y Y)<|Zm Y<|Aj (t:=82) Y V (fun qw=>?_) (fun qw=>?_);·
    refine A7 Y V<|A7 Y V<|A7 Y V<|A7 Y V<|A7 Y V<|A7 Y V<|A7 Y V<|A7 Y V<|Zv (AQ Y Y)<|Zm Y<|A7 Y V<|A7 Y V<|A7 Y V<|A7 Y V<|A7 Y V<|A7 Y V<|A7 Y V<|A7 Y V<|A7 Y V<|A7 Y V<|Zv (AQ Y Y)<|Z0<|Zn [1,3,4,5,6,7,62,63,64,103] ?_;refine Zx<|CW Y<|A0<|A3 Y<|AJ<|Zt<|Ad<|Zt<|Zt<|Ad<|Zt<|AO rfl LI Y (by exact ⟨congrArg Value.bool (CN (fun B:Gd x=>by obtain ⟨⟨J,K,O,U⟩,_⟩:=B.all i r hr;omega)).symm,rfl⟩)
   refine Zf Y Y<|Yf 2 C4 V rfl A4 Y<|Yl AD Y ?_;refine Yg (Dv Y Y)<|Zf Y Y ?_;refine Aj (t:=87) Y V (fun j5=>?_) (fun j5=>?_);·
    refine Zf Y Y<|Yg (DF (n:=0) Y Y)<|Yg (AQ Y Y)<|Zv (AL Y Y)<|Zm Y<|Aj (t:=92) Y V (fun kv=>?_) (fun kv=>?_);·
     refine A7 Y V<|A7 Y V<|A7 Y V<|A7 Y V<|A7 Y V<|A7 Y V<|A7 Y V<|A7 Y V<|A7 Y V<|A7 Y V<|Zv (AQ Y Y)<|Z0<|Zn [1,3,4,5,6,7,62,63,64,103] ?_;refine Zx<|CW Y<|A0<|A3 Y<|AJ<|Zt<|Ad<|Zt<|Zt<|Ad<|Zt<|AO rfl LI Y (by exact ⟨congrArg Value.bool (CN (fun B:Gd x=>by obtain ⟨⟨J,K,O,U⟩,_⟩:=B.all i r hr;omega)).symm,rfl⟩)
    refine Zf Y Y<|Yf 3 C4 V rfl A4 Y<|Yl AD Y ?_;refine Yg (Ev Y Y)<|Zf Y Y ?_;refine Aj (t:=97) Y V (fun l5=>?_) (fun l5=>?_);·
     refine Zf Y Y<|Zf Y Y ?_
     (refine Gu Y (CO (n:=1) Y Y ?_ ?_) rfl rfl ?_;(focus (first|omega|(simp;omega)));(focus (first|omega|(simp;omega))))
     refine Yg (Au Y Y)<|Yg (AQ Y Y)<|Zv (AL Y Y)<|Z0<|Zn [1,3,4,5,6,7,62,63,64,103] ?_;refine Zx<|Aq Y (fun l8=>?_) (fun l8=>?_);·
      refine A0<|A3 Y<|AJ<|Zt<|Ad<|Zt<|Zt<|Ad<|Zt<|AO rfl LI Y (by exact ⟨congrArg Value.bool (CN (fun B:Gd x=>by obtain ⟨⟨J,K,O,U⟩,_⟩:=B.all i r hr;omega)).symm,rfl⟩)
     refine AC<|Zn [1,3,4,5,6,7,62,63,64] ?_;refine BO (e':=[]) (by exact ⟨(),⟨by exact HI.1 eJ,by omega,fun h=>by omega,fun h=>by omega⟩,V,V⟩)
    refine A7 Y V<|A7 Y V<|A7 Y V<|A7 Y V<|Yg (AL Y Y)<|Zv (AL Y Y)<|Z0<|Zn [1,3,4,5,6,7,62,63,64,103] ?_;refine Zx<|DI Y<|AC<|Zn [1,3,4,5,6,7,62,63,64] ?_;refine BO (e':=[]) (by exact ⟨(),⟨by exact HI.1 eJ,by omega,fun h=>by omega,fun h=>by omega⟩,V,V⟩)
   refine A7 Y V<|A7 Y V<|Yg (AL Y Y)<|Zv (AL Y Y)<|Zm Y<|Zf Y Y<|Yf 3 C4 V rfl A4 Y<|Yl AD Y ?_;refine Yg (Ev Y Y)<|Zf Y Y ?_;refine Aj (t:=97) Y V (fun l9=>?_) (fun l9=>?_);·
    refine Zf Y Y<|Zf Y Y ?_
    (refine Gu Y (CO (n:=1) Y Y ?_ ?_) rfl rfl ?_;(focus (first|omega|(simp;omega)));(focus (first|omega|(simp;omega))))
    refine Yg (Au Y Y)<|Yg (AQ Y Y)<|Zv (AL Y Y)<|Z0<|Zn [1,3,4,5,6,7,62,63,64,103] ?_;refine Zx<|Aq Y (fun lw=>?_) (fun lw=>?_);·
     refine A0<|A3 Y<|AJ<|Zt<|Ad<|Zt<|Zt<|Ad<|Zt<|AO rfl LI Y (by exact ⟨congrArg Value.bool (CN (fun B:Gd x=>by obtain ⟨⟨J,K,O,U⟩,_⟩:=B.all i r hr;omega)).symm,rfl⟩)
    refine AC<|Zn [1,3,4,5,6,7,62,63,64] ?_;refine BO (e':=[]) (by exact ⟨(),⟨by exact HI.1 eJ,by omega,fun h=>by omega,fun h=>by omega⟩,V,V⟩)
   refine A7 Y V<|A7 Y V<|A7 Y V<|A7 Y V<|Yg (AL Y Y)<|Zv (AL Y Y)<|Z0<|Zn [1,3,4,5,6,7,62,63,64,103] ?_;refine Zx<|DI Y<|AC<|Zn [1,3,4,5,6,7,62,63,64] ?_;refine BO (e':=[]) (by exact ⟨(),⟨by exact HI.1 eJ,by omega,fun h=>by omega,fun h=>by omega⟩,V,V⟩)
  rintro _ _ ⟨u9,cO,rfl,rfl⟩;refine Zq<|Az (n:=30) (0::1::3::7::7::7::39::119::255::511::1023::1023::1023::5119::15359::32767::65535::131071::262143::131071::655359::131071::2228223::7995391::16383999::33161215::67108863::134217727::268435455::536870911::[]) 16512 A6 A6 V<|A2 0 V (AP Y)<|A2 1 V (DF (n:=0) Y Y)<|A2 2 V (AP Y)<|DX (t:=106) Y (fun d9=>?_) (fun d9=>?_);·
   rw [Cp d9];obtain ⟨q,hq⟩:∃q,x.rows[i -1]?=some q:=⟨_,B3 A1⟩;obtain ⟨g2,sF,gm,T2,sj,gq,p9,gF,gy⟩:=hg (i -1) q hq;injection gq with gq
   injection gq with e291 e292
   subst e291 e292;have qy:gm[off+(i -1)*5+1]?=some (I4 q.k):=by rw [PN gy gF 1 A1];rfl
   refine An 3 V (AP Y)<|An 4 V (AP Y)<|An 5 V (AP Y) ?_
   (refine An 6 rfl (CO (n:=1) Y Y ?_ ?_) ?_;(focus (first|omega|(simp;omega)));(focus (first|omega|(simp;omega))))
   refine Yw 7 255 V (Zu [_] Y call263 Y V (Hm x vp vt hR A1 pb (i -1) q hq))<|CT<|An 8 V (Dv Y Y)<|An 9 V (AP Y)<|DX (t:=113) Y (fun j3=>?_) (fun j3=>?_);·
    rw [Cp j3];refine AF 10 V<|AF 11 V<|AF 12 V<|AF 13 V<|AF 14 V<|AF 15 V<|AF 16 V<|AF 17 V<|AF 18 V<|AF 19 V<|AF 20 V<|AF 21 V<|AF 22 V<|AF 23 V<|AF 24 V<|AF 25 V<|AF 26 V<|AF 27 V<|An 28 V (AQ Y Y)<|A2 29 V (AQ Y Y)<|Ag<|Zn [1,3,4,62,63,64,133] ?_;refine Zx<|CW Y<|A0<|A3 Y<|AJ<|Ad<|Zt<|Zt<|Ad<|Zt<|AO V LI Y (by exact ⟨congrArg Value.bool (CN (fun B:Gd x=>by have ha:=(B.all i r hr).2 d9 q hq;unfold UL at ha;omega)).symm,V⟩)
   rw [CN j3];refine An 10 V (AP Y)<|An 11 V (AP Y)<|An 12 V (AP Y) ?_
   (refine An 13 rfl (CO (n:=1) Y Y ?_ ?_) ?_;(focus (first|omega|(simp;omega)));(focus (first|omega|(simp;omega))))
   refine Yw 14 32767 V (Zu [_] Y call263 Y V (Hm x vp vt hR A1 pb (i -1) q hq))<|CT<|An 15 V (CP Y Y)<|An 16 V (AP Y)<|DX (t:=120) Y (fun ic=>?_) (fun ic=>?_);·
    rw [Cp ic];refine An 17 V (AB (off:=1) FF V rfl A4 Y)<|DH 18 V Wh (BP AD Y AN) ?_;refine An 19 V (AB (off:=6) C4 V rfl C6 Y)<|DH 20 V Wh (BP F1 Y AN) ?_;refine An 21 V (AP Y) ?_
    (refine An 22 rfl (CO (n:=1) Y Y ?_ ?_) ?_;(focus (first|omega|(simp;omega)));(focus (first|omega|(simp;omega))))
    refine An 23 V (Ac B5 AW Y Y A1)<|An 24 V (Ar (off:=1) FF V rfl A4 Y)<|XJ (b:=g) (x:= .cells gm T2 sj) (D':=67108863) 25 Y V rfl V (by simp [p9]) (BP AD Y qy) ?_;refine An 26 V (NM Y Y)<|An 27 V (AQ Y Y)<|An 28 V (AL Y Y)<|A2 29 V (AQ Y Y)<|Ag<|Zn [1,3,4,62,63,64,133] ?_;refine Zx<|Aq Y (fun qx=>?_) (fun qx=>?_);·
     refine A0<|A3 Y<|AJ<|Ad<|Zt<|Zt<|Ad<|Zt<|AO V LI Y (by exact ⟨congrArg Value.bool (CN (fun B:Gd x=>by have ha:=(B.all i r hr).2 d9 q hq;unfold UL at ha;omega)).symm,V⟩)
    refine AC<|A8<|Zx<|Zg<|Ya (n:=1) Y Y<|Zm Y<|Z0<|Zn [64,1,3,4,62,63] ?_;refine Ab (e':=[(64,_)]) (by
     exact ⟨i+1,V,⟨by omega,fun j r9 W G=>by
      rcases E0 j i with B|B
      · exact Z j r9 B G
      · obtain rfl:j=i:=A1
        rw [hr]at G;injection G with G;subst G
        refine ⟨cO,fun o9 q9 X=>?_⟩
        (rw [hq]at X;injection X with X;subst X;unfold UL;omega)⟩,rfl,rfl⟩)
   rw [CN ic];refine AF 17 V<|AF 18 V<|AF 19 V<|AF 20 V<|AF 21 V<|AF 22 V<|AF 23 V<|AF 24 V<|AF 25 V<|AF 26 V<|An 27 V (AL Y Y)<|An 28 V (AL Y Y)<|A2 29 V (AQ Y Y)<|Ag<|Zn [1,3,4,62,63,64,133] ?_;refine Zx<|DI Y<|AC<|A8<|Zx<|Zg<|Ya (n:=1) Y Y<|Zm Y<|Z0<|Zn [64,1,3,4,62,63] ?_;refine Ab (e':=[(64,_)]) (by
    exact ⟨i+1,V,⟨by omega,fun j r9 W G=>by
     rcases E0 j i with B|B
     · exact Z j r9 B G
     · obtain rfl:j=i:=A1
       rw [hr]at G;injection G with G;subst G
       refine ⟨cO,fun o9 q9 X=>?_⟩
       (rw [hq]at X;injection X with X;subst X;unfold UL;omega)⟩,rfl,rfl⟩)
  rw [CN d9];refine AF 3 V<|AF 4 V<|AF 5 V<|AF 6 V<|AF 7 V<|AF 8 V<|AF 9 V<|AF 10 V<|AF 11 V<|AF 12 V<|AF 13 V<|AF 14 V<|AF 15 V<|AF 16 V<|AF 17 V<|AF 18 V<|AF 19 V<|AF 20 V<|AF 21 V<|AF 22 V<|AF 23 V<|AF 24 V<|AF 25 V<|AF 26 V<|AF 27 V<|AF 28 V<|A2 29 V (AL Y Y)<|Ag<|Zn [1,3,4,62,63,64,133] ?_;refine Zx<|DI Y<|AC<|A8<|Zx<|Zg<|Ya (n:=1) Y Y<|Zm Y<|Z0<|Zn [64,1,3,4,62,63] ?_;refine Ab (e':=[(64,_)]) (by
   exact ⟨i+1,V,⟨by omega,fun j r9 W G=>by
    rcases E0 j i with B|B
    · exact Z j r9 B G
    · obtain rfl:j=i:=A1
      rw [hr]at G;injection G with G;subst G
      refine ⟨cO,fun o9 q9 X=>?_⟩
      (exfalso;omega)⟩,rfl,rfl⟩)
 obtain ⟨r0,gB⟩:∃r,x.rows[0]?=some r:=⟨_,B3 A1⟩;obtain ⟨rl,ek⟩:∃r,x.rows[x.rows.length -1]?=some r:=⟨_,B3 A1⟩;have I:Gd x↔(x.fi=0\/Bn r0 x.cl<x.lo)/\(x.fi+(x.rows.length:Int)=x.ct\/x.hi<Bn rl x.cl):=⟨fun h=>⟨h.first r0 gB,h.last rl ek⟩,fun h=>⟨by omega,by omega,by omega,by omega,by omega,fun h0=>absurd h0 hz,fun j r W=>Z j r (by have:=(BE.1 W).1;omega) W,fun r W=>by rw [gB]at W;injection W with W;rw [<-W];exact h.1,fun r W=>by rw [ek]at W;injection W with W;rw [<-W];exact h.2⟩⟩
 refine Ay<|Zt<|Zt<|AU<|Zx<|Zq<|Az (n:=29) (0::1::3::7::15::31::15::79::255::511::1023::2047::4095::2047::16383::2047::34815::131071::262143::524287::524287::1572863::4194303::524287::8912895::33554431::67108863::134217727::268435455::[]) 4194336 A6 A6 V<|A2 0 V (AB (off:=5) C4 V rfl A4 Y)<|B2 1 V AD Y ?_;refine A2 2 V (CP Y Y)<|A2 3 V (AP Y)<|DX (t:=138) Y (fun ax=>?_) (fun ax=>?_);·
  rw [Cp ax];refine AF 4 V<|AF 5 V<|AF 6 V<|AF 7 V<|AF 8 V<|A2 9 V (AQ Y Y)<|A2 10 V (AP Y)<|An 11 V (AB (off:=5) C4 V rfl A4 Y)<|DH 12 V Wh (BP AD Y AN) ?_;refine An 13 V (AP Y) ?_
  (refine An 14 rfl (He Y Y (IntWalk.i64_in _ ?_)) ?_;(focus (first|omega|(simp;omega))))
  refine An 15 V (AB (off:=4) C4 V rfl A4 Y)<|DH 16 V Wh (BP AD Y AN) ?_;refine An 17 V (CP Y Y)<|An 18 V (AP Y)<|DX (t:=153) Y (fun bg=>?_) (fun bg=>?_);·
   rw [Cp bg];refine AF 19 V<|AF 20 V<|AF 21 V<|AF 22 V<|AF 23 V<|AF 24 V<|AF 25 V<|An 26 V (AQ Y Y)<|A2 27 V (AQ Y Y)<|A2 28 V (Av Y)<|Ag<|Zn [2] ?_;refine Zx<|AJ<|AO V LI Y (by exact ⟨by exact congrArg Value.bool (Cp (I.2 ⟨by omega,by omega⟩)).symm,V⟩)
  rw [CN bg];refine An 19 V (AP Y)<|An 20 V (AP Y) ?_
  (refine An 21 rfl (CO (n:=1) Y Y ?_ ?_) ?_;(focus (first|omega|(simp;omega)));(focus (first|omega|(simp;omega))))
  refine An 23 V (AB (off:=3) C4 V rfl A4 Y)<|DH 24 V Wh (BP AD Y AN) ?_;refine Yz 22 4194303 33554431 [24,16,12,1] [true,false,false,false] [(24,(_,_))] V Y V rfl V rfl (Zu [_] Y call263 Y V (Hm x vp vt hR A1 pb (x.rows.length -1) rl ek))<|CT<|B6<|An 25 V (Ev Y Y)<|An 26 V (AL Y Y)<|A2 27 V (AQ Y Y)<|A2 28 V (Av Y)<|Ag<|Zn [2] ?_;refine Zx<|AJ<|AO V LI Y (by exact ⟨by exact PQ ⟨fun B=>I.2 ⟨by omega,by omega⟩,fun B=>by have:=I.1 B;omega⟩,V⟩)
 rw [CN ax];refine An 4 V (AP Y)<|An 6 V (AB (off:=2) C4 V rfl A4 Y)<|DH 7 V Wh (BP AD Y AN) ?_;refine Yz 5 31 255 [7,1] [true,false] [(7,(_,_))] V Y V rfl V rfl (Zu [_] Y call263 Y V (Hm x vp vt hR A1 pb 0 r0 gB))<|CT<|B6<|An 8 V (Dv Y Y)<|A2 9 V (AL Y Y)<|A2 10 V (AP Y)<|DX (t:=145) Y (fun bn=>?_) (fun bn=>?_);·
  rw [Cp bn];refine An 11 V (AB (off:=5) C4 V rfl A4 Y)<|DH 12 V Wh (BP AD Y AN) ?_;refine An 13 V (AP Y) ?_
  (refine An 14 rfl (He Y Y (IntWalk.i64_in _ ?_)) ?_;(focus (first|omega|(simp;omega))))
  refine An 15 V (AB (off:=4) C4 V rfl A4 Y)<|DH 16 V Wh (BP AD Y AN) ?_;refine An 17 V (CP Y Y)<|An 18 V (AP Y)<|DX (t:=153) Y (fun cu=>?_) (fun cu=>?_);·
   rw [Cp cu];refine AF 19 V<|AF 20 V<|AF 21 V<|AF 22 V<|AF 23 V<|AF 24 V<|AF 25 V<|An 26 V (AQ Y Y)<|A2 27 V (AQ Y Y)<|A2 28 V (Av Y)<|Ag<|Zn [2] ?_;refine Zx<|AJ<|AO V LI Y (by exact ⟨by exact congrArg Value.bool (Cp (I.2 ⟨by omega,by omega⟩)).symm,V⟩)
  rw [CN cu];refine An 19 V (AP Y)<|An 20 V (AP Y) ?_
  (refine An 21 rfl (CO (n:=1) Y Y ?_ ?_) ?_;(focus (first|omega|(simp;omega)));(focus (first|omega|(simp;omega))))
  refine An 23 V (AB (off:=3) C4 V rfl A4 Y)<|DH 24 V Wh (BP AD Y AN) ?_;refine Yz 22 4194303 33554431 [24,16,12,7] [true,false,false,false] [(24,(_,_))] V Y V rfl V rfl (Zu [_] Y call263 Y V (Hm x vp vt hR A1 pb (x.rows.length -1) rl ek))<|CT<|B6<|An 25 V (Ev Y Y)<|An 26 V (AL Y Y)<|A2 27 V (AQ Y Y)<|A2 28 V (Av Y)<|Ag<|Zn [2] ?_;refine Zx<|AJ<|AO V LI Y (by exact ⟨by exact PQ ⟨fun B=>I.2 ⟨by omega,by omega⟩,fun B=>by have:=I.1 B;omega⟩,V⟩)
 rw [CN bn];refine AF 11 V<|AF 12 V<|AF 13 V<|AF 14 V<|AF 15 V<|AF 16 V<|AF 17 V<|AF 18 V<|AF 19 V<|AF 20 V<|AF 21 V<|AF 22 V<|AF 23 V<|AF 24 V<|AF 25 V<|AF 26 V<|A2 27 V (AL Y Y)<|A2 28 V (Av Y)<|Ag<|Zn [2] ?_;refine Zx<|AJ<|AO V LI Y (by exact ⟨by exact congrArg Value.bool (CN (fun B=>by have:=I.1 B;omega)).symm,V⟩)
def inB(x:RP)(r:AV):Bool:=decide (x.lo<=Bn r x.cl/\Bn r x.cl<=x.hi)
noncomputable def EQ(x:RP):List AV:=if Gd x then x.rows.filter (inB x)else []
theorem dG(h:Gd x):EQ x=x.rows.filter (inB x):=AM h
theorem zO(h:¬Gd x):EQ x=[]:=AK h
theorem uI{i:Nat}{r:AV}(g:x.rows[i]?=some r)(h:inB x r=true):(x.rows.take (i+1)).filter (inB x)=(x.rows.take i).filter (inB x)++[r]:=by rw [Bi g,Hi];simp [h]
theorem XW{i:Nat}{r:AV}(g:x.rows[i]?=some r)(h:inB x r=false):(x.rows.take (i+1)).filter (inB x)=(x.rows.take i).filter (inB x):=by rw [Bi g,Hi];simp [h]
set_option maxHeartbeats 4000000 in
theorem kH(hv:UF M v x):Ba prog 172 #[v] [M] (fun r H'=>∃vr sr,r= .tuple #[vr,.bool (decide (Gd x))]/\Bc 5 71 vr (EQ x).length (Ae (EQ x)) sr/\H'=[sr,M]):=by
 have gq:=mL;obtain ⟨vr,vp,vt,rfl,hR,hP,hT⟩:=id hv;obtain ⟨p,cap,e9,hl,hg⟩:=id hR;subst e9;refine Se func172 ntmps172 [0] ?_;intro u R;refine A0<|Ze (Bx #[_,_,_,_,_,_,_,_,_])<|AE fun pb=>Za Y<|A3 Y<|Zq<|A0<|Zo Wh (A9 (cs:=#[_,_,_,_,_,_,_,_,_]) Wk Hv Y As AN)<|Xr [_] Y call232 Y V (Ue hv)<|Zv (D7 Y)<|A5<|Aq Y (fun B=>?_) (fun B=>?_);·
  refine BU<|A0<|Za Y<|A3 Y<|AJ<|Zt<|Cv rfl results172 Y Y (by exact ⟨.slice none 0 0,[],by rw [CN B],by rw [zO B];exact Bf 5 _,rfl⟩)
 have B:=HI.1 B;have cu:=B.tc
 have cO:=B.ct;have d9:=B.n
 have ek:=B.fi;refine AC<|Zx<|A0<|A3 Y<|Zq<|A0<|Zh 6 C4 V rfl C6 Y<|Zl F1 Y<|Zv (AY B5 Y)<|Zm Y<|A5<|AR<|BU<|Zb [4,14,1,12,13] ?_;refine BA (e0:=[(4,_),(14,_)]) (fun m e H=>∃(i:Nat) (vo:Value) (O:List AA),m=x.rows.length -i/\(i<=x.rows.length/\Bc 5 71 vo ((x.rows.take i).filter (inB x)).length (Ae ((x.rows.take i).filter (inB x))) O)/\e=[(4,vo),(14,I4 (i:Int))]/\H=[O]) (by exact ⟨0,.slice none 0 0,[],rfl,⟨C0 _,by rw [ID];exact Bf 5 _⟩,rfl,rfl⟩) Wp ?_;rintro _ _ _ ⟨i,vo,O,rfl,⟨hi,I⟩,rfl,rfl⟩;obtain ⟨qo,co,rfl⟩:=I.form;have gm:((x.rows.take i).filter (inB x)).length<=i:=MY (On _ _) (List.length_take_le _ _)
 refine A0<|Zv (Au Y Y)<|A5<|Zq<|Aq Y (fun W=>?_) (fun W=>?_);·
  obtain ⟨r,K⟩:∃r,x.rows[i]?=some r:=⟨_,B3 W⟩;obtain ⟨g,off,cur,T,zz,rfl,af,ax,U⟩:=hg i r K;refine AC<|Zx<|Zq<|AR<|A0<|Bb (Ac B5 AW Y Y A1)<|CS (cs:=[(g,.cells cur T zz)]) (by simp [af]) (A9 (cs:=r.A58) CI AW Y A1 U) V rfl<|Ze (Al DS #[_,_,_,_,_])<|AE fun rb=>Xe (Xw AW r.A58)<|A5<|A0<|Zo Wh (A9 (cs:=#[_,_,_,_,_]) CI AW Y As AN)<|Zh 1 C4 V rfl A4 Y<|Zl AD Y<|Xr [_,_] Y SD Y V (Fy r x.cl A1)<|A3 Y<|A0<|Zm Y<|Zh 2 C4 V rfl A4 Y<|Zl AD Y<|Zv (Ha Y Y)<|Zm Y<|Aj (t:=26) Y V (fun X=>?_) (fun X=>?_);·
   refine Zf Y Y<|Yf 3 C4 V rfl A4 Y<|Yl AD Y<|Yg (NM Y Y)<|Zv (AQ Y Y)<|Z0<|Zn [1,4,6,12,13,14,31] ?_;refine Zx<|Aq Y (fun Z=>?_) (fun Z=>?_);·
    have G:inB x r=true:=Cp A1;refine Zg<|Zm Y<|Zo Wh (A9 (cs:=#[_,_,_,_,_]) CI AW Y As AN)<|Ze (Ah (vs:=[_]) (cs:=[_,_,_,_,_]) B5 AW DS Y V rfl V rfl V)<|AE fun gb=>Ze (BR (by_:=40) (sz:=5) B5 (V:Tryz.prog.info? 71=some Tryz.t71) V rfl V rfl Y (I) Y (D8 5 gb 1 1 71 (0,0) [I4 r.t,I4 r.k,I4 r.v.a,I4 r.v.b,I4 r.v.c] V) Wo Wo Fm A1 A1) ?_;rintro _ _ ⟨gy,J,rfl⟩;obtain ⟨bn,bg,rfl⟩:=J.form;refine AG Y<|A8<|Zx<|Zg<|Ya (n:=1) Y Y<|Zm Y<|Z0<|Zn [4,14,1,12,13] ?_;refine Ab (e':=[(4,_),(14,_)]) (by exact ⟨i+1,_,_,rfl,⟨by omega,BS J (by rw [uI K G,B7];rfl) (by rw [uI K G,Bh];rfl)⟩,rfl,rfl⟩)
   have G:inB x r=false:=CN A1;refine AC<|A8<|Zx<|Zg<|Ya (n:=1) Y Y<|Zm Y<|Z0<|Zn [4,14,1,12,13] ?_;refine Ab (e':=[(4,_),(14,_)]) (by exact ⟨i+1,_,O,rfl,⟨by omega,BS I (by rw [XW K G]) (by rw [XW K G])⟩,rfl,rfl⟩)
  have G:inB x r=false:=CN A1;refine A7 Y V<|A7 Y V<|A7 Y V<|A7 Y V<|Zv (AL Y Y)<|Z0<|Zn [1,4,6,12,13,14,31] ?_;refine Zx<|DI Y<|AC<|A8<|Zx<|Zg<|Ya (n:=1) Y Y<|Zm Y<|Z0<|Zn [4,14,1,12,13] ?_;refine Ab (e':=[(4,_),(14,_)]) (by exact ⟨i+1,_,O,rfl,⟨by omega,BS I (by rw [XW K G]) (by rw [XW K G])⟩,rfl,rfl⟩)
 have ei:i=x.rows.length:=by omega
 subst ei;rw [GB]at I⊢;refine Ay<|Zt<|Zt<|AU<|Zx<|A0<|Zm Y<|Za Y<|A3 Y<|AJ<|Cv rfl results172 Y Y (by exact ⟨.slice qo _ co,O,by rw [Cp B],by rw [dG B];exact I,rfl⟩)
end Go.Proofs.YtfhjaegddfehhaaGreatDoor
