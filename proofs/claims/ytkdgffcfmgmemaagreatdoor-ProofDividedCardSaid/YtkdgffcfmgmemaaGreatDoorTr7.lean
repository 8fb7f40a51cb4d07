/- statetree: Prove. -/
import Derived.Test.YtkdgffcfmgmemaaGreatDoorEz
import Derived.Test.YtkdgffcfmgmemaaGreatDoorTr6
set_option linter.unusedVariables false
set_option linter.unusedSimpArgs false
namespace Go.Proofs.YtkdgffcfmgmemaaGreatDoor
open Go.Proofs.Tryz
open Go Go.RowKit Gw
set_option maxRecDepth 100000
attribute [local irreducible] Gw.At Gw.Nx Gw.Ops
def Ce(pd:AQ→Bool)(l:List AQ):Nat:=(l.takeWhile (fun x=>!pd x)).length
theorem Gc(pd:AQ→Bool)(l:List AQ):Ce pd l≤l.length:=(List.takeWhile_sublist _).length_le
theorem RJ{pd:AQ→Bool}:∀{l:List AQ} {i:Nat} {x:AQ},l[i]?=some x→pd x=true→(∀(j:Nat) (y:AQ),j<i→l[j]?=some y→pd y=false)→Ce pd l=i
 |[],i,x,hx,_,_=>by simp at hx
 |z::l,0,x,hx,hp,_=>by
  simp only [wL,xI]at hx;subst hx;simp [Ce,hp]
 |z::l,i+1,x,hx,hp,hno=>by
  simp only [wV]at hx;have h0:=hno 0 z (by omega) rfl
  have ih:=RJ (l:=l) hx hp (fun j y hj hy=>hno (j+1) y (by omega) hy);unfold Ce at ih⊢;rw [xH,if_pos (by simp [h0]),uJ,ih]
theorem Ml{pd:AQ→Bool}:∀{l:List AQ},(∀(j:Nat) (y:AQ),l[j]?=some y→pd y=false)→Ce pd l=l.length
 |[],_=>rfl
 |z::l,hno=>by
  have h0:=hno 0 z rfl;have ih:=Ml (l:=l) (fun j y hy=>hno (j+1) y hy)
  unfold Ce at ih⊢;rw [xH,if_pos (by simp [h0]),uJ,ih,uJ]
def Pd(n len:Nat):Int:=if n<len then(n:Int)else-1
def geV(c:Nat)(lo:Int)(r:AQ):Bool:=decide (lo≤DZ r c)
def gtV(c:Nat)(hi:Int)(r:AQ):Bool:=decide (hi<DZ r c)
theorem rE(v lo:Int)(bl:Nat):Az Tryz.prog 119 #[I4 v,I5 bl] [[(bl,.cells #[I4 lo] 3 (0,0))]] (.bool (decide (lo≤v))):=by
 refine Se func119 ntmps119 [0,1] ?_;intro u R;refine Zq<|Zg<|Za Y<|Z0<|Zx<|Zq<|Zg<|Zm Y<|Zl isAgg3 Y ?_;refine Zv (Gj Y Y)<|Za Y<|Z0<|Zx<|AA ?_;refine AJ rfl results119 Y (by exact ⟨rfl,rfl⟩)
theorem tC(r:AQ)(c:Nat)(hc:c≤3)(lo:Int)(bi bc bl:Nat):Az Tryz.prog 118 #[.agg #[I4 r.t,I4 r.k,I4 r.v.a,I4 r.v.b,I4 r.v.c],I5 bi,I5 bc] [[(bi,.cells #[.func (.func 119) #[] #[I5 bl]] 189 (0,0))],[(bc,.cells #[I4 (c:Int)] 3 (0,0))],[(bl,.cells #[I4 lo] 3 (0,0))]] (.bool (geV c lo r)):=by
 refine Se func118 ntmps118 [0,1,2] ?_;intro u R;refine Zq<|Zg<|Ze (Bx #[_,_,_,_,_]) ?_;rintro _ _ ⟨b1,rfl,rfl⟩;refine Za Y<|Z0<|Zx<|Zq<|BK (n:=6) (0::0::0::6::15::31::[]) 24 (by kernel_rfl) (by kernel_rfl) rfl ?_;refine Zj 1 0 rfl isAgg189 Y ?_;refine D9 (D':=3) 1 rfl rfl rfl Wh (Pa #[_,_,_,_,_] isAgg113 sizeOf113 Y) ?_;refine Zj 7 2 rfl isAgg3 Y ?_;refine Yz 3 6 15 [2,1,0] [false,false,true] [(0,(_,_))] rfl Y rfl rfl rfl rfl (Zu [_,_] Y call97 Y rfl (QD r c hc)) ?_;rintro _ _ ⟨rfl,rfl⟩;refine ⟨Zk (Ad),?_⟩;refine Yw 4 31 rfl (Zu [_] Y call119 Y rfl (rE (DZ r c) lo bl)) ?_;rintro _ _ ⟨rfl,rfl⟩;refine Zi 63 5 rfl (Au Y)<|Ao ?_;refine Zx<|AA ?_;refine AJ rfl results118 Y (by exact ⟨rfl,rfl⟩)
theorem tL{M:List AU}{v:Value}{L:List AQ}(hv:E5 M v L)(hn:L.length≤1000000)(c:Nat)(hc:c≤3)(lo:Int)(bi bc bl:Nat):Az Tryz.prog 117 #[v,.func (.func 118) #[] #[I5 bi,I5 bc]] [[(bi,.cells #[.func (.func 119) #[] #[I5 bl]] 189 (0,0))],[(bc,.cells #[I4 (c:Int)] 3 (0,0))],[(bl,.cells #[I4 lo] 3 (0,0))],M] (I4 (Pd (Ce (geV c lo) L) L.length)):=by
 have hml:=mL;obtain ⟨p,cap,rfl,hl,hg⟩:=hv;refine Se func117 ntmps117 [0,1] ?_;intro u R;refine Zq<|Zg<|Za Y<|Z0<|Zx<|Zq<|Zq<|Zg<|Zm Y<|Zv (AV underlying45 Y)<|Zm Y<|Z0<|Zx<|AR<|Zb [8,0,1,7] ?_;refine BB (e0:=[(8,_)]) (fun m e H=>∃(i:Nat),m=L.length -i∧(i≤L.length∧∀(j:Nat) (y:AQ),j<i→L[j]?=some y→geV c lo y=false)∧e=[(8,I4 (i:Int))]∧H=[]) (by exact ⟨0,rfl,⟨uK _,by intro j y hj;omega⟩,rfl,rfl⟩) Wp ?_;rintro _ _ _ ⟨i,rfl,⟨hi,hno⟩,rfl,rfl⟩;refine Zq<|Zg<|Zv (Av Y Y)<|Z0<|Zx<|Zq ?_;refine Aq Y (fun hlt=>?_) (fun hlt=>?_)
 ·
  obtain ⟨x,hx⟩:∃x,L[i]?=some x:=⟨_,tq hlt⟩;obtain ⟨g,off,cur,T,zz,rfl,hm9,hsz9,hex9⟩:=hg i x hx;refine AB<|Zx<|Zq<|AR<|Zq<|Zg<|Zm Y<|Za Y<|Z0<|Zx<|Zq<|Zg<|Zm Y<|Zm Y<|Zm Y ?_;refine BO (Ac underlying45 sizeOf113 Y Y (by omega)) ?_;refine Cm (cs:=[(g,.cells cur T zz)]) (by simp [hm9]) (AZ (cs:=#[I4 x.t,I4 x.k,I4 x.v.a,I4 x.v.b,I4 x.v.c]) isAgg113 sizeOf113 Y (by omega) hex9) rfl rfl ?_;refine Xr [_] Y call118 Y rfl (tC x c hc lo bi bc bl) ?_;refine Z0<|Zx ?_;refine Ag Y (fun hp=>?_) (fun hp=>?_)
  ·
   refine Zq<|Zg<|Zm Y<|Za Y<|Z0<|Zx<|AA<|AX<|Zt<|Zt<|AX<|Zt ?_;refine AJ rfl results117 Y (by exact ⟨by rw [RJ hx hp hno];unfold Pd;rw [if_pos hlt],rfl⟩)
  refine AB<|A8<|Zx<|Zg<|Ya (n:=1) Y Y<|Zm Y<|Z0<|Zn [8,0,1,7] ?_;refine Aa (e':=[(8,_)]) (by exact ⟨i+1,rfl,⟨by omega,fun j y hj hy=>by rcases uU j i with h9|h9;exact hno j y h9 hy;obtain rfl:j=i:=(by omega);rw [hx]at hy;injection hy with hy;rw [←hy];exact hp⟩,rfl,rfl⟩)
 have hfn:Ce (geV c lo) L=L.length:=Ml (fun j y hy=>hno j y (by have:=(tu.1 hy).1;omega) hy);refine Aw<|Zt<|Zt<|AP<|Zx<|Zq<|Zg<|Za Y<|Z0<|Zx<|AA ?_;refine AJ rfl results117 Y (by exact ⟨by rw [hfn];unfold Pd;rw [if_neg (by omega)],rfl⟩)
theorem rG{M:List AU}{vr ve:Value}{L:List AQ}(hv:E5 M vr L)(hn:L.length≤1000000)(c:Nat)(hc:c≤3)(lo:Int)(bo bc bl:Nat):Az Tryz.prog 116 #[.func (.func 119) #[] #[I5 bl],I5 bo,I5 bc] [[(bo,.cells #[vr,ve] 187 (0,0))],[(bc,.cells #[I4 (c:Int)] 3 (0,0))],[(bl,.cells #[I4 lo] 3 (0,0))],M] (I4 ((Ce (geV c lo) L:Nat):Int)):=by
 have hml:=mL;obtain ⟨p,cap,rfl,hl,hg⟩:=id hv;have hfl:=Gc (geV c lo) L
 refine Se func116 ntmps116 [0,1,2] ?_;intro u R;refine Zq<|Zg<|Ze (Bx #[_]) ?_;rintro _ _ ⟨bi,rfl,rfl⟩;refine Za Y<|Z0<|Zx<|Zq<|Zg<|Zh 0 underlying187 rfl rfl sizeOf45 Y<|Zl isAgg45 Y ?_;refine Zv (Bt (vs:=[]) (us:=[_,_]) Y Y) ?_;refine Xr [_,_] Y call117 Y rfl (tL hv hn c hc lo bi bc bl) ?_;refine Za Y<|Z0<|Zx<|Zq<|Zq<|Zg<|Zm Y<|Zv (Eg Y Y)<|Z0<|Zx ?_;refine Aq Y (fun hneg=>?_) (fun hneg=>?_)
 ·
  have hge:Ce (geV c lo) L=L.length:=by
   rcases uU (Ce (geV c lo) L) L.length with h9|h9
   · unfold Pd at hneg;rw [if_pos h9]at hneg;omega
   · omega
  refine Zq<|Zg<|Zh 0 underlying187 rfl rfl sizeOf45 Y<|Zl isAgg45 Y ?_;refine Zv (AV underlying45 Y)<|Za Y<|Z0<|Zn [4] ?_;refine Zx<|AA<|Zt ?_;refine AJ rfl results116 Y (by exact ⟨by rw [hge],rfl⟩)
 have hlt:Ce (geV c lo) L<L.length:=by
  rcases uU (Ce (geV c lo) L) L.length with h9|h9
  · exact h9
  · unfold Pd at hneg;rw [if_neg (by omega)]at hneg;omega
 refine AB<|Zx<|Zq<|Zg<|Zm Y<|Za Y<|Z0<|Zx<|AA ?_;refine AJ rfl results116 Y (by exact ⟨by unfold Pd;rw [if_pos hlt],rfl⟩)
theorem rD(v lo:Int)(bl:Nat):Az Tryz.prog 120 #[I4 v,I5 bl] [[(bl,.cells #[I4 lo] 3 (0,0))]] (.bool (decide (lo<v))):=by
 refine Se func120 ntmps120 [0,1] ?_;intro u R;refine Zq<|Zg<|Za Y<|Z0<|Zx<|Zq<|Zg<|Zm Y<|Zl isAgg3 Y ?_;refine Zv (Eu Y Y)<|Za Y<|Z0<|Zx<|AA ?_;refine AJ rfl results120 Y (by exact ⟨rfl,rfl⟩)
theorem su(r:AQ)(c:Nat)(hc:c≤3)(lo:Int)(bi bc bl:Nat):Az Tryz.prog 118 #[.agg #[I4 r.t,I4 r.k,I4 r.v.a,I4 r.v.b,I4 r.v.c],I5 bi,I5 bc] [[(bi,.cells #[.func (.func 120) #[] #[I5 bl]] 189 (0,0))],[(bc,.cells #[I4 (c:Int)] 3 (0,0))],[(bl,.cells #[I4 lo] 3 (0,0))]] (.bool (gtV c lo r)):=by
 refine Se func118 ntmps118 [0,1,2] ?_;intro u R;refine Zq<|Zg<|Ze (Bx #[_,_,_,_,_]) ?_;rintro _ _ ⟨b1,rfl,rfl⟩;refine Za Y<|Z0<|Zx<|Zq<|BK (n:=6) (0::0::0::6::15::31::[]) 24 (by kernel_rfl) (by kernel_rfl) rfl ?_;refine Zj 1 0 rfl isAgg189 Y ?_;refine D9 (D':=3) 1 rfl rfl rfl Wh (Pa #[_,_,_,_,_] isAgg113 sizeOf113 Y) ?_;refine Zj 7 2 rfl isAgg3 Y ?_;refine Yz 3 6 15 [2,1,0] [false,false,true] [(0,(_,_))] rfl Y rfl rfl rfl rfl (Zu [_,_] Y call97 Y rfl (QD r c hc)) ?_;rintro _ _ ⟨rfl,rfl⟩;refine ⟨Zk (Ad),?_⟩;refine Yw 4 31 rfl (Zu [_] Y call120 Y rfl (rD (DZ r c) lo bl)) ?_;rintro _ _ ⟨rfl,rfl⟩;refine Zi 63 5 rfl (Au Y)<|Ao ?_;refine Zx<|AA ?_;refine AJ rfl results118 Y (by exact ⟨rfl,rfl⟩)
theorem tK{M:List AU}{v:Value}{L:List AQ}(hv:E5 M v L)(hn:L.length≤1000000)(c:Nat)(hc:c≤3)(lo:Int)(bi bc bl:Nat):Az Tryz.prog 117 #[v,.func (.func 118) #[] #[I5 bi,I5 bc]] [[(bi,.cells #[.func (.func 120) #[] #[I5 bl]] 189 (0,0))],[(bc,.cells #[I4 (c:Int)] 3 (0,0))],[(bl,.cells #[I4 lo] 3 (0,0))],M] (I4 (Pd (Ce (gtV c lo) L) L.length)):=by
 have hml:=mL;obtain ⟨p,cap,rfl,hl,hg⟩:=hv;refine Se func117 ntmps117 [0,1] ?_;intro u R;refine Zq<|Zg<|Za Y<|Z0<|Zx<|Zq<|Zq<|Zg<|Zm Y<|Zv (AV underlying45 Y)<|Zm Y<|Z0<|Zx<|AR<|Zb [8,0,1,7] ?_;refine BB (e0:=[(8,_)]) (fun m e H=>∃(i:Nat),m=L.length -i∧(i≤L.length∧∀(j:Nat) (y:AQ),j<i→L[j]?=some y→gtV c lo y=false)∧e=[(8,I4 (i:Int))]∧H=[]) (by exact ⟨0,rfl,⟨uK _,by intro j y hj;omega⟩,rfl,rfl⟩) Wp ?_;rintro _ _ _ ⟨i,rfl,⟨hi,hno⟩,rfl,rfl⟩;refine Zq<|Zg<|Zv (Av Y Y)<|Z0<|Zx<|Zq ?_;refine Aq Y (fun hlt=>?_) (fun hlt=>?_)
 ·
  obtain ⟨x,hx⟩:∃x,L[i]?=some x:=⟨_,tq hlt⟩;obtain ⟨g,off,cur,T,zz,rfl,hm9,hsz9,hex9⟩:=hg i x hx;refine AB<|Zx<|Zq<|AR<|Zq<|Zg<|Zm Y<|Za Y<|Z0<|Zx<|Zq<|Zg<|Zm Y<|Zm Y<|Zm Y ?_;refine BO (Ac underlying45 sizeOf113 Y Y (by omega)) ?_;refine Cm (cs:=[(g,.cells cur T zz)]) (by simp [hm9]) (AZ (cs:=#[I4 x.t,I4 x.k,I4 x.v.a,I4 x.v.b,I4 x.v.c]) isAgg113 sizeOf113 Y (by omega) hex9) rfl rfl ?_;refine Xr [_] Y call118 Y rfl (su x c hc lo bi bc bl) ?_;refine Z0<|Zx ?_;refine Ag Y (fun hp=>?_) (fun hp=>?_)
  ·
   refine Zq<|Zg<|Zm Y<|Za Y<|Z0<|Zx<|AA<|AX<|Zt<|Zt<|AX<|Zt ?_;refine AJ rfl results117 Y (by exact ⟨by rw [RJ hx hp hno];unfold Pd;rw [if_pos hlt],rfl⟩)
  refine AB<|A8<|Zx<|Zg<|Ya (n:=1) Y Y<|Zm Y<|Z0<|Zn [8,0,1,7] ?_;refine Aa (e':=[(8,_)]) (by exact ⟨i+1,rfl,⟨by omega,fun j y hj hy=>by rcases uU j i with h9|h9;exact hno j y h9 hy;obtain rfl:j=i:=(by omega);rw [hx]at hy;injection hy with hy;rw [←hy];exact hp⟩,rfl,rfl⟩)
 have hfn:Ce (gtV c lo) L=L.length:=Ml (fun j y hy=>hno j y (by have:=(tu.1 hy).1;omega) hy);refine Aw<|Zt<|Zt<|AP<|Zx<|Zq<|Zg<|Za Y<|Z0<|Zx<|AA ?_;refine AJ rfl results117 Y (by exact ⟨by rw [hfn];unfold Pd;rw [if_neg (by omega)],rfl⟩)
theorem rF{M:List AU}{vr ve:Value}{L:List AQ}(hv:E5 M vr L)(hn:L.length≤1000000)(c:Nat)(hc:c≤3)(lo:Int)(bo bc bl:Nat):Az Tryz.prog 116 #[.func (.func 120) #[] #[I5 bl],I5 bo,I5 bc] [[(bo,.cells #[vr,ve] 187 (0,0))],[(bc,.cells #[I4 (c:Int)] 3 (0,0))],[(bl,.cells #[I4 lo] 3 (0,0))],M] (I4 ((Ce (gtV c lo) L:Nat):Int)):=by
 have hml:=mL;obtain ⟨p,cap,rfl,hl,hg⟩:=id hv;have hfl:=Gc (gtV c lo) L
 refine Se func116 ntmps116 [0,1,2] ?_;intro u R;refine Zq<|Zg<|Ze (Bx #[_]) ?_;rintro _ _ ⟨bi,rfl,rfl⟩;refine Za Y<|Z0<|Zx<|Zq<|Zg<|Zh 0 underlying187 rfl rfl sizeOf45 Y<|Zl isAgg45 Y ?_;refine Zv (Bt (vs:=[]) (us:=[_,_]) Y Y) ?_;refine Xr [_,_] Y call117 Y rfl (tK hv hn c hc lo bi bc bl) ?_;refine Za Y<|Z0<|Zx<|Zq<|Zq<|Zg<|Zm Y<|Zv (Eg Y Y)<|Z0<|Zx ?_;refine Aq Y (fun hneg=>?_) (fun hneg=>?_)
 ·
  have hge:Ce (gtV c lo) L=L.length:=by
   rcases uU (Ce (gtV c lo) L) L.length with h9|h9
   · unfold Pd at hneg;rw [if_pos h9]at hneg;omega
   · omega
  refine Zq<|Zg<|Zh 0 underlying187 rfl rfl sizeOf45 Y<|Zl isAgg45 Y ?_;refine Zv (AV underlying45 Y)<|Za Y<|Z0<|Zn [4] ?_;refine Zx<|AA<|Zt ?_;refine AJ rfl results116 Y (by exact ⟨by rw [hge],rfl⟩)
 have hlt:Ce (gtV c lo) L<L.length:=by
  rcases uU (Ce (gtV c lo) L) L.length with h9|h9
  · exact h9
  · unfold Pd at hneg;rw [if_neg (by omega)]at hneg;omega
 refine AB<|Zx<|Zq<|Zg<|Zm Y<|Za Y<|Z0<|Zx<|AA ?_;refine AJ rfl results116 Y (by exact ⟨by unfold Pd;rw [if_pos hlt],rfl⟩)
theorem PN(t c:Int):Az Tryz.prog 114 #[I4 t,I4 c] [] (.bool (decide ((0≤t∧t<4)∧0≤c∧c<4))):=by
 refine Se func114 ntmps114 [0,1] ?_;intro u R;refine Zq<|Zg<|Za Y<|Z0<|Zx<|Zq<|Zg<|Zm Y<|Zv (Gj Y Y)<|Zm Y ?_;refine Aj (t:=7) Y rfl (fun h1=>?_) (fun h1=>?_)
 ·
  refine Zf Y Y<|Yg (Eg Y Y)<|Zv (AO Y Y)<|Zm Y ?_;refine Aj (t:=11) Y rfl (fun h2=>?_) (fun h2=>?_)
  ·
   refine Zf Y Y<|Yg (Gj Y Y)<|Zv (AO Y Y)<|Zm Y ?_;refine Aj (t:=15) Y rfl (fun h3=>?_) (fun h3=>?_)
   ·
    refine Zf Y Y<|Yg (Eg Y Y)<|Zv (AO Y Y)<|Za Y<|Z0<|Zn [4] ?_;refine Zx<|AA ?_;refine AJ rfl results114 Y (by exact ⟨by exact congrArg Value.bool (decide_eq_decide.2 (by omega)),rfl⟩)
   refine A7 Y rfl<|A7 Y rfl<|Zv (AC Y Y)<|Za Y<|Z0<|Zn [4] ?_;refine Zx<|AA ?_;refine AJ rfl results114 Y (by exact ⟨by exact congrArg Value.bool (decide_eq_false (by omega)).symm,rfl⟩)
  refine A7 Y rfl<|A7 Y rfl<|Zv (AC Y Y)<|Zm Y<|A7 Y rfl<|A7 Y rfl<|Zv (AC Y Y)<|Za Y<|Z0<|Zn [4] ?_;refine Zx<|AA ?_;refine AJ rfl results114 Y (by exact ⟨by exact congrArg Value.bool (decide_eq_false (by omega)).symm,rfl⟩)
 refine A7 Y rfl<|A7 Y rfl<|Zv (AC Y Y)<|Zm Y<|A7 Y rfl<|A7 Y rfl<|Zv (AC Y Y)<|Zm Y<|A7 Y rfl<|A7 Y rfl<|Zv (AC Y Y)<|Za Y<|Z0<|Zn [4] ?_;refine Zx<|AA ?_;refine AJ rfl results114 Y (by exact ⟨by exact congrArg Value.bool (decide_eq_false (by omega)).symm,rfl⟩)
structure RP where
 tb:Int
 cl:Int
 lo:Int
 hi:Int
 ct:Int
 fi:Int
 rows:List AQ
 paths:List (List Bs)
 roots:List Bs
deriving DecidableEq
def Bl(L:List AQ)(c:Nat)(lo:Int):Nat:=Ce (geV c lo) L -1
def toT(L:List AQ)(c:Nat)(hi:Int):Nat:=min (Ce (gtV c hi) L+1) L.length
def J9(L:List AQ)(f k:Nat):List (List Bs):=(List.range k).map fun j=>EA (K9 L) (f+j)
def EQ(rs:List AQ)(t c:Nat)(lo hi:Int):RP:=
 ⟨t,c,lo,hi,(BD rs (t:Int) c).length,(Bl (BD rs (t:Int) c) c lo:Nat),((BD rs (t:Int) c).drop (Bl (BD rs (t:Int) c) c lo)).take (toT (BD rs (t:Int) c) c hi -Bl (BD rs (t:Int) c) c lo),
   J9 (BD rs (t:Int) c) (Bl (BD rs (t:Int) c) c lo) (toT (BD rs (t:Int) c) c hi -Bl (BD rs (t:Int) c) c lo),NE rs⟩
def Lc(M:List AU)(pvs:List Value)(ps:List (List Bs)):Prop:=pvs.length=ps.length∧∀(i:Nat) (v:Value) (l:List Bs),pvs[i]?=some v→ps[i]?=some l→Du M v l
theorem TN(M:List AU):Lc M [] []:=⟨rfl,by intro i v l h;simp at h⟩
theorem Lc.snoc{M M':List AU}{pvs:List Value}{ps:List (List Bs)}(h:Lc M pvs ps){v:Value}{l:List Bs}(hv:Du M' v l)(hm:∀c∈M,c∈M'):Lc M' (pvs++[v]) (ps++[l]):=by
 obtain ⟨h1,h2⟩:=h;refine ⟨by rw [u6,u6,h1];rfl,?_⟩;intro i w k hi hk;rcases uU i pvs.length with h9|h9
 · rw [xS h9]at hi
   rw [xS (by omega)]at hk;exact (h2 i w k hi hk).mono hm
 · rw [w9 h9]at hi
   rw [w9 (by omega)]at hk;rw [h1]at hi;cases h:i -ps.length with
   |zero=>rw [h]at hi hk;simp at hi hk;rw [←hi,←hk];exact hv
   |succ n=>rw [h]at hi;simp at hi
theorem PH(L:List AQ)(f k:Nat):J9 L f (k+1)=J9 L f k++[EA (K9 L) (f+k)]:=by unfold J9;rw [z8,uW];rfl
theorem QZ(L:List AQ)(f k:Nat):(J9 L f k).length=k:=by unfold J9;rw [u7,yR]
theorem aC{e:TypeId}{v:Value}{n:Nat}{xs:List Value}{s:List AU}(h:BZ 1 e v n xs s):n≤maxLen:=by
 obtain ⟨_,⟨_,h0,_⟩|⟨_,_,_,_,_,_,h1,h2,_⟩⟩:=h
 · omega
 · omega
theorem J4(rs:List AQ):(NE rs).length=16:=by unfold NE;rw [u7];rfl
set_option maxHeartbeats 4000000 in
theorem Y0(v:Value)(p:Int)(rs:List AQ)(s:List AU)(hv:Nv v p rs s)(hs:BJ rs)(hn:rs.length≤2000)(hok:∀r∈rs,r.ok)(t c:Nat)(ht:t≤3)(hc:c≤3)(lo hi:Int)(hlh:lo≤hi)(Tg:TypeId)(zg:Nat×Nat):
 CQ Tryz.prog 51 #[v,I4 (t:Int),I4 (c:Int),I4 lo,I4 hi] [[(1,.cells (DC.map Bp).toArray Tg zg)],s] (fun r H'=>∃vr vp vt sr2 sp pvs mp so,r= .tuple #[.agg #[I4 (t:Int),I4 (c:Int),I4 lo,I4 hi,I4 (((BD rs (t:Int) c).length:Nat):Int),I4 (((Bl (BD rs (t:Int) c) c lo):Nat):Int),vr,vp,vt],I4 0]∧BZ 5 113 vr (((BD rs (t:Int) c).drop (Bl (BD rs (t:Int) c) c lo)).take ((toT (BD rs (t:Int) c) c hi) -(Bl (BD rs (t:Int) c) c lo))).length (Ae (((BD rs (t:Int) c).drop (Bl (BD rs (t:Int) c) c lo)).take ((toT (BD rs (t:Int) c) c hi) -(Bl (BD rs (t:Int) c) c lo)))) sr2∧BZ 1 47 vp ((toT (BD rs (t:Int) c) c hi) -(Bl (BD rs (t:Int) c) c lo)) pvs sp∧Lc mp pvs (J9 (BD rs (t:Int) c) (Bl (BD rs (t:Int) c) c lo) ((toT (BD rs (t:Int) c) c hi) -(Bl (BD rs (t:Int) c) c lo)))∧BZ 1 9 vt 16 ((NE rs).map E8) so∧H'=[sr2,sp,mp,so,[(1,.cells (DC.map Bp).toArray Tg zg)],s]):=by
 have hml:=mL;obtain ⟨sp9,mb9,es9,ck9,lm9,rfl,hst9⟩:=id hv;have hll:=I7 hs (t:Int) c
 have hf1:=Gc (geV c lo) (BD rs (t:Int) c);have hf2:=Gc (gtV c hi) (BD rs (t:Int) c)
 have hfr:(Bl (BD rs (t:Int) c) c lo)=Ce (geV c lo) (BD rs (t:Int) c) -1:=rfl;have hto:(toT (BD rs (t:Int) c) c hi)=min (Ce (gtV c hi) (BD rs (t:Int) c)+1) (BD rs (t:Int) c).length:=rfl
 refine Se func51 ntmps51 [0,1,2,3,4] ?_;intro u R;refine Zq<|Zg<|Ze (Bx #[_]) ?_;rintro _ _ ⟨bc,rfl,rfl⟩;refine Ze (Bx #[_]) ?_;rintro _ _ ⟨bl,rfl,rfl⟩;refine Ze (Bx #[_]) ?_;rintro _ _ ⟨bh,rfl,rfl⟩;refine Ze (Al zeroValue49 #[_,_,_,_,_,_,_,_,_]) ?_;rintro _ _ ⟨qb,rfl,rfl⟩;refine Za Y<|Z0<|Zx<|Zq<|AR<|Zq<|Zg<|Zm Y<|Zv (EI underlying33 Y Y)<|Za Y<|Z0<|Zx ?_;refine Ag Y (fun h1=>?_) (fun h1=>?_)
 ·
  cases h1
 refine Zq<|Zg<|Zm Y<|Zl isAgg3 Y ?_;refine Xr [_,_] Y call114 Y rfl (PN (t:Int) (c:Int)) ?_;rw [decide_eq_true (show((0≤(t:Int)∧(t:Int)<4)∧0≤(c:Int)∧(c:Int)<4) by omega)];refine Zv (Cg Y)<|Zm Y ?_;refine Ak (t:=29) Y rfl (fun h2=>?_) (fun h2=>?_)
 ·
  cases h2
 refine Yl isAgg3 Y ?_;refine Yl isAgg3 Y ?_;refine Yg (Eu Y Y)<|Zv (AC Y Y)<|Za Y<|Z0<|Zn [0,1,7,8,9,10,24] ?_;refine Zx ?_;refine Aq Y (fun h3=>?_) (fun h3=>?_)
 ·
  exfalso;omega
 refine AB<|A8<|Zx<|Zq<|Zg<|Zm Y<|Zm Y<|Zl isAgg3 Y ?_;refine Zc [_,_,_] Y call115 Y rfl (Qp _ p rs s hv hs hn hok (t:Int) c hc) ?_;rintro _ _ ⟨_,⟨vr,ve,sr,se,rfl,hO,rfl⟩,rfl⟩;obtain ⟨qr,cr,rfl⟩:=hO.1.form;obtain ⟨qe,ce,rfl⟩:=hO.2.form;have hRU:=Cz hO.1 (by omega)
 have hSU:Du se (.slice qe (BD rs (t:Int) c).length ce) (K9 (BD rs (t:Int) c)):=GH (BP hO.2 (EW _).symm rfl) (by rw [EW];omega);obtain ⟨p9,cap9,e9,hol,hg⟩:=id hRU;injection e9 with e91 e92 e93
 subst e91 e93;refine Ze (Al zeroValue187 #[_,_]) ?_;rintro _ _ ⟨ob,rfl,rfl⟩;refine Xe (Xw sizeOf187 #[.slice qr (BD rs (t:Int) c).length cr,.slice qe (BD rs (t:Int) c).length ce]) ?_;refine Z0<|Zx<|Zq<|Zg<|Zv (Bt (vs:=[]) (us:=[_,_]) Y Y) ?_;refine Za Y<|Z0<|Zx<|Zq<|Zg<|Zm Y<|Zv (Bt (vs:=[]) (us:=[_]) Y Y) ?_;refine Xr [_] Y call116 Y rfl (rG hRU (by omega) c hc lo ob bc bl) ?_
 (refine BO (GM Y Y (IntWalk.i64_in _ ?_)) ?_;(focus (omega)))
 refine Zv (YB Y Y)<|Za Y<|Z0<|Zn [0,1,7,8,9,10,12,13,14] ?_;refine Zx<|Zq<|BK (n:=9) (0::0::3::7::0::16::48::127::255::[]) 4 (by kernel_rfl) (by kernel_rfl) rfl ?_;refine Zi 1 0 rfl (AL Y)<|Zi 3 1 rfl (Bt (vs:=[]) (us:=[_]) Y Y) ?_;refine Zi 19 4 rfl (AY (off:=0) underlying187 rfl rfl sizeOf45 Y)<|Zj 51 5 rfl isAgg45 Y ?_;refine Zi 115 6 rfl (AV underlying45 Y)<|Zz (l:=[2]) ?_;refine Zy 3 119 [5] [true] [(5,(_,_))] rfl Y rfl rfl rfl rfl (Zu [_] Y call116 Y rfl (rF hRU (by omega) c hc hi ob bc bh)) ?hk_1 (fun _ _ h=>h.elim) ?hl_1
 case hk_1=>
  rintro _ _ ⟨rfl,rfl⟩;refine ⟨Zk (Ad),?_⟩;refine Zi 127 3 rfl (DJ (n:=1) Y Y (by omega)) ?_;refine Zi 255 7 rfl (OW Y Y)<|Zi 511 8 rfl (Au Y)<|Ao ?_;refine Zx<|Zq<|BK (n:=13) (0::0::0::0::0::16::48::0::0::256::1023::0::4095::[]) 6656 (by kernel_rfl) (by kernel_rfl) rfl ?_;refine Zi 1 0 rfl (AL Y)<|Zj 3 1 rfl isAgg3 Y ?_;refine Zj 7 2 rfl isAgg3 Y ?_;refine Zj 15 3 rfl isAgg3 Y ?_;refine Zi 31 4 rfl (AY (off:=0) underlying187 rfl rfl sizeOf45 Y)<|Zj 63 5 rfl isAgg45 Y ?_;refine Zi 127 6 rfl (AV underlying45 Y)<|Zi 255 7 rfl (AL Y)<|Zi 511 8 rfl (AL Y)<|Zz (l:=[9,11]) ?_;refine Zy 256 1023 [5,3,2,1] [true,true,true,true] [(5,(_,_)),(3,(_,_)),(2,(_,_)),(1,(_,_))] rfl Y rfl rfl rfl rfl (Zw [_] Y call101 Y rfl (Sl _ p rs s hv hs hn hok Tg zg)) ?hk_2 Cj ?hl_2
  case hk_2=>
   rintro _ _ ⟨_,⟨so,hso,rfl⟩,rfl⟩;refine ⟨Zk (Zk (Zk (Zk (Ad)))),?_⟩;obtain ⟨qt,ct,rfl⟩:=hso.form;refine Zi 2047 10 rfl (BL (vs:=[(0,I4 (t:Int)),(1,I4 (c:Int)),(2,I4 lo),(3,I4 hi),(4,I4 (((BD rs (t:Int) c).length:Nat):Int)),(5,I4 (((Bl (BD rs (t:Int) c) c lo):Nat):Int)),(8,.slice qt 16 ct)]) (cs:=#[I4 (t:Int),I4 (c:Int),I4 lo,I4 hi,I4 (((BD rs (t:Int) c).length:Nat):Int),I4 (((Bl (BD rs (t:Int) c) c lo):Nat):Int),.slice none 0 0,.slice none 0 0,.slice qt 16 ct]) Y (Ab (pl:=#[(0,1),(1,1),(2,1),(3,1),(4,1),(5,1),(6,1),(7,1),(8,1)]) zeroValue49 underlying49 (fun _=>by kernel_rfl) (by kernel_rfl))) ?_;refine Yz 11 0 4095 [5,3,2,1] [true,true,true,true] [(5,(_,_)),(3,(_,_)),(2,(_,_)),(1,(_,_))] rfl Y rfl rfl rfl rfl (Al zeroValue49 #[_,_,_,_,_,_,_,_,_]) ?_;rintro _ _ ⟨pb,rfl,rfl⟩;refine ⟨Zk (Zk (Zk (Zk (Ad)))),?_⟩;refine Yw 12 8191 rfl (Xw sizeOf49 #[I4 (t:Int),I4 (c:Int),I4 lo,I4 hi,I4 (((BD rs (t:Int) c).length:Nat):Int),I4 (((Bl (BD rs (t:Int) c) c lo):Nat):Int),.slice none 0 0,.slice none 0 0,.slice qt 16 ct]) ?_;rintro _ _ ⟨rfl,rfl⟩;refine Ao ?_;refine Zn [10,12,14,15,16] ?_;refine Zx<|Zq<|Zq<|Zg<|Zm Y<|Za Y<|Z0<|Zx<|AR<|Bf ?_;refine Bf ?_;refine Bf ?_;refine Zb [17,10,12,15,16] ?_;refine BB (e0:=[(17,_)]) (fun m e H=>∃(k:Nat) (vr2:Value) (sr2:List AU) (vp:Value) (sp:List AU) (pvs:List Value) (mp:List AU),m=(toT (BD rs (t:Int) c) c hi) -(Bl (BD rs (t:Int) c) c lo) -k∧(k≤(toT (BD rs (t:Int) c) c hi) -(Bl (BD rs (t:Int) c) c lo)∧BZ 5 113 vr2 k (Ae (((BD rs (t:Int) c).drop (Bl (BD rs (t:Int) c) c lo)).take k)) sr2∧BZ 1 47 vp k pvs sp∧Lc mp pvs (J9 (BD rs (t:Int) c) (Bl (BD rs (t:Int) c) c lo) k))∧e=[(17,I4 (((Bl (BD rs (t:Int) c) c lo)+k:Nat):Int))]∧H=[[(pb,.cells #[I4 (t:Int),I4 (c:Int),I4 lo,I4 hi,I4 (((BD rs (t:Int) c).length:Nat):Int),I4 (((Bl (BD rs (t:Int) c) c lo):Nat):Int),vr2,vp,.slice qt 16 ct] 49 (0,0))],sr2,sp,mp]) (by exact ⟨0,.slice none 0 0,[],.slice none 0 0,[],[],[],rfl,⟨uK _,by rw [vI];exact Ba 5 _,Ba 1 _,TN _⟩,rfl,rfl⟩) Wp ?_
   rintro _ _ _ ⟨k,vr2,sr2,vp,sp,pvs,mp,rfl,⟨hk,hr2,hp2,hP⟩,rfl,rfl⟩;obtain ⟨q2,c2,rfl⟩:=hr2.form;obtain ⟨q3,c3,rfl⟩:=hp2.form;refine Zq<|Zq<|Zg<|Zm Y<|Zm Y<|Zv (Av Y Y)<|Z0<|Zx ?_;refine Aq Y (fun hlt=>?_) (fun hlt=>?_)
   ·
    obtain ⟨x,hx⟩:∃x,(BD rs (t:Int) c)[(Bl (BD rs (t:Int) c) c lo)+k]?=some x:=⟨_,tq (by omega)⟩;obtain ⟨g,off,cur,T,zz,rfl,hm9,hsz9,hex9⟩:=hg _ x hx;have hx2:((BD rs (t:Int) c).drop (Bl (BD rs (t:Int) c) c lo))[k]?=some x:=by rw [vK];exact hx
    refine AB<|Zx<|Zq<|AR<|Zq<|Zg<|Zh 1 underlying187 rfl rfl sizeOf47 Y<|Zl isAgg47 Y ?_;refine Zm Y<|Zc [_,_] Y call121 Y rfl (QX hSU (by rw [EW];omega) (fun s h=>by have:=Pp (fun r hr=>hok r (Ir hr)) s h;omega) ((Bl (BD rs (t:Int) c) c lo)+k) (by rw [EW];omega) Tg zg) ?_;rintro _ _ ⟨_,⟨vpath,spath,rfl,hpath,rfl⟩,rfl⟩;have hplen:(EA (K9 (BD rs (t:Int) c)) ((Bl (BD rs (t:Int) c) c lo)+k)).length≤maxLen:=aC hpath
    have hPU:=GH hpath hplen;have hP2:=PH (BD rs (t:Int) c) (Bl (BD rs (t:Int) c) c lo) k▸hP.snoc (hPU.mono (fun c h=>uZ mp h)) (fun c h=>uN spath h)
    obtain ⟨qx,cx,rfl⟩:=hpath.form;refine Zm Y<|Zd Y rfl<|Zd Y rfl<|Za Y<|Za Y<|Z0<|Zx<|Ki (s1:=spath) (s2:=mp) Wo Wo ?_;refine BK (n:=18) (0::1::0::4::0::28::60::124::255::0::512::0::2048::8191::2047::32767::65535::131071::[]) 176512 (by kernel_rfl) (by kernel_rfl) rfl ?_;refine Zi 1 0 rfl (AY (off:=6) underlying49 rfl rfl sizeOf45 Y)<|Zj 3 1 rfl isAgg45 Y ?_;refine Zi 7 2 rfl (AY (off:=0) underlying187 rfl rfl sizeOf45 Y)<|Zj 15 3 rfl isAgg45 Y ?_;refine Zi 31 4 rfl (AL Y) ?_;refine Zi 63 5 rfl (Ac underlying45 sizeOf113 Y Y (by first|omega|decide|(simp;done))) ?_;refine G6 (b:=g) (x:= .cells cur T zz) (D':=127) 6 rfl rfl rfl (by simp [hm9]) (AZ (cs:=#[I4 x.t,I4 x.k,I4 x.v.a,I4 x.v.b,I4 x.v.c]) isAgg113 sizeOf113 Y (by omega) hex9) ?_;refine Zi 639 9 rfl (AY (off:=7) underlying49 rfl rfl sizeOf46 Y)<|Zj 1663 10 rfl isAgg46 Y ?_;refine Zi 3711 11 rfl (AL Y)<|Zz (l:=[7,12]) ?_;refine Zy 124 3839 [10,6,3,1] [true,false,false,true] [(10,(_,_)),(1,(_,_))] rfl Y rfl rfl rfl rfl (Af (vs:=[_]) (cs:=[_,_,_,_,_]) underlying45 sizeOf113 zeroValue113 Y rfl rfl rfl rfl rfl) ?hk_6 (fun _ _ h=>h.elim) ?hl_6
    case hk_6=>
     rintro _ _ ⟨gb1,rfl,rfl⟩;refine ⟨Zk (Zk (Ad)),?_⟩;refine Zz (l:=[8,12]) ?_;refine Zy 255 4095 [10,1] [true,false] [(10,(_,_))] rfl Y rfl rfl rfl rfl (BR (by_:=40) (sz:=5) underlying45 (rfl:Tryz.prog.info? 113=some Tryz.t113) rfl rfl rfl rfl Y (hr2) Y (Da 5 gb1 1 1 113 (0,0) [I4 x.t,I4 x.k,I4 x.v.a,I4 x.v.b,I4 x.v.c] rfl) Wo Wo (by simp [Value.oneCell']) (by omega) (by omega)) ?hk_7 (fun _ _ h=>h.elim) ?hl_7
     case hk_7=>
      rintro _ _ ⟨sa9,hra9,rfl⟩;refine ⟨Zk (Ad),?_⟩;obtain ⟨ga9,ca9,rfl⟩:=hra9.form;refine Zi 20479 14 rfl (AY (off:=6) underlying49 rfl rfl sizeOf45 Y)<|Zz (l:=[12]) ?_;refine Zy 2048 24575 [10] [true] [(10,(_,_))] rfl Y rfl rfl rfl rfl (Af (vs:=[_]) (cs:=[_]) underlying46 sizeOf47 zeroValue47 Y rfl rfl rfl rfl rfl) ?hk_8 (fun _ _ h=>h.elim) ?hl_8
      case hk_8=>
       rintro _ _ ⟨gb2,rfl,rfl⟩;refine ⟨Zk (Ad),?_⟩;refine Yw 13 32767 rfl (DR (by_:=24) (sz:=1) (news:=[_]) underlying46 (rfl:Tryz.prog.info? 47=some Tryz.t47) rfl rfl rfl rfl Y hp2 Y Wo Wh (by rfl) rfl (by simp [Value.oneCell',Value.cells]) (by decide) (by omega) (by omega)) ?_;rintro _ _ ⟨sw7,hrw7,rfl⟩;obtain ⟨gw7,cw7,rfl⟩:=hrw7.form;refine Yw 15 65535 rfl (Zs sizeOf45 Y Y rfl (hc:=by exact (rfl:_=(#[I4 (t:Int),I4 (c:Int),I4 lo,I4 hi,I4 (((BD rs (t:Int) c).length:Nat):Int),I4 (((Bl (BD rs (t:Int) c) c lo):Nat):Int),_,_,.slice qt 16 ct]:Array Value))) (hi:=by first|omega|decide|(simp;done))) ?_;rintro _ _ ⟨rfl,rfl⟩;refine Zi 131071 16 rfl (AY (off:=7) underlying49 rfl rfl sizeOf46 Y)<|Zz (l:=[17]) ?_;refine Zy 131071 262143 [] [] [] rfl Y rfl rfl rfl rfl (Zs sizeOf46 Y Y rfl (hc:=by exact (rfl:_=(#[I4 (t:Int),I4 (c:Int),I4 lo,I4 hi,I4 (((BD rs (t:Int) c).length:Nat):Int),I4 (((Bl (BD rs (t:Int) c) c lo):Nat):Int),_,_,.slice qt 16 ct]:Array Value))) (hi:=by first|omega|decide|(simp;done))) ?hk_11 (fun _ _ h=>h.elim) ?hl_11
       case hk_11=>
        rintro _ _ ⟨rfl,rfl⟩;refine ⟨Ad,?_⟩;refine Ao ?_;refine Zn [10,12,15,16,17] ?_;refine A8<|Zx<|Zg<|Zm Y<|Ya (n:=1) Y Y<|Za Y<|Z0<|Zn [17,10,12,15,16] ?_;refine Aa (e':=[(17,_)]) (by exact ⟨k+1,_,_,_,_,pvs++[_],spath++mp,rfl,⟨by omega,BP hra9 rfl (by rw [Bu hx2,Bb];rfl),BP hrw7 rfl rfl,hP2⟩,rfl,rfl⟩)
       exact Ap
      exact Ap
     refine Zy 2048 7935 [10,1] [true,true] [(10,(_,_)),(1,(_,_))] rfl Y rfl rfl rfl rfl (Af (vs:=[_]) (cs:=[_]) underlying46 sizeOf47 zeroValue47 Y rfl rfl rfl rfl rfl) ?hk_13 (fun _ _ h=>h.elim) ?hl_13
     case hk_13=>
      rintro _ _ ⟨gb2,rfl,rfl⟩;refine ⟨Zk (Zk (Ad)),?_⟩;refine Yz 8 255 8191 [10,1] [true,false] [(10,(_,_))] rfl Y rfl rfl rfl rfl (BR (by_:=40) (sz:=5) underlying45 (rfl:Tryz.prog.info? 113=some Tryz.t113) rfl rfl rfl rfl Y (hr2) Y (Da 5 gb1 1 1 113 (0,0) [I4 x.t,I4 x.k,I4 x.v.a,I4 x.v.b,I4 x.v.c] rfl) Wo Wo (by simp [Value.oneCell']) (by omega) (by omega)) ?_;rintro _ _ ⟨sa9,hra9,rfl⟩;refine ⟨Zk (Ad),?_⟩;obtain ⟨ga9,ca9,rfl⟩:=hra9.form;refine Zi 24575 14 rfl (AY (off:=6) underlying49 rfl rfl sizeOf45 Y)<|Zz (l:=[13]) ?_;refine Zy 8191 32767 [10] [false] [] rfl Y rfl rfl rfl rfl (DR (by_:=24) (sz:=1) (news:=[_]) underlying46 (rfl:Tryz.prog.info? 47=some Tryz.t47) rfl rfl rfl rfl Y hp2 Y Wo Wh (by rfl) rfl (by simp [Value.oneCell',Value.cells]) (by decide) (by omega) (by omega)) ?hk_15 (fun _ _ h=>h.elim) ?hl_15
      case hk_15=>
       rintro _ _ ⟨sw7,hrw7,rfl⟩;refine ⟨Ad,?_⟩;obtain ⟨gw7,cw7,rfl⟩:=hrw7.form;refine Yw 15 65535 rfl (Zs sizeOf45 Y Y rfl (hc:=by exact (rfl:_=(#[I4 (t:Int),I4 (c:Int),I4 lo,I4 hi,I4 (((BD rs (t:Int) c).length:Nat):Int),I4 (((Bl (BD rs (t:Int) c) c lo):Nat):Int),_,_,.slice qt 16 ct]:Array Value))) (hi:=by first|omega|decide|(simp;done))) ?_;rintro _ _ ⟨rfl,rfl⟩;refine Zi 131071 16 rfl (AY (off:=7) underlying49 rfl rfl sizeOf46 Y)<|Zz (l:=[17]) ?_;refine Zy 131071 262143 [] [] [] rfl Y rfl rfl rfl rfl (Zs sizeOf46 Y Y rfl (hc:=by exact (rfl:_=(#[I4 (t:Int),I4 (c:Int),I4 lo,I4 hi,I4 (((BD rs (t:Int) c).length:Nat):Int),I4 (((Bl (BD rs (t:Int) c) c lo):Nat):Int),_,_,.slice qt 16 ct]:Array Value))) (hi:=by first|omega|decide|(simp;done))) ?hk_17 (fun _ _ h=>h.elim) ?hl_17
       case hk_17=>
        rintro _ _ ⟨rfl,rfl⟩;refine ⟨Ad,?_⟩;refine Ao ?_;refine Zn [10,12,15,16,17] ?_;refine A8<|Zx<|Zg<|Zm Y<|Ya (n:=1) Y Y<|Za Y<|Z0<|Zn [17,10,12,15,16] ?_;refine Aa (e':=[(17,_)]) (by exact ⟨k+1,_,_,_,_,pvs++[_],spath++mp,rfl,⟨by omega,BP hra9 rfl (by rw [Bu hx2,Bb];rfl),BP hrw7 rfl rfl,hP2⟩,rfl,rfl⟩)
       exact Ap
      exact Ap
     exact Ap
    refine Zy 2048 7807 [10,6,3,1] [true,true,true,true] [(10,(_,_)),(6,(_,_)),(3,(_,_)),(1,(_,_))] rfl Y rfl rfl rfl rfl (Af (vs:=[_]) (cs:=[_]) underlying46 sizeOf47 zeroValue47 Y rfl rfl rfl rfl rfl) ?hk_19 (fun _ _ h=>h.elim) ?hl_19
    case hk_19=>
     rintro _ _ ⟨gb2,rfl,rfl⟩;refine ⟨Zk (KS (by simp [*]) (Zk (Zk (Ad)))),?_⟩;refine Yz 7 124 7935 [10,6,3,1] [true,false,false,true] [(10,(_,_)),(1,(_,_))] rfl Y rfl rfl rfl rfl (Af (vs:=[_]) (cs:=[_,_,_,_,_]) underlying45 sizeOf113 zeroValue113 Y rfl rfl rfl rfl rfl) ?_;rintro _ _ ⟨gb1,rfl,rfl⟩;refine ⟨Zk (Zk (Ad)),?_⟩;refine Yz 8 255 8191 [10,1] [true,false] [(10,(_,_))] rfl Y rfl rfl rfl rfl (BR (by_:=40) (sz:=5) underlying45 (rfl:Tryz.prog.info? 113=some Tryz.t113) rfl rfl rfl rfl Y (hr2) Y (Da 5 gb1 1 1 113 (0,0) [I4 x.t,I4 x.k,I4 x.v.a,I4 x.v.b,I4 x.v.c] rfl) Wo Wo (by simp [Value.oneCell']) (by omega) (by omega)) ?_;rintro _ _ ⟨sa9,hra9,rfl⟩;refine ⟨Zk (Ad),?_⟩;obtain ⟨ga9,ca9,rfl⟩:=hra9.form;refine Zi 24575 14 rfl (AY (off:=6) underlying49 rfl rfl sizeOf45 Y)<|Zz (l:=[13]) ?_;refine Zy 8191 32767 [10] [false] [] rfl Y rfl rfl rfl rfl (DR (by_:=24) (sz:=1) (news:=[_]) underlying46 (rfl:Tryz.prog.info? 47=some Tryz.t47) rfl rfl rfl rfl Y hp2 Y Wo Wh (by rfl) rfl (by simp [Value.oneCell',Value.cells]) (by decide) (by omega) (by omega)) ?hk_22 (fun _ _ h=>h.elim) ?hl_22
     case hk_22=>
      rintro _ _ ⟨sw7,hrw7,rfl⟩;refine ⟨Ad,?_⟩;obtain ⟨gw7,cw7,rfl⟩:=hrw7.form;refine Yw 15 65535 rfl (Zs sizeOf45 Y Y rfl (hc:=by exact (rfl:_=(#[I4 (t:Int),I4 (c:Int),I4 lo,I4 hi,I4 (((BD rs (t:Int) c).length:Nat):Int),I4 (((Bl (BD rs (t:Int) c) c lo):Nat):Int),_,_,.slice qt 16 ct]:Array Value))) (hi:=by first|omega|decide|(simp;done))) ?_;rintro _ _ ⟨rfl,rfl⟩;refine Zi 131071 16 rfl (AY (off:=7) underlying49 rfl rfl sizeOf46 Y)<|Zz (l:=[17]) ?_;refine Zy 131071 262143 [] [] [] rfl Y rfl rfl rfl rfl (Zs sizeOf46 Y Y rfl (hc:=by exact (rfl:_=(#[I4 (t:Int),I4 (c:Int),I4 lo,I4 hi,I4 (((BD rs (t:Int) c).length:Nat):Int),I4 (((Bl (BD rs (t:Int) c) c lo):Nat):Int),_,_,.slice qt 16 ct]:Array Value))) (hi:=by first|omega|decide|(simp;done))) ?hk_24 (fun _ _ h=>h.elim) ?hl_24
      case hk_24=>
       rintro _ _ ⟨rfl,rfl⟩;refine ⟨Ad,?_⟩;refine Ao ?_;refine Zn [10,12,15,16,17] ?_;refine A8<|Zx<|Zg<|Zm Y<|Ya (n:=1) Y Y<|Za Y<|Z0<|Zn [17,10,12,15,16] ?_;refine Aa (e':=[(17,_)]) (by exact ⟨k+1,_,_,_,_,pvs++[_],spath++mp,rfl,⟨by omega,BP hra9 rfl (by rw [Bu hx2,Bb];rfl),BP hrw7 rfl rfl,hP2⟩,rfl,rfl⟩)
      exact Ap
     exact Ap
    exact Ap
   have ek:k=(toT (BD rs (t:Int) c) c hi) -(Bl (BD rs (t:Int) c) c lo):=by omega
   subst ek;refine Aw<|Zt<|Zt<|AP<|Zx<|Zq<|Zg<|Zo Wh (Pa #[I4 (t:Int),I4 (c:Int),I4 lo,I4 hi,I4 (((BD rs (t:Int) c).length:Nat):Int),I4 (((Bl (BD rs (t:Int) c) c lo):Nat):Int),.slice q2 _ c2,.slice q3 _ c3,.slice qt 16 ct] isAgg49 sizeOf49 Y) ?_;refine Xe (Xw sizeOf49 #[I4 (t:Int),I4 (c:Int),I4 lo,I4 hi,I4 (((BD rs (t:Int) c).length:Nat):Int),I4 (((Bl (BD rs (t:Int) c) c lo):Nat):Int),.slice q2 _ c2,.slice q3 _ c3,.slice qt 16 ct]) ?_;refine Za Y<|Z0<|Zx<|AA ?_;refine Be rfl results51 Y Wh (Ah isAgg49 sizeOf49 Wn (rfl)) Y (by exact ⟨_,_,_,sr2,sp,pvs,mp,so,rfl,BP hr2 (by rw [uD,uE];omega) rfl,hp2,hP,hso,rfl⟩)
  refine Zy 0 2559 [5,3,2,1] [true,true,true,true] [(5,(_,_)),(3,(_,_)),(2,(_,_)),(1,(_,_))] rfl Y rfl rfl rfl rfl (Al zeroValue49 #[_,_,_,_,_,_,_,_,_]) ?hk_27 (fun _ _ h=>h.elim) ?hl_27
  case hk_27=>
   rintro _ _ ⟨pb,rfl,rfl⟩;refine ⟨Zk (Zk (Zk (Zk (Ad)))),?_⟩;refine Zz (l:=[9]) ?_;refine Zy 256 3071 [5,3,2,1] [true,true,true,true] [(5,(_,_)),(3,(_,_)),(2,(_,_)),(1,(_,_))] rfl Y rfl rfl rfl rfl (Zw [_] Y call101 Y rfl (Sl _ p rs s hv hs hn hok Tg zg)) ?hk_28 Cj ?hl_28
   case hk_28=>
    rintro _ _ ⟨_,⟨so,hso,rfl⟩,rfl⟩;refine ⟨Zk (Zk (Zk (Zk (Ad)))),?_⟩;obtain ⟨qt,ct,rfl⟩:=hso.form;refine Zi 4095 10 rfl (BL (vs:=[(0,I4 (t:Int)),(1,I4 (c:Int)),(2,I4 lo),(3,I4 hi),(4,I4 (((BD rs (t:Int) c).length:Nat):Int)),(5,I4 (((Bl (BD rs (t:Int) c) c lo):Nat):Int)),(8,.slice qt 16 ct)]) (cs:=#[I4 (t:Int),I4 (c:Int),I4 lo,I4 hi,I4 (((BD rs (t:Int) c).length:Nat):Int),I4 (((Bl (BD rs (t:Int) c) c lo):Nat):Int),.slice none 0 0,.slice none 0 0,.slice qt 16 ct]) Y (Ab (pl:=#[(0,1),(1,1),(2,1),(3,1),(4,1),(5,1),(6,1),(7,1),(8,1)]) zeroValue49 underlying49 (fun _=>by kernel_rfl) (by kernel_rfl))) ?_;refine Yw 12 8191 rfl (Xw sizeOf49 #[I4 (t:Int),I4 (c:Int),I4 lo,I4 hi,I4 (((BD rs (t:Int) c).length:Nat):Int),I4 (((Bl (BD rs (t:Int) c) c lo):Nat):Int),.slice none 0 0,.slice none 0 0,.slice qt 16 ct]) ?_;rintro _ _ ⟨rfl,rfl⟩;refine Ao ?_;refine Zn [10,12,14,15,16] ?_;refine Zx<|Zq<|Zq<|Zg<|Zm Y<|Za Y<|Z0<|Zx<|AR<|Bf ?_;refine Bf ?_;refine Bf ?_;refine Zb [17,10,12,15,16] ?_;refine BB (e0:=[(17,_)]) (fun m e H=>∃(k:Nat) (vr2:Value) (sr2:List AU) (vp:Value) (sp:List AU) (pvs:List Value) (mp:List AU),m=(toT (BD rs (t:Int) c) c hi) -(Bl (BD rs (t:Int) c) c lo) -k∧(k≤(toT (BD rs (t:Int) c) c hi) -(Bl (BD rs (t:Int) c) c lo)∧BZ 5 113 vr2 k (Ae (((BD rs (t:Int) c).drop (Bl (BD rs (t:Int) c) c lo)).take k)) sr2∧BZ 1 47 vp k pvs sp∧Lc mp pvs (J9 (BD rs (t:Int) c) (Bl (BD rs (t:Int) c) c lo) k))∧e=[(17,I4 (((Bl (BD rs (t:Int) c) c lo)+k:Nat):Int))]∧H=[[(pb,.cells #[I4 (t:Int),I4 (c:Int),I4 lo,I4 hi,I4 (((BD rs (t:Int) c).length:Nat):Int),I4 (((Bl (BD rs (t:Int) c) c lo):Nat):Int),vr2,vp,.slice qt 16 ct] 49 (0,0))],sr2,sp,mp]) (by exact ⟨0,.slice none 0 0,[],.slice none 0 0,[],[],[],rfl,⟨uK _,by rw [vI];exact Ba 5 _,Ba 1 _,TN _⟩,rfl,rfl⟩) Wp ?_;rintro _ _ _ ⟨k,vr2,sr2,vp,sp,pvs,mp,rfl,⟨hk,hr2,hp2,hP⟩,rfl,rfl⟩;obtain ⟨q2,c2,rfl⟩:=hr2.form;obtain ⟨q3,c3,rfl⟩:=hp2.form;refine Zq<|Zq<|Zg<|Zm Y<|Zm Y<|Zv (Av Y Y)<|Z0<|Zx ?_;refine Aq Y (fun hlt=>?_) (fun hlt=>?_)
    ·
     obtain ⟨x,hx⟩:∃x,(BD rs (t:Int) c)[(Bl (BD rs (t:Int) c) c lo)+k]?=some x:=⟨_,tq (by omega)⟩;obtain ⟨g,off,cur,T,zz,rfl,hm9,hsz9,hex9⟩:=hg _ x hx;have hx2:((BD rs (t:Int) c).drop (Bl (BD rs (t:Int) c) c lo))[k]?=some x:=by rw [vK];exact hx
     refine AB<|Zx<|Zq<|AR<|Zq<|Zg<|Zh 1 underlying187 rfl rfl sizeOf47 Y<|Zl isAgg47 Y ?_;refine Zm Y<|Zc [_,_] Y call121 Y rfl (QX hSU (by rw [EW];omega) (fun s h=>by have:=Pp (fun r hr=>hok r (Ir hr)) s h;omega) ((Bl (BD rs (t:Int) c) c lo)+k) (by rw [EW];omega) Tg zg) ?_;rintro _ _ ⟨_,⟨vpath,spath,rfl,hpath,rfl⟩,rfl⟩;have hplen:(EA (K9 (BD rs (t:Int) c)) ((Bl (BD rs (t:Int) c) c lo)+k)).length≤maxLen:=aC hpath
     have hPU:=GH hpath hplen;have hP2:=PH (BD rs (t:Int) c) (Bl (BD rs (t:Int) c) c lo) k▸hP.snoc (hPU.mono (fun c h=>uZ mp h)) (fun c h=>uN spath h)
     obtain ⟨qx,cx,rfl⟩:=hpath.form;refine Zm Y<|Zd Y rfl<|Zd Y rfl<|Za Y<|Za Y<|Z0<|Zx<|Ki (s1:=spath) (s2:=mp) Wo Wo ?_;refine BK (n:=18) (0::1::0::4::0::28::60::124::255::0::512::0::2048::8191::2047::32767::65535::131071::[]) 176512 (by kernel_rfl) (by kernel_rfl) rfl ?_;refine Zi 1 0 rfl (AY (off:=6) underlying49 rfl rfl sizeOf45 Y)<|Zj 3 1 rfl isAgg45 Y ?_;refine Zi 7 2 rfl (AY (off:=0) underlying187 rfl rfl sizeOf45 Y)<|Zj 15 3 rfl isAgg45 Y ?_;refine Zi 31 4 rfl (AL Y) ?_;refine Zi 63 5 rfl (Ac underlying45 sizeOf113 Y Y (by first|omega|decide|(simp;done))) ?_;refine G6 (b:=g) (x:= .cells cur T zz) (D':=127) 6 rfl rfl rfl (by simp [hm9]) (AZ (cs:=#[I4 x.t,I4 x.k,I4 x.v.a,I4 x.v.b,I4 x.v.c]) isAgg113 sizeOf113 Y (by omega) hex9) ?_;refine Zi 639 9 rfl (AY (off:=7) underlying49 rfl rfl sizeOf46 Y)<|Zj 1663 10 rfl isAgg46 Y ?_;refine Zi 3711 11 rfl (AL Y)<|Zz (l:=[7,12]) ?_;refine Zy 124 3839 [10,6,3,1] [true,false,false,true] [(10,(_,_)),(1,(_,_))] rfl Y rfl rfl rfl rfl (Af (vs:=[_]) (cs:=[_,_,_,_,_]) underlying45 sizeOf113 zeroValue113 Y rfl rfl rfl rfl rfl) ?hk_31 (fun _ _ h=>h.elim) ?hl_31
     case hk_31=>
      rintro _ _ ⟨gb1,rfl,rfl⟩;refine ⟨Zk (Zk (Ad)),?_⟩;refine Zz (l:=[8,12]) ?_;refine Zy 255 4095 [10,1] [true,false] [(10,(_,_))] rfl Y rfl rfl rfl rfl (BR (by_:=40) (sz:=5) underlying45 (rfl:Tryz.prog.info? 113=some Tryz.t113) rfl rfl rfl rfl Y (hr2) Y (Da 5 gb1 1 1 113 (0,0) [I4 x.t,I4 x.k,I4 x.v.a,I4 x.v.b,I4 x.v.c] rfl) Wo Wo (by simp [Value.oneCell']) (by omega) (by omega)) ?hk_32 (fun _ _ h=>h.elim) ?hl_32
      case hk_32=>
       rintro _ _ ⟨sa9,hra9,rfl⟩;refine ⟨Zk (Ad),?_⟩;obtain ⟨ga9,ca9,rfl⟩:=hra9.form;refine Zi 20479 14 rfl (AY (off:=6) underlying49 rfl rfl sizeOf45 Y)<|Zz (l:=[12]) ?_;refine Zy 2048 24575 [10] [true] [(10,(_,_))] rfl Y rfl rfl rfl rfl (Af (vs:=[_]) (cs:=[_]) underlying46 sizeOf47 zeroValue47 Y rfl rfl rfl rfl rfl) ?hk_33 (fun _ _ h=>h.elim) ?hl_33
       case hk_33=>
        rintro _ _ ⟨gb2,rfl,rfl⟩;refine ⟨Zk (Ad),?_⟩;refine Yw 13 32767 rfl (DR (by_:=24) (sz:=1) (news:=[_]) underlying46 (rfl:Tryz.prog.info? 47=some Tryz.t47) rfl rfl rfl rfl Y hp2 Y Wo Wh (by rfl) rfl (by simp [Value.oneCell',Value.cells]) (by decide) (by omega) (by omega)) ?_;rintro _ _ ⟨sw7,hrw7,rfl⟩;obtain ⟨gw7,cw7,rfl⟩:=hrw7.form;refine Yw 15 65535 rfl (Zs sizeOf45 Y Y rfl (hc:=by exact (rfl:_=(#[I4 (t:Int),I4 (c:Int),I4 lo,I4 hi,I4 (((BD rs (t:Int) c).length:Nat):Int),I4 (((Bl (BD rs (t:Int) c) c lo):Nat):Int),_,_,.slice qt 16 ct]:Array Value))) (hi:=by first|omega|decide|(simp;done))) ?_;rintro _ _ ⟨rfl,rfl⟩;refine Zi 131071 16 rfl (AY (off:=7) underlying49 rfl rfl sizeOf46 Y)<|Zz (l:=[17]) ?_;refine Zy 131071 262143 [] [] [] rfl Y rfl rfl rfl rfl (Zs sizeOf46 Y Y rfl (hc:=by exact (rfl:_=(#[I4 (t:Int),I4 (c:Int),I4 lo,I4 hi,I4 (((BD rs (t:Int) c).length:Nat):Int),I4 (((Bl (BD rs (t:Int) c) c lo):Nat):Int),_,_,.slice qt 16 ct]:Array Value))) (hi:=by first|omega|decide|(simp;done))) ?hk_36 (fun _ _ h=>h.elim) ?hl_36
        case hk_36=>
         rintro _ _ ⟨rfl,rfl⟩;refine ⟨Ad,?_⟩;refine Ao ?_;refine Zn [10,12,15,16,17] ?_;refine A8<|Zx<|Zg<|Zm Y<|Ya (n:=1) Y Y<|Za Y<|Z0<|Zn [17,10,12,15,16] ?_;refine Aa (e':=[(17,_)]) (by exact ⟨k+1,_,_,_,_,pvs++[_],spath++mp,rfl,⟨by omega,BP hra9 rfl (by rw [Bu hx2,Bb];rfl),BP hrw7 rfl rfl,hP2⟩,rfl,rfl⟩)
        exact Ap
       exact Ap
      refine Zy 2048 7935 [10,1] [true,true] [(10,(_,_)),(1,(_,_))] rfl Y rfl rfl rfl rfl (Af (vs:=[_]) (cs:=[_]) underlying46 sizeOf47 zeroValue47 Y rfl rfl rfl rfl rfl) ?hk_38 (fun _ _ h=>h.elim) ?hl_38
      case hk_38=>
       rintro _ _ ⟨gb2,rfl,rfl⟩;refine ⟨Zk (Zk (Ad)),?_⟩;refine Yz 8 255 8191 [10,1] [true,false] [(10,(_,_))] rfl Y rfl rfl rfl rfl (BR (by_:=40) (sz:=5) underlying45 (rfl:Tryz.prog.info? 113=some Tryz.t113) rfl rfl rfl rfl Y (hr2) Y (Da 5 gb1 1 1 113 (0,0) [I4 x.t,I4 x.k,I4 x.v.a,I4 x.v.b,I4 x.v.c] rfl) Wo Wo (by simp [Value.oneCell']) (by omega) (by omega)) ?_;rintro _ _ ⟨sa9,hra9,rfl⟩;refine ⟨Zk (Ad),?_⟩;obtain ⟨ga9,ca9,rfl⟩:=hra9.form;refine Zi 24575 14 rfl (AY (off:=6) underlying49 rfl rfl sizeOf45 Y)<|Zz (l:=[13]) ?_;refine Zy 8191 32767 [10] [false] [] rfl Y rfl rfl rfl rfl (DR (by_:=24) (sz:=1) (news:=[_]) underlying46 (rfl:Tryz.prog.info? 47=some Tryz.t47) rfl rfl rfl rfl Y hp2 Y Wo Wh (by rfl) rfl (by simp [Value.oneCell',Value.cells]) (by decide) (by omega) (by omega)) ?hk_40 (fun _ _ h=>h.elim) ?hl_40
       case hk_40=>
        rintro _ _ ⟨sw7,hrw7,rfl⟩;refine ⟨Ad,?_⟩;obtain ⟨gw7,cw7,rfl⟩:=hrw7.form;refine Yw 15 65535 rfl (Zs sizeOf45 Y Y rfl (hc:=by exact (rfl:_=(#[I4 (t:Int),I4 (c:Int),I4 lo,I4 hi,I4 (((BD rs (t:Int) c).length:Nat):Int),I4 (((Bl (BD rs (t:Int) c) c lo):Nat):Int),_,_,.slice qt 16 ct]:Array Value))) (hi:=by first|omega|decide|(simp;done))) ?_;rintro _ _ ⟨rfl,rfl⟩;refine Zi 131071 16 rfl (AY (off:=7) underlying49 rfl rfl sizeOf46 Y)<|Zz (l:=[17]) ?_;refine Zy 131071 262143 [] [] [] rfl Y rfl rfl rfl rfl (Zs sizeOf46 Y Y rfl (hc:=by exact (rfl:_=(#[I4 (t:Int),I4 (c:Int),I4 lo,I4 hi,I4 (((BD rs (t:Int) c).length:Nat):Int),I4 (((Bl (BD rs (t:Int) c) c lo):Nat):Int),_,_,.slice qt 16 ct]:Array Value))) (hi:=by first|omega|decide|(simp;done))) ?hk_42 (fun _ _ h=>h.elim) ?hl_42
        case hk_42=>
         rintro _ _ ⟨rfl,rfl⟩;refine ⟨Ad,?_⟩;refine Ao ?_;refine Zn [10,12,15,16,17] ?_;refine A8<|Zx<|Zg<|Zm Y<|Ya (n:=1) Y Y<|Za Y<|Z0<|Zn [17,10,12,15,16] ?_;refine Aa (e':=[(17,_)]) (by exact ⟨k+1,_,_,_,_,pvs++[_],spath++mp,rfl,⟨by omega,BP hra9 rfl (by rw [Bu hx2,Bb];rfl),BP hrw7 rfl rfl,hP2⟩,rfl,rfl⟩)
        exact Ap
       exact Ap
      exact Ap
     refine Zy 2048 7807 [10,6,3,1] [true,true,true,true] [(10,(_,_)),(6,(_,_)),(3,(_,_)),(1,(_,_))] rfl Y rfl rfl rfl rfl (Af (vs:=[_]) (cs:=[_]) underlying46 sizeOf47 zeroValue47 Y rfl rfl rfl rfl rfl) ?hk_44 (fun _ _ h=>h.elim) ?hl_44
     case hk_44=>
      rintro _ _ ⟨gb2,rfl,rfl⟩;refine ⟨Zk (KS (by simp [*]) (Zk (Zk (Ad)))),?_⟩;refine Yz 7 124 7935 [10,6,3,1] [true,false,false,true] [(10,(_,_)),(1,(_,_))] rfl Y rfl rfl rfl rfl (Af (vs:=[_]) (cs:=[_,_,_,_,_]) underlying45 sizeOf113 zeroValue113 Y rfl rfl rfl rfl rfl) ?_;rintro _ _ ⟨gb1,rfl,rfl⟩;refine ⟨Zk (Zk (Ad)),?_⟩;refine Yz 8 255 8191 [10,1] [true,false] [(10,(_,_))] rfl Y rfl rfl rfl rfl (BR (by_:=40) (sz:=5) underlying45 (rfl:Tryz.prog.info? 113=some Tryz.t113) rfl rfl rfl rfl Y (hr2) Y (Da 5 gb1 1 1 113 (0,0) [I4 x.t,I4 x.k,I4 x.v.a,I4 x.v.b,I4 x.v.c] rfl) Wo Wo (by simp [Value.oneCell']) (by omega) (by omega)) ?_;rintro _ _ ⟨sa9,hra9,rfl⟩;refine ⟨Zk (Ad),?_⟩;obtain ⟨ga9,ca9,rfl⟩:=hra9.form;refine Zi 24575 14 rfl (AY (off:=6) underlying49 rfl rfl sizeOf45 Y)<|Zz (l:=[13]) ?_;refine Zy 8191 32767 [10] [false] [] rfl Y rfl rfl rfl rfl (DR (by_:=24) (sz:=1) (news:=[_]) underlying46 (rfl:Tryz.prog.info? 47=some Tryz.t47) rfl rfl rfl rfl Y hp2 Y Wo Wh (by rfl) rfl (by simp [Value.oneCell',Value.cells]) (by decide) (by omega) (by omega)) ?hk_47 (fun _ _ h=>h.elim) ?hl_47
      case hk_47=>
       rintro _ _ ⟨sw7,hrw7,rfl⟩;refine ⟨Ad,?_⟩;obtain ⟨gw7,cw7,rfl⟩:=hrw7.form;refine Yw 15 65535 rfl (Zs sizeOf45 Y Y rfl (hc:=by exact (rfl:_=(#[I4 (t:Int),I4 (c:Int),I4 lo,I4 hi,I4 (((BD rs (t:Int) c).length:Nat):Int),I4 (((Bl (BD rs (t:Int) c) c lo):Nat):Int),_,_,.slice qt 16 ct]:Array Value))) (hi:=by first|omega|decide|(simp;done))) ?_;rintro _ _ ⟨rfl,rfl⟩;refine Zi 131071 16 rfl (AY (off:=7) underlying49 rfl rfl sizeOf46 Y)<|Zz (l:=[17]) ?_;refine Zy 131071 262143 [] [] [] rfl Y rfl rfl rfl rfl (Zs sizeOf46 Y Y rfl (hc:=by exact (rfl:_=(#[I4 (t:Int),I4 (c:Int),I4 lo,I4 hi,I4 (((BD rs (t:Int) c).length:Nat):Int),I4 (((Bl (BD rs (t:Int) c) c lo):Nat):Int),_,_,.slice qt 16 ct]:Array Value))) (hi:=by first|omega|decide|(simp;done))) ?hk_49 (fun _ _ h=>h.elim) ?hl_49
       case hk_49=>
        rintro _ _ ⟨rfl,rfl⟩;refine ⟨Ad,?_⟩;refine Ao ?_;refine Zn [10,12,15,16,17] ?_;refine A8<|Zx<|Zg<|Zm Y<|Ya (n:=1) Y Y<|Za Y<|Z0<|Zn [17,10,12,15,16] ?_;refine Aa (e':=[(17,_)]) (by exact ⟨k+1,_,_,_,_,pvs++[_],spath++mp,rfl,⟨by omega,BP hra9 rfl (by rw [Bu hx2,Bb];rfl),BP hrw7 rfl rfl,hP2⟩,rfl,rfl⟩)
       exact Ap
      exact Ap
     exact Ap
    have ek:k=(toT (BD rs (t:Int) c) c hi) -(Bl (BD rs (t:Int) c) c lo):=by omega
    subst ek;refine Aw<|Zt<|Zt<|AP<|Zx<|Zq<|Zg<|Zo Wh (Pa #[I4 (t:Int),I4 (c:Int),I4 lo,I4 hi,I4 (((BD rs (t:Int) c).length:Nat):Int),I4 (((Bl (BD rs (t:Int) c) c lo):Nat):Int),.slice q2 _ c2,.slice q3 _ c3,.slice qt 16 ct] isAgg49 sizeOf49 Y) ?_;refine Xe (Xw sizeOf49 #[I4 (t:Int),I4 (c:Int),I4 lo,I4 hi,I4 (((BD rs (t:Int) c).length:Nat):Int),I4 (((Bl (BD rs (t:Int) c) c lo):Nat):Int),.slice q2 _ c2,.slice q3 _ c3,.slice qt 16 ct]) ?_;refine Za Y<|Z0<|Zx<|AA ?_;refine Be rfl results51 Y Wh (Ah isAgg49 sizeOf49 Wn (rfl)) Y (by exact ⟨_,_,_,sr2,sp,pvs,mp,so,rfl,BP hr2 (by rw [uD,uE];omega) rfl,hp2,hP,hso,rfl⟩)
   exact Ap
  exact Ap
 exact Ap
end Go.Proofs.YtkdgffcfmgmemaaGreatDoor
