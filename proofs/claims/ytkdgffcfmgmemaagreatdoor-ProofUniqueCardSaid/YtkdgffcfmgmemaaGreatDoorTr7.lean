/- statetree: Prove. -/
import Derived.Test.YtkdgffcfmgmemaaGreatDoorEz
import Derived.Test.YtkdgffcfmgmemaaGreatDoorTr6
set_option linter.unusedVariables false
set_option linter.unusedSimpArgs false
namespace Go.Proofs.YtkdgffcfmgmemaaGreatDoor
open Go.Proofs.Tryz
open Go Go.RowKit Gw
set_option maxRecDepth 100000
attribute [local irreducible] Gw.At Gw.Nx Gw.Ops
def CV(pd:AP→Bool)(l:List AP):Nat:=(l.takeWhile (fun x=>!pd x)).length
theorem GQ(pd:AP→Bool)(l:List AP):CV pd l≤l.length:=(List.takeWhile_sublist _).length_le
theorem Qy{pd:AP→Bool}:∀{l:List AP} {i:Nat} {x:AP},l[i]?=some x→pd x=true→(∀(j:Nat) (y:AP),j<i→l[j]?=some y→pd y=false)→CV pd l=i
 |[],i,x,hx,_,_=>by simp at hx
 |z::l,0,x,hx,hp,_=>by
  simp only [vv,wZ]at hx;subst hx;simp [CV,hp]
 |z::l,i+1,x,hx,hp,hno=>by
  simp only [wI]at hx;have h0:=hno 0 z (by omega) rfl
  have ih:=Qy (l:=l) hx hp (fun j y hj hy=>hno (j+1) y (by omega) hy);unfold CV at ih⊢;rw [wY,if_pos (by simp [h0]),tY,ih]
theorem MX{pd:AP→Bool}:∀{l:List AP},(∀(j:Nat) (y:AP),l[j]?=some y→pd y=false)→CV pd l=l.length
 |[],_=>rfl
 |z::l,hno=>by
  have h0:=hno 0 z rfl;have ih:=MX (l:=l) (fun j y hy=>hno (j+1) y hy)
  unfold CV at ih⊢;rw [wY,if_pos (by simp [h0]),tY,ih,tY]
def PL(n len:Nat):Int:=if n<len then(n:Int)else-1
def geV(c:Nat)(lo:Int)(r:AP):Bool:=decide (lo≤DR r c)
def gtV(c:Nat)(hi:Int)(r:AP):Bool:=decide (hi<DR r c)
theorem qY(v lo:Int)(bl:Nat):Av Tryz.prog 119 #[I4 v,I5 bl] [[(bl,.cells #[I4 lo] 3 (0,0))]] (.bool (decide (lo≤v))):=by
 refine Se func119 ntmps119 [0,1] ?_;intro u R;refine Zq<|Zg<|Za Y<|Z0<|Zx<|Zq<|Zg<|Zm Y<|Zl isAgg3 Y ?_;refine Zv (GZ Y Y)<|Za Y<|Z0<|Zx<|A9 ?_;refine AB rfl results119 Y (by exact ⟨rfl,rfl⟩)
theorem sJ(r:AP)(c:Nat)(hc:c≤3)(lo:Int)(bi bc bl:Nat):Av Tryz.prog 118 #[.agg #[I4 r.t,I4 r.k,I4 r.v.a,I4 r.v.b,I4 r.v.c],I5 bi,I5 bc] [[(bi,.cells #[.func (.func 119) #[] #[I5 bl]] 189 (0,0))],[(bc,.cells #[I4 (c:Int)] 3 (0,0))],[(bl,.cells #[I4 lo] 3 (0,0))]] (.bool (geV c lo r)):=by
 refine Se func118 ntmps118 [0,1,2] ?_;intro u R;refine Zq<|Zg<|Ze (Bx #[_,_,_,_,_]) ?_;rintro _ _ ⟨b1,rfl,rfl⟩;refine Za Y<|Z0<|Zx<|Zq<|BI (n:=6) (0::0::0::6::15::31::[]) 24 (by kernel_rfl) (by kernel_rfl) rfl ?_;refine Zj 1 0 rfl isAgg189 Y ?_;refine Cj (D':=3) 1 rfl rfl rfl Wh (Pa #[_,_,_,_,_] isAgg113 sizeOf113 Y) ?_;refine Zj 7 2 rfl isAgg3 Y ?_;refine Yz 3 6 15 [2,1,0] [false,false,true] [(0,(_,_))] rfl Y rfl rfl rfl rfl (Zu [_,_] Y call97 Y rfl (Pv r c hc)) ?_;rintro _ _ ⟨rfl,rfl⟩;refine ⟨Zk (Ad),?_⟩;refine Yw 4 31 rfl (Zu [_] Y call119 Y rfl (qY (DR r c) lo bl)) ?_;rintro _ _ ⟨rfl,rfl⟩;refine Zi 63 5 rfl (Ay Y)<|Am ?_;refine Zx<|A9 ?_;refine AB rfl results118 Y (by exact ⟨rfl,rfl⟩)
theorem sQ{M:List AR}{v:Value}{L:List AP}(hv:DV M v L)(hn:L.length≤1000000)(c:Nat)(hc:c≤3)(lo:Int)(bi bc bl:Nat):Av Tryz.prog 117 #[v,.func (.func 118) #[] #[I5 bi,I5 bc]] [[(bi,.cells #[.func (.func 119) #[] #[I5 bl]] 189 (0,0))],[(bc,.cells #[I4 (c:Int)] 3 (0,0))],[(bl,.cells #[I4 lo] 3 (0,0))],M] (I4 (PL (CV (geV c lo) L) L.length)):=by
 have hml:=mL;obtain ⟨p,cap,rfl,hl,hg⟩:=hv;refine Se func117 ntmps117 [0,1] ?_;intro u R;refine Zq<|Zg<|Za Y<|Z0<|Zx<|Zq<|Zq<|Zg<|Zm Y<|Zv (AV underlying45 Y)<|Zm Y<|Z0<|Zx<|AQ<|Zb [8,0,1,7] ?_;refine Az (e0:=[(8,_)]) (fun m e H=>∃(i:Nat),m=L.length -i∧(i≤L.length∧∀(j:Nat) (y:AP),j<i→L[j]?=some y→geV c lo y=false)∧e=[(8,I4 (i:Int))]∧H=[]) (by exact ⟨0,rfl,⟨tX _,by intro j y hj;omega⟩,rfl,rfl⟩) Wp ?_;rintro _ _ _ ⟨i,rfl,⟨hi,hno⟩,rfl,rfl⟩;refine Zq<|Zg<|Zv (Aq Y Y)<|Z0<|Zx<|Zq ?_;refine Ao Y (fun hlt=>?_) (fun hlt=>?_)
 ·
  obtain ⟨x,hx⟩:∃x,L[i]?=some x:=⟨_,tF hlt⟩;obtain ⟨g,off,cur,T,zz,rfl,hm9,hsz9,hex9⟩:=hg i x hx;refine AC<|Zx<|Zq<|AQ<|Zq<|Zg<|Zm Y<|Za Y<|Z0<|Zx<|Zq<|Zg<|Zm Y<|Zm Y<|Zm Y ?_;refine BM (AU underlying45 sizeOf113 Y Y (by omega)) ?_;refine Cf (cs:=[(g,.cells cur T zz)]) (by simp [hm9]) (AX (cs:=#[I4 x.t,I4 x.k,I4 x.v.a,I4 x.v.b,I4 x.v.c]) isAgg113 sizeOf113 Y (by omega) hex9) rfl rfl ?_;refine Xr [_] Y call118 Y rfl (sJ x c hc lo bi bc bl) ?_;refine Z0<|Zx ?_;refine Af Y (fun hp=>?_) (fun hp=>?_)
  ·
   refine Zq<|Zg<|Zm Y<|Za Y<|Z0<|Zx<|A9<|AY<|Zt<|Zt<|AY<|Zt ?_;refine AB rfl results117 Y (by exact ⟨by rw [Qy hx hp hno];unfold PL;rw [if_pos hlt],rfl⟩)
  refine AC<|A8<|Zx<|Zg<|Ya (n:=1) Y Y<|Zm Y<|Z0<|Zn [8,0,1,7] ?_;refine Ab (e':=[(8,_)]) (by exact ⟨i+1,rfl,⟨by omega,fun j y hj hy=>by rcases uJ j i with h9|h9;exact hno j y h9 hy;obtain rfl:j=i:=(by omega);rw [hx]at hy;injection hy with hy;rw [←hy];exact hp⟩,rfl,rfl⟩)
 have hfn:CV (geV c lo) L=L.length:=MX (fun j y hy=>hno j y (by have:=(tH.1 hy).1;omega) hy);refine Ar<|Zt<|Zt<|AO<|Zx<|Zq<|Zg<|Za Y<|Z0<|Zx<|A9 ?_;refine AB rfl results117 Y (by exact ⟨by rw [hfn];unfold PL;rw [if_neg (by omega)],rfl⟩)
theorem qc{M:List AR}{vr ve:Value}{L:List AP}(hv:DV M vr L)(hn:L.length≤1000000)(c:Nat)(hc:c≤3)(lo:Int)(bo bc bl:Nat):Av Tryz.prog 116 #[.func (.func 119) #[] #[I5 bl],I5 bo,I5 bc] [[(bo,.cells #[vr,ve] 187 (0,0))],[(bc,.cells #[I4 (c:Int)] 3 (0,0))],[(bl,.cells #[I4 lo] 3 (0,0))],M] (I4 ((CV (geV c lo) L:Nat):Int)):=by
 have hml:=mL;obtain ⟨p,cap,rfl,hl,hg⟩:=id hv;have hfl:=GQ (geV c lo) L
 refine Se func116 ntmps116 [0,1,2] ?_;intro u R;refine Zq<|Zg<|Ze (Bx #[_]) ?_;rintro _ _ ⟨bi,rfl,rfl⟩;refine Za Y<|Z0<|Zx<|Zq<|Zg<|Zh 0 underlying187 rfl rfl sizeOf45 Y<|Zl isAgg45 Y ?_;refine Zv (Bt (vs:=[]) (us:=[_,_]) Y Y) ?_;refine Xr [_,_] Y call117 Y rfl (sQ hv hn c hc lo bi bc bl) ?_;refine Za Y<|Z0<|Zx<|Zq<|Zq<|Zg<|Zm Y<|Zv (Eb Y Y)<|Z0<|Zx ?_;refine Ao Y (fun hneg=>?_) (fun hneg=>?_)
 ·
  have hge:CV (geV c lo) L=L.length:=by
   rcases uJ (CV (geV c lo) L) L.length with h9|h9
   · unfold PL at hneg;rw [if_pos h9]at hneg;omega
   · omega
  refine Zq<|Zg<|Zh 0 underlying187 rfl rfl sizeOf45 Y<|Zl isAgg45 Y ?_;refine Zv (AV underlying45 Y)<|Za Y<|Z0<|Zn [4] ?_;refine Zx<|A9<|Zt ?_;refine AB rfl results116 Y (by exact ⟨by rw [hge],rfl⟩)
 have hlt:CV (geV c lo) L<L.length:=by
  rcases uJ (CV (geV c lo) L) L.length with h9|h9
  · exact h9
  · unfold PL at hneg;rw [if_neg (by omega)]at hneg;omega
 refine AC<|Zx<|Zq<|Zg<|Zm Y<|Za Y<|Z0<|Zx<|A9 ?_;refine AB rfl results116 Y (by exact ⟨by unfold PL;rw [if_pos hlt],rfl⟩)
theorem qX(v lo:Int)(bl:Nat):Av Tryz.prog 120 #[I4 v,I5 bl] [[(bl,.cells #[I4 lo] 3 (0,0))]] (.bool (decide (lo<v))):=by
 refine Se func120 ntmps120 [0,1] ?_;intro u R;refine Zq<|Zg<|Za Y<|Z0<|Zx<|Zq<|Zg<|Zm Y<|Zl isAgg3 Y ?_;refine Zv (Es Y Y)<|Za Y<|Z0<|Zx<|A9 ?_;refine AB rfl results120 Y (by exact ⟨rfl,rfl⟩)
theorem sI(r:AP)(c:Nat)(hc:c≤3)(lo:Int)(bi bc bl:Nat):Av Tryz.prog 118 #[.agg #[I4 r.t,I4 r.k,I4 r.v.a,I4 r.v.b,I4 r.v.c],I5 bi,I5 bc] [[(bi,.cells #[.func (.func 120) #[] #[I5 bl]] 189 (0,0))],[(bc,.cells #[I4 (c:Int)] 3 (0,0))],[(bl,.cells #[I4 lo] 3 (0,0))]] (.bool (gtV c lo r)):=by
 refine Se func118 ntmps118 [0,1,2] ?_;intro u R;refine Zq<|Zg<|Ze (Bx #[_,_,_,_,_]) ?_;rintro _ _ ⟨b1,rfl,rfl⟩;refine Za Y<|Z0<|Zx<|Zq<|BI (n:=6) (0::0::0::6::15::31::[]) 24 (by kernel_rfl) (by kernel_rfl) rfl ?_;refine Zj 1 0 rfl isAgg189 Y ?_;refine Cj (D':=3) 1 rfl rfl rfl Wh (Pa #[_,_,_,_,_] isAgg113 sizeOf113 Y) ?_;refine Zj 7 2 rfl isAgg3 Y ?_;refine Yz 3 6 15 [2,1,0] [false,false,true] [(0,(_,_))] rfl Y rfl rfl rfl rfl (Zu [_,_] Y call97 Y rfl (Pv r c hc)) ?_;rintro _ _ ⟨rfl,rfl⟩;refine ⟨Zk (Ad),?_⟩;refine Yw 4 31 rfl (Zu [_] Y call120 Y rfl (qX (DR r c) lo bl)) ?_;rintro _ _ ⟨rfl,rfl⟩;refine Zi 63 5 rfl (Ay Y)<|Am ?_;refine Zx<|A9 ?_;refine AB rfl results118 Y (by exact ⟨rfl,rfl⟩)
theorem sP{M:List AR}{v:Value}{L:List AP}(hv:DV M v L)(hn:L.length≤1000000)(c:Nat)(hc:c≤3)(lo:Int)(bi bc bl:Nat):Av Tryz.prog 117 #[v,.func (.func 118) #[] #[I5 bi,I5 bc]] [[(bi,.cells #[.func (.func 120) #[] #[I5 bl]] 189 (0,0))],[(bc,.cells #[I4 (c:Int)] 3 (0,0))],[(bl,.cells #[I4 lo] 3 (0,0))],M] (I4 (PL (CV (gtV c lo) L) L.length)):=by
 have hml:=mL;obtain ⟨p,cap,rfl,hl,hg⟩:=hv;refine Se func117 ntmps117 [0,1] ?_;intro u R;refine Zq<|Zg<|Za Y<|Z0<|Zx<|Zq<|Zq<|Zg<|Zm Y<|Zv (AV underlying45 Y)<|Zm Y<|Z0<|Zx<|AQ<|Zb [8,0,1,7] ?_;refine Az (e0:=[(8,_)]) (fun m e H=>∃(i:Nat),m=L.length -i∧(i≤L.length∧∀(j:Nat) (y:AP),j<i→L[j]?=some y→gtV c lo y=false)∧e=[(8,I4 (i:Int))]∧H=[]) (by exact ⟨0,rfl,⟨tX _,by intro j y hj;omega⟩,rfl,rfl⟩) Wp ?_;rintro _ _ _ ⟨i,rfl,⟨hi,hno⟩,rfl,rfl⟩;refine Zq<|Zg<|Zv (Aq Y Y)<|Z0<|Zx<|Zq ?_;refine Ao Y (fun hlt=>?_) (fun hlt=>?_)
 ·
  obtain ⟨x,hx⟩:∃x,L[i]?=some x:=⟨_,tF hlt⟩;obtain ⟨g,off,cur,T,zz,rfl,hm9,hsz9,hex9⟩:=hg i x hx;refine AC<|Zx<|Zq<|AQ<|Zq<|Zg<|Zm Y<|Za Y<|Z0<|Zx<|Zq<|Zg<|Zm Y<|Zm Y<|Zm Y ?_;refine BM (AU underlying45 sizeOf113 Y Y (by omega)) ?_;refine Cf (cs:=[(g,.cells cur T zz)]) (by simp [hm9]) (AX (cs:=#[I4 x.t,I4 x.k,I4 x.v.a,I4 x.v.b,I4 x.v.c]) isAgg113 sizeOf113 Y (by omega) hex9) rfl rfl ?_;refine Xr [_] Y call118 Y rfl (sI x c hc lo bi bc bl) ?_;refine Z0<|Zx ?_;refine Af Y (fun hp=>?_) (fun hp=>?_)
  ·
   refine Zq<|Zg<|Zm Y<|Za Y<|Z0<|Zx<|A9<|AY<|Zt<|Zt<|AY<|Zt ?_;refine AB rfl results117 Y (by exact ⟨by rw [Qy hx hp hno];unfold PL;rw [if_pos hlt],rfl⟩)
  refine AC<|A8<|Zx<|Zg<|Ya (n:=1) Y Y<|Zm Y<|Z0<|Zn [8,0,1,7] ?_;refine Ab (e':=[(8,_)]) (by exact ⟨i+1,rfl,⟨by omega,fun j y hj hy=>by rcases uJ j i with h9|h9;exact hno j y h9 hy;obtain rfl:j=i:=(by omega);rw [hx]at hy;injection hy with hy;rw [←hy];exact hp⟩,rfl,rfl⟩)
 have hfn:CV (gtV c lo) L=L.length:=MX (fun j y hy=>hno j y (by have:=(tH.1 hy).1;omega) hy);refine Ar<|Zt<|Zt<|AO<|Zx<|Zq<|Zg<|Za Y<|Z0<|Zx<|A9 ?_;refine AB rfl results117 Y (by exact ⟨by rw [hfn];unfold PL;rw [if_neg (by omega)],rfl⟩)
theorem qZ{M:List AR}{vr ve:Value}{L:List AP}(hv:DV M vr L)(hn:L.length≤1000000)(c:Nat)(hc:c≤3)(lo:Int)(bo bc bl:Nat):Av Tryz.prog 116 #[.func (.func 120) #[] #[I5 bl],I5 bo,I5 bc] [[(bo,.cells #[vr,ve] 187 (0,0))],[(bc,.cells #[I4 (c:Int)] 3 (0,0))],[(bl,.cells #[I4 lo] 3 (0,0))],M] (I4 ((CV (gtV c lo) L:Nat):Int)):=by
 have hml:=mL;obtain ⟨p,cap,rfl,hl,hg⟩:=id hv;have hfl:=GQ (gtV c lo) L
 refine Se func116 ntmps116 [0,1,2] ?_;intro u R;refine Zq<|Zg<|Ze (Bx #[_]) ?_;rintro _ _ ⟨bi,rfl,rfl⟩;refine Za Y<|Z0<|Zx<|Zq<|Zg<|Zh 0 underlying187 rfl rfl sizeOf45 Y<|Zl isAgg45 Y ?_;refine Zv (Bt (vs:=[]) (us:=[_,_]) Y Y) ?_;refine Xr [_,_] Y call117 Y rfl (sP hv hn c hc lo bi bc bl) ?_;refine Za Y<|Z0<|Zx<|Zq<|Zq<|Zg<|Zm Y<|Zv (Eb Y Y)<|Z0<|Zx ?_;refine Ao Y (fun hneg=>?_) (fun hneg=>?_)
 ·
  have hge:CV (gtV c lo) L=L.length:=by
   rcases uJ (CV (gtV c lo) L) L.length with h9|h9
   · unfold PL at hneg;rw [if_pos h9]at hneg;omega
   · omega
  refine Zq<|Zg<|Zh 0 underlying187 rfl rfl sizeOf45 Y<|Zl isAgg45 Y ?_;refine Zv (AV underlying45 Y)<|Za Y<|Z0<|Zn [4] ?_;refine Zx<|A9<|Zt ?_;refine AB rfl results116 Y (by exact ⟨by rw [hge],rfl⟩)
 have hlt:CV (gtV c lo) L<L.length:=by
  rcases uJ (CV (gtV c lo) L) L.length with h9|h9
  · exact h9
  · unfold PL at hneg;rw [if_neg (by omega)]at hneg;omega
 refine AC<|Zx<|Zq<|Zg<|Zm Y<|Za Y<|Z0<|Zx<|A9 ?_;refine AB rfl results116 Y (by exact ⟨by unfold PL;rw [if_pos hlt],rfl⟩)
theorem Ov(t c:Int):Av Tryz.prog 114 #[I4 t,I4 c] [] (.bool (decide ((0≤t∧t<4)∧0≤c∧c<4))):=by
 refine Se func114 ntmps114 [0,1] ?_;intro u R;refine Zq<|Zg<|Za Y<|Z0<|Zx<|Zq<|Zg<|Zm Y<|Zv (GZ Y Y)<|Zm Y ?_;refine Aj (t:=7) Y rfl (fun h1=>?_) (fun h1=>?_)
 ·
  refine Zf Y Y<|Yg (Eb Y Y)<|Zv (AL Y Y)<|Zm Y ?_;refine Aj (t:=11) Y rfl (fun h2=>?_) (fun h2=>?_)
  ·
   refine Zf Y Y<|Yg (GZ Y Y)<|Zv (AL Y Y)<|Zm Y ?_;refine Aj (t:=15) Y rfl (fun h3=>?_) (fun h3=>?_)
   ·
    refine Zf Y Y<|Yg (Eb Y Y)<|Zv (AL Y Y)<|Za Y<|Z0<|Zn [4] ?_;refine Zx<|A9 ?_;refine AB rfl results114 Y (by exact ⟨by exact congrArg Value.bool (decide_eq_decide.2 (by omega)),rfl⟩)
   refine A7 Y rfl<|A7 Y rfl<|Zv (AA Y Y)<|Za Y<|Z0<|Zn [4] ?_;refine Zx<|A9 ?_;refine AB rfl results114 Y (by exact ⟨by exact congrArg Value.bool (decide_eq_false (by omega)).symm,rfl⟩)
  refine A7 Y rfl<|A7 Y rfl<|Zv (AA Y Y)<|Zm Y<|A7 Y rfl<|A7 Y rfl<|Zv (AA Y Y)<|Za Y<|Z0<|Zn [4] ?_;refine Zx<|A9 ?_;refine AB rfl results114 Y (by exact ⟨by exact congrArg Value.bool (decide_eq_false (by omega)).symm,rfl⟩)
 refine A7 Y rfl<|A7 Y rfl<|Zv (AA Y Y)<|Zm Y<|A7 Y rfl<|A7 Y rfl<|Zv (AA Y Y)<|Zm Y<|A7 Y rfl<|A7 Y rfl<|Zv (AA Y Y)<|Za Y<|Z0<|Zn [4] ?_;refine Zx<|A9 ?_;refine AB rfl results114 Y (by exact ⟨by exact congrArg Value.bool (decide_eq_false (by omega)).symm,rfl⟩)
structure RP where
 tb:Int
 cl:Int
 lo:Int
 hi:Int
 ct:Int
 fi:Int
 rows:List AP
 paths:List (List Bs)
 roots:List Bs
deriving DecidableEq
def Bi(L:List AP)(c:Nat)(lo:Int):Nat:=CV (geV c lo) L -1
def toT(L:List AP)(c:Nat)(hi:Int):Nat:=min (CV (gtV c hi) L+1) L.length
def Ir(L:List AP)(f k:Nat):List (List Bs):=(List.range k).map fun j=>Dy (Js L) (f+j)
def EM(rs:List AP)(t c:Nat)(lo hi:Int):RP:=
 ⟨t,c,lo,hi,(BC rs (t:Int) c).length,(Bi (BC rs (t:Int) c) c lo:Nat),((BC rs (t:Int) c).drop (Bi (BC rs (t:Int) c) c lo)).take (toT (BC rs (t:Int) c) c hi -Bi (BC rs (t:Int) c) c lo),
   Ir (BC rs (t:Int) c) (Bi (BC rs (t:Int) c) c lo) (toT (BC rs (t:Int) c) c hi -Bi (BC rs (t:Int) c) c lo),Mq rs⟩
def LH(M:List AR)(pvs:List Value)(ps:List (List Bs)):Prop:=pvs.length=ps.length∧∀(i:Nat) (v:Value) (l:List Bs),pvs[i]?=some v→ps[i]?=some l→Dn M v l
theorem Sy(M:List AR):LH M [] []:=⟨rfl,by intro i v l h;simp at h⟩
theorem LH.snoc{M M':List AR}{pvs:List Value}{ps:List (List Bs)}(h:LH M pvs ps){v:Value}{l:List Bs}(hv:Dn M' v l)(hm:∀c∈M,c∈M'):LH M' (pvs++[v]) (ps++[l]):=by
 obtain ⟨h1,h2⟩:=h;refine ⟨by rw [tK,tK,h1];rfl,?_⟩;intro i w k hi hk;rcases uJ i pvs.length with h9|h9
 · rw [xE h9]at hi
   rw [xE (by omega)]at hk;exact (h2 i w k hi hk).mono hm
 · rw [vQ h9]at hi
   rw [vQ (by omega)]at hk;rw [h1]at hi;cases h:i -ps.length with
   |zero=>rw [h]at hi hk;simp at hi hk;rw [←hi,←hk];exact hv
   |succ n=>rw [h]at hi;simp at hi
theorem Oo(L:List AP)(f k:Nat):Ir L f (k+1)=Ir L f k++[Dy (Js L) (f+k)]:=by unfold Ir;rw [yU,uK];rfl
theorem QK(L:List AP)(f k:Nat):(Ir L f k).length=k:=by unfold Ir;rw [tJ,yE]
theorem ZM{e:TypeId}{v:Value}{n:Nat}{xs:List Value}{s:List AR}(h:BX 1 e v n xs s):n≤maxLen:=by
 obtain ⟨_,⟨_,h0,_⟩|⟨_,_,_,_,_,_,h1,h2,_⟩⟩:=h
 · omega
 · omega
theorem Im(rs:List AP):(Mq rs).length=16:=by unfold Mq;rw [tJ];rfl
set_option maxHeartbeats 4000000 in
theorem Xj(v:Value)(p:Int)(rs:List AP)(s:List AR)(hv:PO v p rs s)(hs:BJ rs)(hn:rs.length≤2000)(hok:∀r∈rs,r.ok)(t c:Nat)(ht:t≤3)(hc:c≤3)(lo hi:Int)(hlh:lo≤hi)(Tg:TypeId)(zg:Nat×Nat):
 CO Tryz.prog 51 #[v,I4 (t:Int),I4 (c:Int),I4 lo,I4 hi] [[(1,.cells (Cs.map Bj).toArray Tg zg)],s] (fun r H'=>∃vr vp vt sr2 sp pvs mp so,r= .tuple #[.agg #[I4 (t:Int),I4 (c:Int),I4 lo,I4 hi,I4 (((BC rs (t:Int) c).length:Nat):Int),I4 (((Bi (BC rs (t:Int) c) c lo):Nat):Int),vr,vp,vt],I4 0]∧BX 5 113 vr (((BC rs (t:Int) c).drop (Bi (BC rs (t:Int) c) c lo)).take ((toT (BC rs (t:Int) c) c hi) -(Bi (BC rs (t:Int) c) c lo))).length (Ac (((BC rs (t:Int) c).drop (Bi (BC rs (t:Int) c) c lo)).take ((toT (BC rs (t:Int) c) c hi) -(Bi (BC rs (t:Int) c) c lo)))) sr2∧BX 1 47 vp ((toT (BC rs (t:Int) c) c hi) -(Bi (BC rs (t:Int) c) c lo)) pvs sp∧LH mp pvs (Ir (BC rs (t:Int) c) (Bi (BC rs (t:Int) c) c lo) ((toT (BC rs (t:Int) c) c hi) -(Bi (BC rs (t:Int) c) c lo)))∧BX 1 9 vt 16 ((Mq rs).map Dx) so∧H'=[sr2,sp,mp,so,[(1,.cells (Cs.map Bj).toArray Tg zg)],s]):=by
 have hml:=mL;obtain ⟨sp9,mb9,es9,ck9,lm9,rfl,hst9⟩:=id hv;have hll:=Ho hs (t:Int) c
 have hf1:=GQ (geV c lo) (BC rs (t:Int) c);have hf2:=GQ (gtV c hi) (BC rs (t:Int) c)
 have hfr:(Bi (BC rs (t:Int) c) c lo)=CV (geV c lo) (BC rs (t:Int) c) -1:=rfl;have hto:(toT (BC rs (t:Int) c) c hi)=min (CV (gtV c hi) (BC rs (t:Int) c)+1) (BC rs (t:Int) c).length:=rfl
 refine Se func51 ntmps51 [0,1,2,3,4] ?_;intro u R;refine Zq<|Zg<|Ze (Bx #[_]) ?_;rintro _ _ ⟨bc,rfl,rfl⟩;refine Ze (Bx #[_]) ?_;rintro _ _ ⟨bl,rfl,rfl⟩;refine Ze (Bx #[_]) ?_;rintro _ _ ⟨bh,rfl,rfl⟩;refine Ze (Al zeroValue49 #[_,_,_,_,_,_,_,_,_]) ?_;rintro _ _ ⟨qb,rfl,rfl⟩;refine Za Y<|Z0<|Zx<|Zq<|AQ<|Zq<|Zg<|Zm Y<|Zv (F7 underlying33 Y Y)<|Za Y<|Z0<|Zx ?_;refine Af Y (fun h1=>?_) (fun h1=>?_)
 ·
  cases h1
 refine Zq<|Zg<|Zm Y<|Zl isAgg3 Y ?_;refine Xr [_,_] Y call114 Y rfl (Ov (t:Int) (c:Int)) ?_;rw [decide_eq_true (show((0≤(t:Int)∧(t:Int)<4)∧0≤(c:Int)∧(c:Int)<4) by omega)];refine Zv (Ca Y)<|Zm Y ?_;refine Ai (t:=29) Y rfl (fun h2=>?_) (fun h2=>?_)
 ·
  cases h2
 refine Yl isAgg3 Y ?_;refine Yl isAgg3 Y ?_;refine Yg (Es Y Y)<|Zv (AA Y Y)<|Za Y<|Z0<|Zn [0,1,7,8,9,10,24] ?_;refine Zx ?_;refine Ao Y (fun h3=>?_) (fun h3=>?_)
 ·
  exfalso;omega
 refine AC<|A8<|Zx<|Zq<|Zg<|Zm Y<|Zm Y<|Zl isAgg3 Y ?_;refine Zc [_,_,_] Y call115 Y rfl (QY _ p rs s hv hs hn hok (t:Int) c hc) ?_;rintro _ _ ⟨_,⟨vr,ve,sr,se,rfl,hO,rfl⟩,rfl⟩;obtain ⟨qr,cr,rfl⟩:=hO.1.form;obtain ⟨qe,ce,rfl⟩:=hO.2.form;have hRU:=Dv hO.1 (by omega)
 have hSU:Dn se (.slice qe (BC rs (t:Int) c).length ce) (Js (BC rs (t:Int) c)):=Fy (BO hO.2 (EQ _).symm rfl) (by rw [EQ];omega);obtain ⟨p9,cap9,e9,hol,hg⟩:=id hRU;injection e9 with e91 e92 e93
 subst e91 e93;refine Ze (Al zeroValue187 #[_,_]) ?_;rintro _ _ ⟨ob,rfl,rfl⟩;refine Xe (Xw sizeOf187 #[.slice qr (BC rs (t:Int) c).length cr,.slice qe (BC rs (t:Int) c).length ce]) ?_;refine Z0<|Zx<|Zq<|Zg<|Zv (Bt (vs:=[]) (us:=[_,_]) Y Y) ?_;refine Za Y<|Z0<|Zx<|Zq<|Zg<|Zm Y<|Zv (Bt (vs:=[]) (us:=[_]) Y Y) ?_;refine Xr [_] Y call116 Y rfl (qc hRU (by omega) c hc lo ob bc bl) ?_
 (refine BM (G8 Y Y (IntWalk.i64_in _ ?_)) ?_;(focus (omega)))
 refine Zv (Xx Y Y)<|Za Y<|Z0<|Zn [0,1,7,8,9,10,12,13,14] ?_;refine Zx<|Zq<|BI (n:=9) (0::0::3::7::0::16::48::127::255::[]) 4 (by kernel_rfl) (by kernel_rfl) rfl ?_;refine Zi 1 0 rfl (AJ Y)<|Zi 3 1 rfl (Bt (vs:=[]) (us:=[_]) Y Y) ?_;refine Zi 19 4 rfl (AZ (off:=0) underlying187 rfl rfl sizeOf45 Y)<|Zj 51 5 rfl isAgg45 Y ?_;refine Zi 115 6 rfl (AV underlying45 Y)<|Zz (l:=[2]) ?_;refine Zy 3 119 [5] [true] [(5,(_,_))] rfl Y rfl rfl rfl rfl (Zu [_] Y call116 Y rfl (qZ hRU (by omega) c hc hi ob bc bh)) ?hk_1 (fun _ _ h=>h.elim) ?hl_1
 case hk_1=>
  rintro _ _ ⟨rfl,rfl⟩;refine ⟨Zk (Ad),?_⟩;refine Zi 127 3 rfl (D6 (n:=1) Y Y (by omega)) ?_;refine Zi 255 7 rfl (Lb Y Y)<|Zi 511 8 rfl (Ay Y)<|Am ?_;refine Zx<|Zq<|BI (n:=13) (0::0::0::0::0::16::48::0::0::256::1023::0::4095::[]) 6656 (by kernel_rfl) (by kernel_rfl) rfl ?_;refine Zi 1 0 rfl (AJ Y)<|Zj 3 1 rfl isAgg3 Y ?_;refine Zj 7 2 rfl isAgg3 Y ?_;refine Zj 15 3 rfl isAgg3 Y ?_;refine Zi 31 4 rfl (AZ (off:=0) underlying187 rfl rfl sizeOf45 Y)<|Zj 63 5 rfl isAgg45 Y ?_;refine Zi 127 6 rfl (AV underlying45 Y)<|Zi 255 7 rfl (AJ Y)<|Zi 511 8 rfl (AJ Y)<|Zz (l:=[9,11]) ?_;refine Zy 256 1023 [5,3,2,1] [true,true,true,true] [(5,(_,_)),(3,(_,_)),(2,(_,_)),(1,(_,_))] rfl Y rfl rfl rfl rfl (Zw [_] Y call101 Y rfl (SI _ p rs s hv hs hn hok Tg zg)) ?hk_2 D9 ?hl_2
  case hk_2=>
   rintro _ _ ⟨_,⟨so,hso,rfl⟩,rfl⟩;refine ⟨Zk (Zk (Zk (Zk (Ad)))),?_⟩;obtain ⟨qt,ct,rfl⟩:=hso.form;refine Zi 2047 10 rfl (BK (vs:=[(0,I4 (t:Int)),(1,I4 (c:Int)),(2,I4 lo),(3,I4 hi),(4,I4 (((BC rs (t:Int) c).length:Nat):Int)),(5,I4 (((Bi (BC rs (t:Int) c) c lo):Nat):Int)),(8,.slice qt 16 ct)]) (cs:=#[I4 (t:Int),I4 (c:Int),I4 lo,I4 hi,I4 (((BC rs (t:Int) c).length:Nat):Int),I4 (((Bi (BC rs (t:Int) c) c lo):Nat):Int),.slice none 0 0,.slice none 0 0,.slice qt 16 ct]) Y (Aa (pl:=#[(0,1),(1,1),(2,1),(3,1),(4,1),(5,1),(6,1),(7,1),(8,1)]) zeroValue49 underlying49 (fun _=>by kernel_rfl) (by kernel_rfl))) ?_;refine Yz 11 0 4095 [5,3,2,1] [true,true,true,true] [(5,(_,_)),(3,(_,_)),(2,(_,_)),(1,(_,_))] rfl Y rfl rfl rfl rfl (Al zeroValue49 #[_,_,_,_,_,_,_,_,_]) ?_;rintro _ _ ⟨pb,rfl,rfl⟩;refine ⟨Zk (Zk (Zk (Zk (Ad)))),?_⟩;refine Yw 12 8191 rfl (Xw sizeOf49 #[I4 (t:Int),I4 (c:Int),I4 lo,I4 hi,I4 (((BC rs (t:Int) c).length:Nat):Int),I4 (((Bi (BC rs (t:Int) c) c lo):Nat):Int),.slice none 0 0,.slice none 0 0,.slice qt 16 ct]) ?_;rintro _ _ ⟨rfl,rfl⟩;refine Am ?_;refine Zn [10,12,14,15,16] ?_;refine Zx<|Zq<|Zq<|Zg<|Zm Y<|Za Y<|Z0<|Zx<|AQ<|Bd ?_;refine Bd ?_;refine Bd ?_;refine Zb [17,10,12,15,16] ?_;refine Az (e0:=[(17,_)]) (fun m e H=>∃(k:Nat) (vr2:Value) (sr2:List AR) (vp:Value) (sp:List AR) (pvs:List Value) (mp:List AR),m=(toT (BC rs (t:Int) c) c hi) -(Bi (BC rs (t:Int) c) c lo) -k∧(k≤(toT (BC rs (t:Int) c) c hi) -(Bi (BC rs (t:Int) c) c lo)∧BX 5 113 vr2 k (Ac (((BC rs (t:Int) c).drop (Bi (BC rs (t:Int) c) c lo)).take k)) sr2∧BX 1 47 vp k pvs sp∧LH mp pvs (Ir (BC rs (t:Int) c) (Bi (BC rs (t:Int) c) c lo) k))∧e=[(17,I4 (((Bi (BC rs (t:Int) c) c lo)+k:Nat):Int))]∧H=[[(pb,.cells #[I4 (t:Int),I4 (c:Int),I4 lo,I4 hi,I4 (((BC rs (t:Int) c).length:Nat):Int),I4 (((Bi (BC rs (t:Int) c) c lo):Nat):Int),vr2,vp,.slice qt 16 ct] 49 (0,0))],sr2,sp,mp]) (by exact ⟨0,.slice none 0 0,[],.slice none 0 0,[],[],[],rfl,⟨tX _,by rw [ut];exact BV 5 _,BV 1 _,Sy _⟩,rfl,rfl⟩) Wp ?_
   rintro _ _ _ ⟨k,vr2,sr2,vp,sp,pvs,mp,rfl,⟨hk,hr2,hp2,hP⟩,rfl,rfl⟩;obtain ⟨q2,c2,rfl⟩:=hr2.form;obtain ⟨q3,c3,rfl⟩:=hp2.form;refine Zq<|Zq<|Zg<|Zm Y<|Zm Y<|Zv (Aq Y Y)<|Z0<|Zx ?_;refine Ao Y (fun hlt=>?_) (fun hlt=>?_)
   ·
    obtain ⟨x,hx⟩:∃x,(BC rs (t:Int) c)[(Bi (BC rs (t:Int) c) c lo)+k]?=some x:=⟨_,tF (by omega)⟩;obtain ⟨g,off,cur,T,zz,rfl,hm9,hsz9,hex9⟩:=hg _ x hx;have hx2:((BC rs (t:Int) c).drop (Bi (BC rs (t:Int) c) c lo))[k]?=some x:=by rw [uw];exact hx
    refine AC<|Zx<|Zq<|AQ<|Zq<|Zg<|Zh 1 underlying187 rfl rfl sizeOf47 Y<|Zl isAgg47 Y ?_;refine Zm Y<|Zc [_,_] Y call121 Y rfl (QI hSU (by rw [EQ];omega) (fun s h=>by have:=PV (fun r hr=>hok r (Ih hr)) s h;omega) ((Bi (BC rs (t:Int) c) c lo)+k) (by rw [EQ];omega) Tg zg) ?_;rintro _ _ ⟨_,⟨vpath,spath,rfl,hpath,rfl⟩,rfl⟩;have hplen:(Dy (Js (BC rs (t:Int) c)) ((Bi (BC rs (t:Int) c) c lo)+k)).length≤maxLen:=ZM hpath
    have hPU:=Fy hpath hplen;have hP2:=Oo (BC rs (t:Int) c) (Bi (BC rs (t:Int) c) c lo) k▸hP.snoc (hPU.mono (fun c h=>u6 mp h)) (fun c h=>tZ spath h)
    obtain ⟨qx,cx,rfl⟩:=hpath.form;refine Zm Y<|Zd Y rfl<|Zd Y rfl<|Za Y<|Za Y<|Z0<|Zx<|KT (s1:=spath) (s2:=mp) Wo Wo ?_;refine BI (n:=18) (0::1::0::4::0::28::60::124::255::0::512::0::2048::8191::2047::32767::65535::131071::[]) 176512 (by kernel_rfl) (by kernel_rfl) rfl ?_;refine Zi 1 0 rfl (AZ (off:=6) underlying49 rfl rfl sizeOf45 Y)<|Zj 3 1 rfl isAgg45 Y ?_;refine Zi 7 2 rfl (AZ (off:=0) underlying187 rfl rfl sizeOf45 Y)<|Zj 15 3 rfl isAgg45 Y ?_;refine Zi 31 4 rfl (AJ Y) ?_;refine Zi 63 5 rfl (AU underlying45 sizeOf113 Y Y (by first|omega|decide|(simp;done))) ?_;refine Fp (b:=g) (x:= .cells cur T zz) (D':=127) 6 rfl rfl rfl (by simp [hm9]) (AX (cs:=#[I4 x.t,I4 x.k,I4 x.v.a,I4 x.v.b,I4 x.v.c]) isAgg113 sizeOf113 Y (by omega) hex9) ?_;refine Zi 639 9 rfl (AZ (off:=7) underlying49 rfl rfl sizeOf46 Y)<|Zj 1663 10 rfl isAgg46 Y ?_;refine Zi 3711 11 rfl (AJ Y)<|Zz (l:=[7,12]) ?_;refine Zy 124 3839 [10,6,3,1] [true,false,false,true] [(10,(_,_)),(1,(_,_))] rfl Y rfl rfl rfl rfl (Ae (vs:=[_]) (cs:=[_,_,_,_,_]) underlying45 sizeOf113 zeroValue113 Y rfl rfl rfl rfl rfl) ?hk_6 (fun _ _ h=>h.elim) ?hl_6
    case hk_6=>
     rintro _ _ ⟨gb1,rfl,rfl⟩;refine ⟨Zk (Zk (Ad)),?_⟩;refine Zz (l:=[8,12]) ?_;refine Zy 255 4095 [10,1] [true,false] [(10,(_,_))] rfl Y rfl rfl rfl rfl (BR (by_:=40) (sz:=5) underlying45 (rfl:Tryz.prog.info? 113=some Tryz.t113) rfl rfl rfl rfl Y (hr2) Y (DY 5 gb1 1 1 113 (0,0) [I4 x.t,I4 x.k,I4 x.v.a,I4 x.v.b,I4 x.v.c] rfl) Wo Wo (by simp [Value.oneCell']) (by omega) (by omega)) ?hk_7 (fun _ _ h=>h.elim) ?hl_7
     case hk_7=>
      rintro _ _ ⟨sa9,hra9,rfl⟩;refine ⟨Zk (Ad),?_⟩;obtain ⟨ga9,ca9,rfl⟩:=hra9.form;refine Zi 20479 14 rfl (AZ (off:=6) underlying49 rfl rfl sizeOf45 Y)<|Zz (l:=[12]) ?_;refine Zy 2048 24575 [10] [true] [(10,(_,_))] rfl Y rfl rfl rfl rfl (Ae (vs:=[_]) (cs:=[_]) underlying46 sizeOf47 zeroValue47 Y rfl rfl rfl rfl rfl) ?hk_8 (fun _ _ h=>h.elim) ?hl_8
      case hk_8=>
       rintro _ _ ⟨gb2,rfl,rfl⟩;refine ⟨Zk (Ad),?_⟩;refine Yw 13 32767 rfl (DF (by_:=24) (sz:=1) (news:=[_]) underlying46 (rfl:Tryz.prog.info? 47=some Tryz.t47) rfl rfl rfl rfl Y hp2 Y Wo Wh (by rfl) rfl (by simp [Value.oneCell',Value.cells]) (by decide) (by omega) (by omega)) ?_;rintro _ _ ⟨sw7,hrw7,rfl⟩;obtain ⟨gw7,cw7,rfl⟩:=hrw7.form;refine Yw 15 65535 rfl (Zs sizeOf45 Y Y rfl (hc:=by exact (rfl:_=(#[I4 (t:Int),I4 (c:Int),I4 lo,I4 hi,I4 (((BC rs (t:Int) c).length:Nat):Int),I4 (((Bi (BC rs (t:Int) c) c lo):Nat):Int),_,_,.slice qt 16 ct]:Array Value))) (hi:=by first|omega|decide|(simp;done))) ?_;rintro _ _ ⟨rfl,rfl⟩;refine Zi 131071 16 rfl (AZ (off:=7) underlying49 rfl rfl sizeOf46 Y)<|Zz (l:=[17]) ?_;refine Zy 131071 262143 [] [] [] rfl Y rfl rfl rfl rfl (Zs sizeOf46 Y Y rfl (hc:=by exact (rfl:_=(#[I4 (t:Int),I4 (c:Int),I4 lo,I4 hi,I4 (((BC rs (t:Int) c).length:Nat):Int),I4 (((Bi (BC rs (t:Int) c) c lo):Nat):Int),_,_,.slice qt 16 ct]:Array Value))) (hi:=by first|omega|decide|(simp;done))) ?hk_11 (fun _ _ h=>h.elim) ?hl_11
       case hk_11=>
        rintro _ _ ⟨rfl,rfl⟩;refine ⟨Ad,?_⟩;refine Am ?_;refine Zn [10,12,15,16,17] ?_;refine A8<|Zx<|Zg<|Zm Y<|Ya (n:=1) Y Y<|Za Y<|Z0<|Zn [17,10,12,15,16] ?_;refine Ab (e':=[(17,_)]) (by exact ⟨k+1,_,_,_,_,pvs++[_],spath++mp,rfl,⟨by omega,BO hra9 rfl (by rw [Bo hx2,BZ];rfl),BO hrw7 rfl rfl,hP2⟩,rfl,rfl⟩)
       exact Aw
      exact Aw
     refine Zy 2048 7935 [10,1] [true,true] [(10,(_,_)),(1,(_,_))] rfl Y rfl rfl rfl rfl (Ae (vs:=[_]) (cs:=[_]) underlying46 sizeOf47 zeroValue47 Y rfl rfl rfl rfl rfl) ?hk_13 (fun _ _ h=>h.elim) ?hl_13
     case hk_13=>
      rintro _ _ ⟨gb2,rfl,rfl⟩;refine ⟨Zk (Zk (Ad)),?_⟩;refine Yz 8 255 8191 [10,1] [true,false] [(10,(_,_))] rfl Y rfl rfl rfl rfl (BR (by_:=40) (sz:=5) underlying45 (rfl:Tryz.prog.info? 113=some Tryz.t113) rfl rfl rfl rfl Y (hr2) Y (DY 5 gb1 1 1 113 (0,0) [I4 x.t,I4 x.k,I4 x.v.a,I4 x.v.b,I4 x.v.c] rfl) Wo Wo (by simp [Value.oneCell']) (by omega) (by omega)) ?_;rintro _ _ ⟨sa9,hra9,rfl⟩;refine ⟨Zk (Ad),?_⟩;obtain ⟨ga9,ca9,rfl⟩:=hra9.form;refine Zi 24575 14 rfl (AZ (off:=6) underlying49 rfl rfl sizeOf45 Y)<|Zz (l:=[13]) ?_;refine Zy 8191 32767 [10] [false] [] rfl Y rfl rfl rfl rfl (DF (by_:=24) (sz:=1) (news:=[_]) underlying46 (rfl:Tryz.prog.info? 47=some Tryz.t47) rfl rfl rfl rfl Y hp2 Y Wo Wh (by rfl) rfl (by simp [Value.oneCell',Value.cells]) (by decide) (by omega) (by omega)) ?hk_15 (fun _ _ h=>h.elim) ?hl_15
      case hk_15=>
       rintro _ _ ⟨sw7,hrw7,rfl⟩;refine ⟨Ad,?_⟩;obtain ⟨gw7,cw7,rfl⟩:=hrw7.form;refine Yw 15 65535 rfl (Zs sizeOf45 Y Y rfl (hc:=by exact (rfl:_=(#[I4 (t:Int),I4 (c:Int),I4 lo,I4 hi,I4 (((BC rs (t:Int) c).length:Nat):Int),I4 (((Bi (BC rs (t:Int) c) c lo):Nat):Int),_,_,.slice qt 16 ct]:Array Value))) (hi:=by first|omega|decide|(simp;done))) ?_;rintro _ _ ⟨rfl,rfl⟩;refine Zi 131071 16 rfl (AZ (off:=7) underlying49 rfl rfl sizeOf46 Y)<|Zz (l:=[17]) ?_;refine Zy 131071 262143 [] [] [] rfl Y rfl rfl rfl rfl (Zs sizeOf46 Y Y rfl (hc:=by exact (rfl:_=(#[I4 (t:Int),I4 (c:Int),I4 lo,I4 hi,I4 (((BC rs (t:Int) c).length:Nat):Int),I4 (((Bi (BC rs (t:Int) c) c lo):Nat):Int),_,_,.slice qt 16 ct]:Array Value))) (hi:=by first|omega|decide|(simp;done))) ?hk_17 (fun _ _ h=>h.elim) ?hl_17
       case hk_17=>
        rintro _ _ ⟨rfl,rfl⟩;refine ⟨Ad,?_⟩;refine Am ?_;refine Zn [10,12,15,16,17] ?_;refine A8<|Zx<|Zg<|Zm Y<|Ya (n:=1) Y Y<|Za Y<|Z0<|Zn [17,10,12,15,16] ?_;refine Ab (e':=[(17,_)]) (by exact ⟨k+1,_,_,_,_,pvs++[_],spath++mp,rfl,⟨by omega,BO hra9 rfl (by rw [Bo hx2,BZ];rfl),BO hrw7 rfl rfl,hP2⟩,rfl,rfl⟩)
       exact Aw
      exact Aw
     exact Aw
    refine Zy 2048 7807 [10,6,3,1] [true,true,true,true] [(10,(_,_)),(6,(_,_)),(3,(_,_)),(1,(_,_))] rfl Y rfl rfl rfl rfl (Ae (vs:=[_]) (cs:=[_]) underlying46 sizeOf47 zeroValue47 Y rfl rfl rfl rfl rfl) ?hk_19 (fun _ _ h=>h.elim) ?hl_19
    case hk_19=>
     rintro _ _ ⟨gb2,rfl,rfl⟩;refine ⟨Zk (KE (by simp [*]) (Zk (Zk (Ad)))),?_⟩;refine Yz 7 124 7935 [10,6,3,1] [true,false,false,true] [(10,(_,_)),(1,(_,_))] rfl Y rfl rfl rfl rfl (Ae (vs:=[_]) (cs:=[_,_,_,_,_]) underlying45 sizeOf113 zeroValue113 Y rfl rfl rfl rfl rfl) ?_;rintro _ _ ⟨gb1,rfl,rfl⟩;refine ⟨Zk (Zk (Ad)),?_⟩;refine Yz 8 255 8191 [10,1] [true,false] [(10,(_,_))] rfl Y rfl rfl rfl rfl (BR (by_:=40) (sz:=5) underlying45 (rfl:Tryz.prog.info? 113=some Tryz.t113) rfl rfl rfl rfl Y (hr2) Y (DY 5 gb1 1 1 113 (0,0) [I4 x.t,I4 x.k,I4 x.v.a,I4 x.v.b,I4 x.v.c] rfl) Wo Wo (by simp [Value.oneCell']) (by omega) (by omega)) ?_;rintro _ _ ⟨sa9,hra9,rfl⟩;refine ⟨Zk (Ad),?_⟩;obtain ⟨ga9,ca9,rfl⟩:=hra9.form;refine Zi 24575 14 rfl (AZ (off:=6) underlying49 rfl rfl sizeOf45 Y)<|Zz (l:=[13]) ?_;refine Zy 8191 32767 [10] [false] [] rfl Y rfl rfl rfl rfl (DF (by_:=24) (sz:=1) (news:=[_]) underlying46 (rfl:Tryz.prog.info? 47=some Tryz.t47) rfl rfl rfl rfl Y hp2 Y Wo Wh (by rfl) rfl (by simp [Value.oneCell',Value.cells]) (by decide) (by omega) (by omega)) ?hk_22 (fun _ _ h=>h.elim) ?hl_22
     case hk_22=>
      rintro _ _ ⟨sw7,hrw7,rfl⟩;refine ⟨Ad,?_⟩;obtain ⟨gw7,cw7,rfl⟩:=hrw7.form;refine Yw 15 65535 rfl (Zs sizeOf45 Y Y rfl (hc:=by exact (rfl:_=(#[I4 (t:Int),I4 (c:Int),I4 lo,I4 hi,I4 (((BC rs (t:Int) c).length:Nat):Int),I4 (((Bi (BC rs (t:Int) c) c lo):Nat):Int),_,_,.slice qt 16 ct]:Array Value))) (hi:=by first|omega|decide|(simp;done))) ?_;rintro _ _ ⟨rfl,rfl⟩;refine Zi 131071 16 rfl (AZ (off:=7) underlying49 rfl rfl sizeOf46 Y)<|Zz (l:=[17]) ?_;refine Zy 131071 262143 [] [] [] rfl Y rfl rfl rfl rfl (Zs sizeOf46 Y Y rfl (hc:=by exact (rfl:_=(#[I4 (t:Int),I4 (c:Int),I4 lo,I4 hi,I4 (((BC rs (t:Int) c).length:Nat):Int),I4 (((Bi (BC rs (t:Int) c) c lo):Nat):Int),_,_,.slice qt 16 ct]:Array Value))) (hi:=by first|omega|decide|(simp;done))) ?hk_24 (fun _ _ h=>h.elim) ?hl_24
      case hk_24=>
       rintro _ _ ⟨rfl,rfl⟩;refine ⟨Ad,?_⟩;refine Am ?_;refine Zn [10,12,15,16,17] ?_;refine A8<|Zx<|Zg<|Zm Y<|Ya (n:=1) Y Y<|Za Y<|Z0<|Zn [17,10,12,15,16] ?_;refine Ab (e':=[(17,_)]) (by exact ⟨k+1,_,_,_,_,pvs++[_],spath++mp,rfl,⟨by omega,BO hra9 rfl (by rw [Bo hx2,BZ];rfl),BO hrw7 rfl rfl,hP2⟩,rfl,rfl⟩)
      exact Aw
     exact Aw
    exact Aw
   have ek:k=(toT (BC rs (t:Int) c) c hi) -(Bi (BC rs (t:Int) c) c lo):=by omega
   subst ek;refine Ar<|Zt<|Zt<|AO<|Zx<|Zq<|Zg<|Zo Wh (Pa #[I4 (t:Int),I4 (c:Int),I4 lo,I4 hi,I4 (((BC rs (t:Int) c).length:Nat):Int),I4 (((Bi (BC rs (t:Int) c) c lo):Nat):Int),.slice q2 _ c2,.slice q3 _ c3,.slice qt 16 ct] isAgg49 sizeOf49 Y) ?_;refine Xe (Xw sizeOf49 #[I4 (t:Int),I4 (c:Int),I4 lo,I4 hi,I4 (((BC rs (t:Int) c).length:Nat):Int),I4 (((Bi (BC rs (t:Int) c) c lo):Nat):Int),.slice q2 _ c2,.slice q3 _ c3,.slice qt 16 ct]) ?_;refine Za Y<|Z0<|Zx<|A9 ?_;refine Bb rfl results51 Y Wh (Ah isAgg49 sizeOf49 Wn (rfl)) Y (by exact ⟨_,_,_,sr2,sp,pvs,mp,so,rfl,BO hr2 (by rw [tL,tN];omega) rfl,hp2,hP,hso,rfl⟩)
  refine Zy 0 2559 [5,3,2,1] [true,true,true,true] [(5,(_,_)),(3,(_,_)),(2,(_,_)),(1,(_,_))] rfl Y rfl rfl rfl rfl (Al zeroValue49 #[_,_,_,_,_,_,_,_,_]) ?hk_27 (fun _ _ h=>h.elim) ?hl_27
  case hk_27=>
   rintro _ _ ⟨pb,rfl,rfl⟩;refine ⟨Zk (Zk (Zk (Zk (Ad)))),?_⟩;refine Zz (l:=[9]) ?_;refine Zy 256 3071 [5,3,2,1] [true,true,true,true] [(5,(_,_)),(3,(_,_)),(2,(_,_)),(1,(_,_))] rfl Y rfl rfl rfl rfl (Zw [_] Y call101 Y rfl (SI _ p rs s hv hs hn hok Tg zg)) ?hk_28 D9 ?hl_28
   case hk_28=>
    rintro _ _ ⟨_,⟨so,hso,rfl⟩,rfl⟩;refine ⟨Zk (Zk (Zk (Zk (Ad)))),?_⟩;obtain ⟨qt,ct,rfl⟩:=hso.form;refine Zi 4095 10 rfl (BK (vs:=[(0,I4 (t:Int)),(1,I4 (c:Int)),(2,I4 lo),(3,I4 hi),(4,I4 (((BC rs (t:Int) c).length:Nat):Int)),(5,I4 (((Bi (BC rs (t:Int) c) c lo):Nat):Int)),(8,.slice qt 16 ct)]) (cs:=#[I4 (t:Int),I4 (c:Int),I4 lo,I4 hi,I4 (((BC rs (t:Int) c).length:Nat):Int),I4 (((Bi (BC rs (t:Int) c) c lo):Nat):Int),.slice none 0 0,.slice none 0 0,.slice qt 16 ct]) Y (Aa (pl:=#[(0,1),(1,1),(2,1),(3,1),(4,1),(5,1),(6,1),(7,1),(8,1)]) zeroValue49 underlying49 (fun _=>by kernel_rfl) (by kernel_rfl))) ?_;refine Yw 12 8191 rfl (Xw sizeOf49 #[I4 (t:Int),I4 (c:Int),I4 lo,I4 hi,I4 (((BC rs (t:Int) c).length:Nat):Int),I4 (((Bi (BC rs (t:Int) c) c lo):Nat):Int),.slice none 0 0,.slice none 0 0,.slice qt 16 ct]) ?_;rintro _ _ ⟨rfl,rfl⟩;refine Am ?_;refine Zn [10,12,14,15,16] ?_;refine Zx<|Zq<|Zq<|Zg<|Zm Y<|Za Y<|Z0<|Zx<|AQ<|Bd ?_;refine Bd ?_;refine Bd ?_;refine Zb [17,10,12,15,16] ?_;refine Az (e0:=[(17,_)]) (fun m e H=>∃(k:Nat) (vr2:Value) (sr2:List AR) (vp:Value) (sp:List AR) (pvs:List Value) (mp:List AR),m=(toT (BC rs (t:Int) c) c hi) -(Bi (BC rs (t:Int) c) c lo) -k∧(k≤(toT (BC rs (t:Int) c) c hi) -(Bi (BC rs (t:Int) c) c lo)∧BX 5 113 vr2 k (Ac (((BC rs (t:Int) c).drop (Bi (BC rs (t:Int) c) c lo)).take k)) sr2∧BX 1 47 vp k pvs sp∧LH mp pvs (Ir (BC rs (t:Int) c) (Bi (BC rs (t:Int) c) c lo) k))∧e=[(17,I4 (((Bi (BC rs (t:Int) c) c lo)+k:Nat):Int))]∧H=[[(pb,.cells #[I4 (t:Int),I4 (c:Int),I4 lo,I4 hi,I4 (((BC rs (t:Int) c).length:Nat):Int),I4 (((Bi (BC rs (t:Int) c) c lo):Nat):Int),vr2,vp,.slice qt 16 ct] 49 (0,0))],sr2,sp,mp]) (by exact ⟨0,.slice none 0 0,[],.slice none 0 0,[],[],[],rfl,⟨tX _,by rw [ut];exact BV 5 _,BV 1 _,Sy _⟩,rfl,rfl⟩) Wp ?_;rintro _ _ _ ⟨k,vr2,sr2,vp,sp,pvs,mp,rfl,⟨hk,hr2,hp2,hP⟩,rfl,rfl⟩;obtain ⟨q2,c2,rfl⟩:=hr2.form;obtain ⟨q3,c3,rfl⟩:=hp2.form;refine Zq<|Zq<|Zg<|Zm Y<|Zm Y<|Zv (Aq Y Y)<|Z0<|Zx ?_;refine Ao Y (fun hlt=>?_) (fun hlt=>?_)
    ·
     obtain ⟨x,hx⟩:∃x,(BC rs (t:Int) c)[(Bi (BC rs (t:Int) c) c lo)+k]?=some x:=⟨_,tF (by omega)⟩;obtain ⟨g,off,cur,T,zz,rfl,hm9,hsz9,hex9⟩:=hg _ x hx;have hx2:((BC rs (t:Int) c).drop (Bi (BC rs (t:Int) c) c lo))[k]?=some x:=by rw [uw];exact hx
     refine AC<|Zx<|Zq<|AQ<|Zq<|Zg<|Zh 1 underlying187 rfl rfl sizeOf47 Y<|Zl isAgg47 Y ?_;refine Zm Y<|Zc [_,_] Y call121 Y rfl (QI hSU (by rw [EQ];omega) (fun s h=>by have:=PV (fun r hr=>hok r (Ih hr)) s h;omega) ((Bi (BC rs (t:Int) c) c lo)+k) (by rw [EQ];omega) Tg zg) ?_;rintro _ _ ⟨_,⟨vpath,spath,rfl,hpath,rfl⟩,rfl⟩;have hplen:(Dy (Js (BC rs (t:Int) c)) ((Bi (BC rs (t:Int) c) c lo)+k)).length≤maxLen:=ZM hpath
     have hPU:=Fy hpath hplen;have hP2:=Oo (BC rs (t:Int) c) (Bi (BC rs (t:Int) c) c lo) k▸hP.snoc (hPU.mono (fun c h=>u6 mp h)) (fun c h=>tZ spath h)
     obtain ⟨qx,cx,rfl⟩:=hpath.form;refine Zm Y<|Zd Y rfl<|Zd Y rfl<|Za Y<|Za Y<|Z0<|Zx<|KT (s1:=spath) (s2:=mp) Wo Wo ?_;refine BI (n:=18) (0::1::0::4::0::28::60::124::255::0::512::0::2048::8191::2047::32767::65535::131071::[]) 176512 (by kernel_rfl) (by kernel_rfl) rfl ?_;refine Zi 1 0 rfl (AZ (off:=6) underlying49 rfl rfl sizeOf45 Y)<|Zj 3 1 rfl isAgg45 Y ?_;refine Zi 7 2 rfl (AZ (off:=0) underlying187 rfl rfl sizeOf45 Y)<|Zj 15 3 rfl isAgg45 Y ?_;refine Zi 31 4 rfl (AJ Y) ?_;refine Zi 63 5 rfl (AU underlying45 sizeOf113 Y Y (by first|omega|decide|(simp;done))) ?_;refine Fp (b:=g) (x:= .cells cur T zz) (D':=127) 6 rfl rfl rfl (by simp [hm9]) (AX (cs:=#[I4 x.t,I4 x.k,I4 x.v.a,I4 x.v.b,I4 x.v.c]) isAgg113 sizeOf113 Y (by omega) hex9) ?_;refine Zi 639 9 rfl (AZ (off:=7) underlying49 rfl rfl sizeOf46 Y)<|Zj 1663 10 rfl isAgg46 Y ?_;refine Zi 3711 11 rfl (AJ Y)<|Zz (l:=[7,12]) ?_;refine Zy 124 3839 [10,6,3,1] [true,false,false,true] [(10,(_,_)),(1,(_,_))] rfl Y rfl rfl rfl rfl (Ae (vs:=[_]) (cs:=[_,_,_,_,_]) underlying45 sizeOf113 zeroValue113 Y rfl rfl rfl rfl rfl) ?hk_31 (fun _ _ h=>h.elim) ?hl_31
     case hk_31=>
      rintro _ _ ⟨gb1,rfl,rfl⟩;refine ⟨Zk (Zk (Ad)),?_⟩;refine Zz (l:=[8,12]) ?_;refine Zy 255 4095 [10,1] [true,false] [(10,(_,_))] rfl Y rfl rfl rfl rfl (BR (by_:=40) (sz:=5) underlying45 (rfl:Tryz.prog.info? 113=some Tryz.t113) rfl rfl rfl rfl Y (hr2) Y (DY 5 gb1 1 1 113 (0,0) [I4 x.t,I4 x.k,I4 x.v.a,I4 x.v.b,I4 x.v.c] rfl) Wo Wo (by simp [Value.oneCell']) (by omega) (by omega)) ?hk_32 (fun _ _ h=>h.elim) ?hl_32
      case hk_32=>
       rintro _ _ ⟨sa9,hra9,rfl⟩;refine ⟨Zk (Ad),?_⟩;obtain ⟨ga9,ca9,rfl⟩:=hra9.form;refine Zi 20479 14 rfl (AZ (off:=6) underlying49 rfl rfl sizeOf45 Y)<|Zz (l:=[12]) ?_;refine Zy 2048 24575 [10] [true] [(10,(_,_))] rfl Y rfl rfl rfl rfl (Ae (vs:=[_]) (cs:=[_]) underlying46 sizeOf47 zeroValue47 Y rfl rfl rfl rfl rfl) ?hk_33 (fun _ _ h=>h.elim) ?hl_33
       case hk_33=>
        rintro _ _ ⟨gb2,rfl,rfl⟩;refine ⟨Zk (Ad),?_⟩;refine Yw 13 32767 rfl (DF (by_:=24) (sz:=1) (news:=[_]) underlying46 (rfl:Tryz.prog.info? 47=some Tryz.t47) rfl rfl rfl rfl Y hp2 Y Wo Wh (by rfl) rfl (by simp [Value.oneCell',Value.cells]) (by decide) (by omega) (by omega)) ?_;rintro _ _ ⟨sw7,hrw7,rfl⟩;obtain ⟨gw7,cw7,rfl⟩:=hrw7.form;refine Yw 15 65535 rfl (Zs sizeOf45 Y Y rfl (hc:=by exact (rfl:_=(#[I4 (t:Int),I4 (c:Int),I4 lo,I4 hi,I4 (((BC rs (t:Int) c).length:Nat):Int),I4 (((Bi (BC rs (t:Int) c) c lo):Nat):Int),_,_,.slice qt 16 ct]:Array Value))) (hi:=by first|omega|decide|(simp;done))) ?_;rintro _ _ ⟨rfl,rfl⟩;refine Zi 131071 16 rfl (AZ (off:=7) underlying49 rfl rfl sizeOf46 Y)<|Zz (l:=[17]) ?_;refine Zy 131071 262143 [] [] [] rfl Y rfl rfl rfl rfl (Zs sizeOf46 Y Y rfl (hc:=by exact (rfl:_=(#[I4 (t:Int),I4 (c:Int),I4 lo,I4 hi,I4 (((BC rs (t:Int) c).length:Nat):Int),I4 (((Bi (BC rs (t:Int) c) c lo):Nat):Int),_,_,.slice qt 16 ct]:Array Value))) (hi:=by first|omega|decide|(simp;done))) ?hk_36 (fun _ _ h=>h.elim) ?hl_36
        case hk_36=>
         rintro _ _ ⟨rfl,rfl⟩;refine ⟨Ad,?_⟩;refine Am ?_;refine Zn [10,12,15,16,17] ?_;refine A8<|Zx<|Zg<|Zm Y<|Ya (n:=1) Y Y<|Za Y<|Z0<|Zn [17,10,12,15,16] ?_;refine Ab (e':=[(17,_)]) (by exact ⟨k+1,_,_,_,_,pvs++[_],spath++mp,rfl,⟨by omega,BO hra9 rfl (by rw [Bo hx2,BZ];rfl),BO hrw7 rfl rfl,hP2⟩,rfl,rfl⟩)
        exact Aw
       exact Aw
      refine Zy 2048 7935 [10,1] [true,true] [(10,(_,_)),(1,(_,_))] rfl Y rfl rfl rfl rfl (Ae (vs:=[_]) (cs:=[_]) underlying46 sizeOf47 zeroValue47 Y rfl rfl rfl rfl rfl) ?hk_38 (fun _ _ h=>h.elim) ?hl_38
      case hk_38=>
       rintro _ _ ⟨gb2,rfl,rfl⟩;refine ⟨Zk (Zk (Ad)),?_⟩;refine Yz 8 255 8191 [10,1] [true,false] [(10,(_,_))] rfl Y rfl rfl rfl rfl (BR (by_:=40) (sz:=5) underlying45 (rfl:Tryz.prog.info? 113=some Tryz.t113) rfl rfl rfl rfl Y (hr2) Y (DY 5 gb1 1 1 113 (0,0) [I4 x.t,I4 x.k,I4 x.v.a,I4 x.v.b,I4 x.v.c] rfl) Wo Wo (by simp [Value.oneCell']) (by omega) (by omega)) ?_;rintro _ _ ⟨sa9,hra9,rfl⟩;refine ⟨Zk (Ad),?_⟩;obtain ⟨ga9,ca9,rfl⟩:=hra9.form;refine Zi 24575 14 rfl (AZ (off:=6) underlying49 rfl rfl sizeOf45 Y)<|Zz (l:=[13]) ?_;refine Zy 8191 32767 [10] [false] [] rfl Y rfl rfl rfl rfl (DF (by_:=24) (sz:=1) (news:=[_]) underlying46 (rfl:Tryz.prog.info? 47=some Tryz.t47) rfl rfl rfl rfl Y hp2 Y Wo Wh (by rfl) rfl (by simp [Value.oneCell',Value.cells]) (by decide) (by omega) (by omega)) ?hk_40 (fun _ _ h=>h.elim) ?hl_40
       case hk_40=>
        rintro _ _ ⟨sw7,hrw7,rfl⟩;refine ⟨Ad,?_⟩;obtain ⟨gw7,cw7,rfl⟩:=hrw7.form;refine Yw 15 65535 rfl (Zs sizeOf45 Y Y rfl (hc:=by exact (rfl:_=(#[I4 (t:Int),I4 (c:Int),I4 lo,I4 hi,I4 (((BC rs (t:Int) c).length:Nat):Int),I4 (((Bi (BC rs (t:Int) c) c lo):Nat):Int),_,_,.slice qt 16 ct]:Array Value))) (hi:=by first|omega|decide|(simp;done))) ?_;rintro _ _ ⟨rfl,rfl⟩;refine Zi 131071 16 rfl (AZ (off:=7) underlying49 rfl rfl sizeOf46 Y)<|Zz (l:=[17]) ?_;refine Zy 131071 262143 [] [] [] rfl Y rfl rfl rfl rfl (Zs sizeOf46 Y Y rfl (hc:=by exact (rfl:_=(#[I4 (t:Int),I4 (c:Int),I4 lo,I4 hi,I4 (((BC rs (t:Int) c).length:Nat):Int),I4 (((Bi (BC rs (t:Int) c) c lo):Nat):Int),_,_,.slice qt 16 ct]:Array Value))) (hi:=by first|omega|decide|(simp;done))) ?hk_42 (fun _ _ h=>h.elim) ?hl_42
        case hk_42=>
         rintro _ _ ⟨rfl,rfl⟩;refine ⟨Ad,?_⟩;refine Am ?_;refine Zn [10,12,15,16,17] ?_;refine A8<|Zx<|Zg<|Zm Y<|Ya (n:=1) Y Y<|Za Y<|Z0<|Zn [17,10,12,15,16] ?_;refine Ab (e':=[(17,_)]) (by exact ⟨k+1,_,_,_,_,pvs++[_],spath++mp,rfl,⟨by omega,BO hra9 rfl (by rw [Bo hx2,BZ];rfl),BO hrw7 rfl rfl,hP2⟩,rfl,rfl⟩)
        exact Aw
       exact Aw
      exact Aw
     refine Zy 2048 7807 [10,6,3,1] [true,true,true,true] [(10,(_,_)),(6,(_,_)),(3,(_,_)),(1,(_,_))] rfl Y rfl rfl rfl rfl (Ae (vs:=[_]) (cs:=[_]) underlying46 sizeOf47 zeroValue47 Y rfl rfl rfl rfl rfl) ?hk_44 (fun _ _ h=>h.elim) ?hl_44
     case hk_44=>
      rintro _ _ ⟨gb2,rfl,rfl⟩;refine ⟨Zk (KE (by simp [*]) (Zk (Zk (Ad)))),?_⟩;refine Yz 7 124 7935 [10,6,3,1] [true,false,false,true] [(10,(_,_)),(1,(_,_))] rfl Y rfl rfl rfl rfl (Ae (vs:=[_]) (cs:=[_,_,_,_,_]) underlying45 sizeOf113 zeroValue113 Y rfl rfl rfl rfl rfl) ?_;rintro _ _ ⟨gb1,rfl,rfl⟩;refine ⟨Zk (Zk (Ad)),?_⟩;refine Yz 8 255 8191 [10,1] [true,false] [(10,(_,_))] rfl Y rfl rfl rfl rfl (BR (by_:=40) (sz:=5) underlying45 (rfl:Tryz.prog.info? 113=some Tryz.t113) rfl rfl rfl rfl Y (hr2) Y (DY 5 gb1 1 1 113 (0,0) [I4 x.t,I4 x.k,I4 x.v.a,I4 x.v.b,I4 x.v.c] rfl) Wo Wo (by simp [Value.oneCell']) (by omega) (by omega)) ?_;rintro _ _ ⟨sa9,hra9,rfl⟩;refine ⟨Zk (Ad),?_⟩;obtain ⟨ga9,ca9,rfl⟩:=hra9.form;refine Zi 24575 14 rfl (AZ (off:=6) underlying49 rfl rfl sizeOf45 Y)<|Zz (l:=[13]) ?_;refine Zy 8191 32767 [10] [false] [] rfl Y rfl rfl rfl rfl (DF (by_:=24) (sz:=1) (news:=[_]) underlying46 (rfl:Tryz.prog.info? 47=some Tryz.t47) rfl rfl rfl rfl Y hp2 Y Wo Wh (by rfl) rfl (by simp [Value.oneCell',Value.cells]) (by decide) (by omega) (by omega)) ?hk_47 (fun _ _ h=>h.elim) ?hl_47
      case hk_47=>
       rintro _ _ ⟨sw7,hrw7,rfl⟩;refine ⟨Ad,?_⟩;obtain ⟨gw7,cw7,rfl⟩:=hrw7.form;refine Yw 15 65535 rfl (Zs sizeOf45 Y Y rfl (hc:=by exact (rfl:_=(#[I4 (t:Int),I4 (c:Int),I4 lo,I4 hi,I4 (((BC rs (t:Int) c).length:Nat):Int),I4 (((Bi (BC rs (t:Int) c) c lo):Nat):Int),_,_,.slice qt 16 ct]:Array Value))) (hi:=by first|omega|decide|(simp;done))) ?_;rintro _ _ ⟨rfl,rfl⟩;refine Zi 131071 16 rfl (AZ (off:=7) underlying49 rfl rfl sizeOf46 Y)<|Zz (l:=[17]) ?_;refine Zy 131071 262143 [] [] [] rfl Y rfl rfl rfl rfl (Zs sizeOf46 Y Y rfl (hc:=by exact (rfl:_=(#[I4 (t:Int),I4 (c:Int),I4 lo,I4 hi,I4 (((BC rs (t:Int) c).length:Nat):Int),I4 (((Bi (BC rs (t:Int) c) c lo):Nat):Int),_,_,.slice qt 16 ct]:Array Value))) (hi:=by first|omega|decide|(simp;done))) ?hk_49 (fun _ _ h=>h.elim) ?hl_49
       case hk_49=>
        rintro _ _ ⟨rfl,rfl⟩;refine ⟨Ad,?_⟩;refine Am ?_;refine Zn [10,12,15,16,17] ?_;refine A8<|Zx<|Zg<|Zm Y<|Ya (n:=1) Y Y<|Za Y<|Z0<|Zn [17,10,12,15,16] ?_;refine Ab (e':=[(17,_)]) (by exact ⟨k+1,_,_,_,_,pvs++[_],spath++mp,rfl,⟨by omega,BO hra9 rfl (by rw [Bo hx2,BZ];rfl),BO hrw7 rfl rfl,hP2⟩,rfl,rfl⟩)
       exact Aw
      exact Aw
     exact Aw
    have ek:k=(toT (BC rs (t:Int) c) c hi) -(Bi (BC rs (t:Int) c) c lo):=by omega
    subst ek;refine Ar<|Zt<|Zt<|AO<|Zx<|Zq<|Zg<|Zo Wh (Pa #[I4 (t:Int),I4 (c:Int),I4 lo,I4 hi,I4 (((BC rs (t:Int) c).length:Nat):Int),I4 (((Bi (BC rs (t:Int) c) c lo):Nat):Int),.slice q2 _ c2,.slice q3 _ c3,.slice qt 16 ct] isAgg49 sizeOf49 Y) ?_;refine Xe (Xw sizeOf49 #[I4 (t:Int),I4 (c:Int),I4 lo,I4 hi,I4 (((BC rs (t:Int) c).length:Nat):Int),I4 (((Bi (BC rs (t:Int) c) c lo):Nat):Int),.slice q2 _ c2,.slice q3 _ c3,.slice qt 16 ct]) ?_;refine Za Y<|Z0<|Zx<|A9 ?_;refine Bb rfl results51 Y Wh (Ah isAgg49 sizeOf49 Wn (rfl)) Y (by exact ⟨_,_,_,sr2,sp,pvs,mp,so,rfl,BO hr2 (by rw [tL,tN];omega) rfl,hp2,hP,hso,rfl⟩)
   exact Aw
  exact Aw
 exact Aw
end Go.Proofs.YtkdgffcfmgmemaaGreatDoor
