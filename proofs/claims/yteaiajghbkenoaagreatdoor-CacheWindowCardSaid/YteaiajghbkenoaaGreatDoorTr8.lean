/- statetree: Prove. -/
/- statetree: complete, Rows. -/
import Derived.Test.YteaiajghbkenoaaGreatDoorEz
import Derived.Test.YteaiajghbkenoaaGreatDoorTr6
import Derived.Test.YteaiajghbkenoaaGreatDoorEx36
set_option linter.unusedVariables false
set_option linter.unusedSimpArgs false
namespace Go.Proofs.YteaiajghbkenoaaGreatDoor
open Go.Proofs.Tryz
open Go Go.RowKit Gw
set_option maxRecDepth 100000
attribute [local irreducible] Gw.At Gw.Nx Gw.Ops
def CP(pd:AQ->Bool)(l:List AQ):Nat:=(l.takeWhile (fun x=>!pd x)).length
theorem GX(pd:AQ->Bool)(l:List AQ):CP pd l<=l.length:=(List.takeWhile_sublist _).length_le
theorem Sr{pd:AQ->Bool}:∀{l:List AQ} {i:Nat} {x:AQ},l[i]?=some x->pd x=true->(∀(j:Nat) (y:AQ),j<i->l[j]?=some y->pd y=false)->CP pd l=i
 |[],i,x,hx,_,_=>by simp at hx
 |z::l,0,x,hx,hp,_=>by
  simp only [AH1,AI2]at hx;subst hx;simp [CP,hp]
 |z::l,i+1,x,hx,hp,hno=>by
  simp only [AH0]at hx;have h0:=hno 0 z Ao7 rfl
  have ih:=Sr (l:=l) hx hp (fun j y hj hy=>hno (j+1) y Ao7 hy);unfold CP at ih⊢;rw [AE8,Am7 (by simp [h0]),ze,ih]
theorem NQ{pd:AQ->Bool}:∀{l:List AQ},(∀(j:Nat) (y:AQ),l[j]?=some y->pd y=false)->CP pd l=l.length
 |[],_=>rfl
 |z::l,hno=>by
  have h0:=hno 0 z rfl;have ih:=NQ (l:=l) (fun j y hy=>hno (j+1) y hy)
  unfold CP at ih⊢;rw [AE8,Am7 (by simp [h0]),ze,ih,ze]
def QU(n len:Nat):Int:=if n<len then(n:Int)else-1
def geV(c:Nat)(lo:Int)(r:AQ):Bool:=decide (lo<=DR r c)
def gtV(c:Nat)(hi:Int)(r:AQ):Bool:=decide (hi<DR r c)
theorem xP(v lo:Int)(bl:Nat):BJ Tryz.prog 174 #[I4 v,I5 bl] [[(bl,.cells #[I4 lo] 3 (0,0))]] (.bool (decide (lo<=v))):=by
 refine Se func174 ntmps174 [0,1] ?_;intro u R;refine Zq<|Zg<|Za Y<|Z0<|Zx<|Zq<|Zg<|Zm Y<|Zl AU2 Y ?_;refine Zv (Iq Y Y)<|Za Y<|Z0<|Zx<|AC<|AL V results174 Y (by exact ⟨V,V⟩)
theorem yc(r:AQ)(c:Nat)(hc:c<=3)(lo:Int)(bi bc bl:Nat):BJ Tryz.prog 173 #[.agg #[I4 r.t,I4 r.k,I4 r.v.a,I4 r.v.b,I4 r.v.c],I5 bi,I5 bc] [[(bi,.cells #[.func (.func 174) #[] #[I5 bl]] 112 (0,0))],[(bc,.cells #[I4 (c:Int)] 3 (0,0))],[(bl,.cells #[I4 lo] 3 (0,0))]] (.bool (geV c lo r)):=by
 refine Se func173 ntmps173 [0,1,2] ?_;intro u R;refine Zq<|Zg<|Ze (Bx #[_,_,_,_,_]) ?_;rintro _ _ ⟨b1,rfl,rfl⟩;refine Za Y<|Z0<|Zx<|Zq<|Az (n:=6) (0::0::0::6::15::31::[]) 24 Ao8 Ao8 V<|Ao0 0 V isAgg112 Y ?_;refine Ao4 1 V Wh (Pa #[_,_,_,_,_] AX3 AU5 Y) ?_;refine Ao0 2 V AU2 Y ?_;refine Yz 3 6 15 [2,1,0] [false,false,true] [(0,(_,_))] V Y V rfl V rfl (Zu [_,_] Y Ah3 Y V (Nz r c hc)) ?_;rintro _ _ ⟨rfl,rfl⟩;refine ⟨Zk (AV),?_⟩;refine Yw 4 31 V (Zu [_] Y call174 Y V (xP (DR r c) lo bl)) ?_;rintro _ _ ⟨rfl,rfl⟩;refine An9 5 V (Aq Y)<|Ag<|Zx<|AC<|AL V results173 Y (by exact ⟨V,V⟩)
variable{M:List A8}{v:Value}{L:List AQ}
theorem yn(hv:Dh M v L)(hn:L.length<=1000000)(c:Nat)(hc:c<=3)(lo:Int)(bi bc bl:Nat):BJ Tryz.prog 172 #[v,.func (.func 173) #[] #[I5 bi,I5 bc]] [[(bi,.cells #[.func (.func 174) #[] #[I5 bl]] 112 (0,0))],[(bc,.cells #[I4 (c:Int)] 3 (0,0))],[(bl,.cells #[I4 lo] 3 (0,0))],M] (I4 (QU (CP (geV c lo) L) L.length)):=by
 have hml:=mL;obtain ⟨p,cap,rfl,hl,hg⟩:=hv;refine Se func172 ntmps172 [0,1] ?_;intro u R;refine Zq<|Zg<|Za Y<|Z0<|Zx<|Zq<|Zq<|Zg<|Zm Y<|Zv (Aa AU4 Y)<|Zm Y<|Z0<|Zx<|AO<|Zb [8,0,1,7] ?_;refine BI (e0:=[(8,_)]) (fun m e H=>∃(i:Nat),m=L.length -i/\(i<=L.length/\∀(j:Nat) (y:AQ),j<i->L[j]?=some y->geV c lo y=false)/\e=[(8,I4 (i:Int))]/\H=[]) (by exact ⟨0,V,⟨zT _,by intro j y hj;omega⟩,V,V⟩) Wp ?_;rintro _ _ _ ⟨i,rfl,⟨hi,hno⟩,rfl,rfl⟩;refine Zq<|Zg<|Zv (Au Y Y)<|Z0<|Zx<|Zq<|Aw Y (fun hlt=>?_) (fun hlt=>?_)
 ·
  obtain ⟨x,hx⟩:∃x,L[i]?=some x:=⟨_,zD hlt⟩;obtain ⟨g,off,cur,T,zz,rfl,hm9,hsz9,hex9⟩:=hg i x hx;refine AJ<|Zx<|Zq<|AO<|Zq<|Zg<|Zm Y<|Za Y<|Z0<|Zx<|Zq<|Zg<|Zm Y<|Zm Y<|Zm Y<|Bq (Ai AU4 AU5 Y Y Ao7)<|CW (cs:=[(g,.cells cur T zz)]) (by simp [hm9]) (AA (cs:=#[I4 x.t,I4 x.k,I4 x.v.a,I4 x.v.b,I4 x.v.c]) AX3 AU5 Y Ao7 hex9) V rfl ?_;refine Xr [_] Y call173 Y V (yc x c hc lo bi bc bl) ?_;refine Z0<|Zx<|AR Y (fun hp=>?_) (fun hp=>?_)
  ·
   refine Zq<|Zg<|Zm Y<|Za Y<|Z0<|Zx<|AC<|Ab<|Zt<|Zt<|Ab<|Zt<|AL rfl Ai9 Y (by exact ⟨by rw [Sr hx hp hno];unfold QU;rw [Am7 hlt],rfl⟩)
  refine AJ<|A9<|Zx<|Zg<|Ya (n:=1) Y Y<|Zm Y<|Z0<|Zn [8,0,1,7] ?_;refine Ad (e':=[(8,_)]) (by exact ⟨i+1,rfl,⟨by omega,fun j y hj hy=>by rcases AB1 j i with h9|h9;exact hno j y h9 hy;obtain rfl:j=i:=Ao7;rw [hx]at hy;injection hy with hy;rw [<-hy];exact hp⟩,rfl,rfl⟩)
 have hfn:CP (geV c lo) L=L.length:=NQ (fun j y hy=>hno j y (by have:=(zF.1 hy).1;omega) hy);refine BG<|Zt<|Zt<|AX<|Zx<|Zq<|Zg<|Za Y<|Z0<|Zx<|AC<|AL rfl Ai9 Y (by exact ⟨by rw [hfn];unfold QU;rw [Am6 Ao7],rfl⟩)
theorem xR{vr ve:Value}(hv:Dh M vr L)(hn:L.length<=1000000)(c:Nat)(hc:c<=3)(lo:Int)(bo bc bl:Nat):BJ Tryz.prog 171 #[.func (.func 174) #[] #[I5 bl],I5 bo,I5 bc] [[(bo,.cells #[vr,ve] 262 (0,0))],[(bc,.cells #[I4 (c:Int)] 3 (0,0))],[(bl,.cells #[I4 lo] 3 (0,0))],M] (I4 ((CP (geV c lo) L:Nat):Int)):=by
 have hml:=mL;obtain ⟨p,cap,rfl,hl,hg⟩:=id hv;have hfl:=GX (geV c lo) L
 refine Se func171 ntmps171 [0,1,2] ?_;intro u R;refine Zq<|Zg<|Ze (Bx #[_]) ?_;rintro _ _ ⟨bi,rfl,rfl⟩;refine Za Y<|Z0<|Zx<|Zq<|Zg<|Zh 0 AY7 V rfl AW8 Y<|Zl Ab2 Y ?_;refine Zv (Bb (vs:=[]) (us:=[_,_]) Y Y)<|Xr [_,_] Y call172 Y V (yn hv hn c hc lo bi bc bl) ?_;refine Za Y<|Z0<|Zx<|Zq<|Zq<|Zg<|Zm Y<|Zv (Dq Y Y)<|Z0<|Zx<|Aw Y (fun hneg=>?_) (fun hneg=>?_)
 ·
  have hge:CP (geV c lo) L=L.length:=by
   rcases AB1 (CP (geV c lo) L) L.length with h9|h9
   · unfold QU at hneg;rw [Am7 h9]at hneg;omega
   · omega
  refine Zq<|Zg<|Zh 0 AY7 V rfl AW8 Y<|Zl Ab2 Y ?_;refine Zv (Aa AU4 Y)<|Za Y<|Z0<|Zn [4] ?_;refine Zx<|AC<|Zt<|AL rfl results171 Y (by exact ⟨by rw [hge],rfl⟩)
 have hlt:CP (geV c lo) L<L.length:=by
  rcases AB1 (CP (geV c lo) L) L.length with h9|h9
  · exact h9
  · unfold QU at hneg;rw [Am6 Ao7]at hneg;omega
 refine AJ<|Zx<|Zq<|Zg<|Zm Y<|Za Y<|Z0<|Zx<|AC<|AL rfl results171 Y (by exact ⟨by unfold QU;rw [Am7 hlt],rfl⟩)
theorem xO(v lo:Int)(bl:Nat):BJ Tryz.prog 175 #[I4 v,I5 bl] [[(bl,.cells #[I4 lo] 3 (0,0))]] (.bool (decide (lo<v))):=by
 refine Se func175 ntmps175 [0,1] ?_;intro u R;refine Zq<|Zg<|Za Y<|Z0<|Zx<|Zq<|Zg<|Zm Y<|Zl AU2 Y ?_;refine Zv (FI Y Y)<|Za Y<|Z0<|Zx<|AC<|AL V results175 Y (by exact ⟨V,V⟩)
theorem yZ(r:AQ)(c:Nat)(hc:c<=3)(lo:Int)(bi bc bl:Nat):BJ Tryz.prog 173 #[.agg #[I4 r.t,I4 r.k,I4 r.v.a,I4 r.v.b,I4 r.v.c],I5 bi,I5 bc] [[(bi,.cells #[.func (.func 175) #[] #[I5 bl]] 112 (0,0))],[(bc,.cells #[I4 (c:Int)] 3 (0,0))],[(bl,.cells #[I4 lo] 3 (0,0))]] (.bool (gtV c lo r)):=by
 refine Se func173 ntmps173 [0,1,2] ?_;intro u R;refine Zq<|Zg<|Ze (Bx #[_,_,_,_,_]) ?_;rintro _ _ ⟨b1,rfl,rfl⟩;refine Za Y<|Z0<|Zx<|Zq<|Az (n:=6) (0::0::0::6::15::31::[]) 24 Ao8 Ao8 V<|Ao0 0 V isAgg112 Y ?_;refine Ao4 1 V Wh (Pa #[_,_,_,_,_] AX3 AU5 Y) ?_;refine Ao0 2 V AU2 Y ?_;refine Yz 3 6 15 [2,1,0] [false,false,true] [(0,(_,_))] V Y V rfl V rfl (Zu [_,_] Y Ah3 Y V (Nz r c hc)) ?_;rintro _ _ ⟨rfl,rfl⟩;refine ⟨Zk (AV),?_⟩;refine Yw 4 31 V (Zu [_] Y call175 Y V (xO (DR r c) lo bl)) ?_;rintro _ _ ⟨rfl,rfl⟩;refine An9 5 V (Aq Y)<|Ag<|Zx<|AC<|AL V results173 Y (by exact ⟨V,V⟩)
theorem ym(hv:Dh M v L)(hn:L.length<=1000000)(c:Nat)(hc:c<=3)(lo:Int)(bi bc bl:Nat):BJ Tryz.prog 172 #[v,.func (.func 173) #[] #[I5 bi,I5 bc]] [[(bi,.cells #[.func (.func 175) #[] #[I5 bl]] 112 (0,0))],[(bc,.cells #[I4 (c:Int)] 3 (0,0))],[(bl,.cells #[I4 lo] 3 (0,0))],M] (I4 (QU (CP (gtV c lo) L) L.length)):=by
 have hml:=mL;obtain ⟨p,cap,rfl,hl,hg⟩:=hv;refine Se func172 ntmps172 [0,1] ?_;intro u R;refine Zq<|Zg<|Za Y<|Z0<|Zx<|Zq<|Zq<|Zg<|Zm Y<|Zv (Aa AU4 Y)<|Zm Y<|Z0<|Zx<|AO<|Zb [8,0,1,7] ?_;refine BI (e0:=[(8,_)]) (fun m e H=>∃(i:Nat),m=L.length -i/\(i<=L.length/\∀(j:Nat) (y:AQ),j<i->L[j]?=some y->gtV c lo y=false)/\e=[(8,I4 (i:Int))]/\H=[]) (by exact ⟨0,V,⟨zT _,by intro j y hj;omega⟩,V,V⟩) Wp ?_;rintro _ _ _ ⟨i,rfl,⟨hi,hno⟩,rfl,rfl⟩;refine Zq<|Zg<|Zv (Au Y Y)<|Z0<|Zx<|Zq<|Aw Y (fun hlt=>?_) (fun hlt=>?_)
 ·
  obtain ⟨x,hx⟩:∃x,L[i]?=some x:=⟨_,zD hlt⟩;obtain ⟨g,off,cur,T,zz,rfl,hm9,hsz9,hex9⟩:=hg i x hx;refine AJ<|Zx<|Zq<|AO<|Zq<|Zg<|Zm Y<|Za Y<|Z0<|Zx<|Zq<|Zg<|Zm Y<|Zm Y<|Zm Y<|Bq (Ai AU4 AU5 Y Y Ao7)<|CW (cs:=[(g,.cells cur T zz)]) (by simp [hm9]) (AA (cs:=#[I4 x.t,I4 x.k,I4 x.v.a,I4 x.v.b,I4 x.v.c]) AX3 AU5 Y Ao7 hex9) V rfl ?_;refine Xr [_] Y call173 Y V (yZ x c hc lo bi bc bl) ?_;refine Z0<|Zx<|AR Y (fun hp=>?_) (fun hp=>?_)
  ·
   refine Zq<|Zg<|Zm Y<|Za Y<|Z0<|Zx<|AC<|Ab<|Zt<|Zt<|Ab<|Zt<|AL rfl Ai9 Y (by exact ⟨by rw [Sr hx hp hno];unfold QU;rw [Am7 hlt],rfl⟩)
  refine AJ<|A9<|Zx<|Zg<|Ya (n:=1) Y Y<|Zm Y<|Z0<|Zn [8,0,1,7] ?_;refine Ad (e':=[(8,_)]) (by exact ⟨i+1,rfl,⟨by omega,fun j y hj hy=>by rcases AB1 j i with h9|h9;exact hno j y h9 hy;obtain rfl:j=i:=Ao7;rw [hx]at hy;injection hy with hy;rw [<-hy];exact hp⟩,rfl,rfl⟩)
 have hfn:CP (gtV c lo) L=L.length:=NQ (fun j y hy=>hno j y (by have:=(zF.1 hy).1;omega) hy);refine BG<|Zt<|Zt<|AX<|Zx<|Zq<|Zg<|Za Y<|Z0<|Zx<|AC<|AL rfl Ai9 Y (by exact ⟨by rw [hfn];unfold QU;rw [Am6 Ao7],rfl⟩)
theorem xQ{vr ve:Value}(hv:Dh M vr L)(hn:L.length<=1000000)(c:Nat)(hc:c<=3)(lo:Int)(bo bc bl:Nat):BJ Tryz.prog 171 #[.func (.func 175) #[] #[I5 bl],I5 bo,I5 bc] [[(bo,.cells #[vr,ve] 262 (0,0))],[(bc,.cells #[I4 (c:Int)] 3 (0,0))],[(bl,.cells #[I4 lo] 3 (0,0))],M] (I4 ((CP (gtV c lo) L:Nat):Int)):=by
 have hml:=mL;obtain ⟨p,cap,rfl,hl,hg⟩:=id hv;have hfl:=GX (gtV c lo) L
 refine Se func171 ntmps171 [0,1,2] ?_;intro u R;refine Zq<|Zg<|Ze (Bx #[_]) ?_;rintro _ _ ⟨bi,rfl,rfl⟩;refine Za Y<|Z0<|Zx<|Zq<|Zg<|Zh 0 AY7 V rfl AW8 Y<|Zl Ab2 Y ?_;refine Zv (Bb (vs:=[]) (us:=[_,_]) Y Y)<|Xr [_,_] Y call172 Y V (ym hv hn c hc lo bi bc bl) ?_;refine Za Y<|Z0<|Zx<|Zq<|Zq<|Zg<|Zm Y<|Zv (Dq Y Y)<|Z0<|Zx<|Aw Y (fun hneg=>?_) (fun hneg=>?_)
 ·
  have hge:CP (gtV c lo) L=L.length:=by
   rcases AB1 (CP (gtV c lo) L) L.length with h9|h9
   · unfold QU at hneg;rw [Am7 h9]at hneg;omega
   · omega
  refine Zq<|Zg<|Zh 0 AY7 V rfl AW8 Y<|Zl Ab2 Y ?_;refine Zv (Aa AU4 Y)<|Za Y<|Z0<|Zn [4] ?_;refine Zx<|AC<|Zt<|AL rfl results171 Y (by exact ⟨by rw [hge],rfl⟩)
 have hlt:CP (gtV c lo) L<L.length:=by
  rcases AB1 (CP (gtV c lo) L) L.length with h9|h9
  · exact h9
  · unfold QU at hneg;rw [Am6 Ao7]at hneg;omega
 refine AJ<|Zx<|Zq<|Zg<|Zm Y<|Za Y<|Z0<|Zx<|AC<|AL rfl results171 Y (by exact ⟨by unfold QU;rw [Am7 hlt],rfl⟩)
theorem QD(t c:Int):BJ Tryz.prog 169 #[I4 t,I4 c] [] (.bool (decide ((0<=t/\t<4)/\0<=c/\c<4))):=by
 refine Se func169 ntmps169 [0,1] ?_;intro u R;refine Zq<|Zg<|Za Y<|Z0<|Zx<|Zq<|Zg<|Zm Y<|Zv (Iq Y Y)<|Zm Y<|Ak (t:=7) Y V (fun h1=>?_) (fun h1=>?_)
 ·
  refine Zf Y Y<|Yg (Dq Y Y)<|Zv (AZ Y Y)<|Zm Y<|Ak (t:=11) Y V (fun h2=>?_) (fun h2=>?_)
  ·
   refine Zf Y Y<|Yg (Iq Y Y)<|Zv (AZ Y Y)<|Zm Y<|Ak (t:=15) Y V (fun h3=>?_) (fun h3=>?_)
   ·
    refine Zf Y Y<|Yg (Dq Y Y)<|Zv (AZ Y Y)<|Za Y<|Z0<|Zn [4] ?_;refine Zx<|AC<|AL V results169 Y (by exact ⟨by exact congrArg Value.bool (decide_eq_decide.2 Ao7),V⟩)
   refine A7 Y V<|A7 Y V<|Zv (AU Y Y)<|Za Y<|Z0<|Zn [4] ?_;refine Zx<|AC<|AL V results169 Y (by exact ⟨by exact congrArg Value.bool (Am5 Ao7).symm,V⟩)
  refine A7 Y V<|A7 Y V<|Zv (AU Y Y)<|Zm Y<|A7 Y V<|A7 Y V<|Zv (AU Y Y)<|Za Y<|Z0<|Zn [4] ?_;refine Zx<|AC<|AL V results169 Y (by exact ⟨by exact congrArg Value.bool (Am5 Ao7).symm,V⟩)
 refine A7 Y V<|A7 Y V<|Zv (AU Y Y)<|Zm Y<|A7 Y V<|A7 Y V<|Zv (AU Y Y)<|Zm Y<|A7 Y V<|A7 Y V<|Zv (AU Y Y)<|Za Y<|Z0<|Zn [4] ?_;refine Zx<|AC<|AL V results169 Y (by exact ⟨by exact congrArg Value.bool (Am5 Ao7).symm,V⟩)
structure RP where
 tb:Int
 cl:Int
 lo:Int
 hi:Int
 ct:Int
 fi:Int
 rows:List AQ
 paths:List (List Bs)
 roots:List Bs
deriving DecidableEq
def Bj(L:List AQ)(c:Nat)(lo:Int):Nat:=CP (geV c lo) L -1
def toT(L:List AQ)(c:Nat)(hi:Int):Nat:=min (CP (gtV c hi) L+1) L.length
def Io(L:List AQ)(f k:Nat):List (List Bs):=(List.range k).map fun j=>Ex (NS L) (f+j)
def ES(rs:List AQ)(t c:Nat)(lo hi:Int):RP:=
 ⟨t,c,lo,hi,(BC rs (t:Int) c).length,(Bj (BC rs (t:Int) c) c lo:Nat),((BC rs (t:Int) c).drop (Bj (BC rs (t:Int) c) c lo)).take (toT (BC rs (t:Int) c) c hi -Bj (BC rs (t:Int) c) c lo),
   Io (BC rs (t:Int) c) (Bj (BC rs (t:Int) c) c lo) (toT (BC rs (t:Int) c) c hi -Bj (BC rs (t:Int) c) c lo),ZT rs⟩
def Jc(M:List A8)(pvs:List Value)(ps:List (List Bs)):Prop:=pvs.length=ps.length/\∀(i:Nat) (v:Value) (l:List Bs),pvs[i]?=some v->ps[i]?=some l->E9 M v l
theorem PQ(M:List A8):Jc M [] []:=⟨rfl,by intro i v l h;simp at h⟩
theorem Jc.snoc{M':List A8}{pvs:List Value}{ps:List (List Bs)}(h:Jc M pvs ps){l:List Bs}(hv:E9 M' v l)(hm:∀c∈M,c∈M'):Jc M' (pvs++[v]) (ps++[l]):=by
 obtain ⟨h1,h2⟩:=h;refine ⟨by rw [zG,zG,h1];rfl,?_⟩;intro i w k hi hk;rcases AB1 i pvs.length with h9|h9
 · rw [AE6 h9]at hi
   rw [AE6 Ao7]at hk;exact (h2 i w k hi hk).mono hm
 · rw [AC1 h9]at hi
   rw [AC1 Ao7]at hk;rw [h1]at hi;cases h:i -ps.length with
   |zero=>rw [h]at hi hk;simp at hi hk;rw [<-hi,<-hk];exact hv
   |succ n=>rw [h]at hi;simp at hi
theorem Q4(L:List AQ)(f k:Nat):Io L f (k+1)=Io L f k++[Ex (NS L) (f+k)]:=by unfold Io;rw [AO6,zK];rfl
theorem aa(L:List AQ)(f k:Nat):(Io L f k).length=k:=by unfold Io;rw [zH,AJ4]
theorem eP{e:TypeId}{n:Nat}{xs:List Value}{s:List A8}(h:BZ 1 e v n xs s):n<=maxLen:=by
 obtain ⟨_,⟨_,h0,_⟩|⟨_,_,_,_,_,_,h1,h2,_⟩⟩:=h
 · omega
 · omega
theorem X3(rs:List AQ):(ZT rs).length=16:=by unfold ZT;rw [zH];rfl
set_option maxHeartbeats 4000000 in
theorem aS(v:Value)(p:Int)(rs:List AQ)(s:List A8)(hv:Qa v p rs s)(hs:BM rs)(hn:rs.length<=2000)(hok:∀r∈rs,r.ok)(t c:Nat)(ht:t<=3)(hc:c<=3)(lo hi:Int)(hlh:lo<=hi)(Tg:TypeId)(zg:Nat×Nat):
 BR Tryz.prog 103 #[v,I4 (t:Int),I4 (c:Int),I4 lo,I4 hi] [[(4,.cells (EW.map Ch).toArray Tg zg)],s] (fun r H'=>∃vr vp vt sr2 sp pvs mp so,r= .tuple #[.agg #[I4 (t:Int),I4 (c:Int),I4 lo,I4 hi,I4 (((BC rs (t:Int) c).length:Nat):Int),I4 (((Bj (BC rs (t:Int) c) c lo):Nat):Int),vr,vp,vt],I4 0]/\BZ 5 83 vr (((BC rs (t:Int) c).drop (Bj (BC rs (t:Int) c) c lo)).take ((toT (BC rs (t:Int) c) c hi) -(Bj (BC rs (t:Int) c) c lo))).length (Ac (((BC rs (t:Int) c).drop (Bj (BC rs (t:Int) c) c lo)).take ((toT (BC rs (t:Int) c) c hi) -(Bj (BC rs (t:Int) c) c lo)))) sr2/\BZ 1 45 vp ((toT (BC rs (t:Int) c) c hi) -(Bj (BC rs (t:Int) c) c lo)) pvs sp/\Jc mp pvs (Io (BC rs (t:Int) c) (Bj (BC rs (t:Int) c) c lo) ((toT (BC rs (t:Int) c) c hi) -(Bj (BC rs (t:Int) c) c lo)))/\BZ 1 9 vt 16 ((ZT rs).map Fh) so/\H'=[sr2,sp,mp,so,[(4,.cells (EW.map Ch).toArray Tg zg)],s]):=by
 have hml:=mL;obtain ⟨sp9,mb9,es9,ck9,lm9,rfl,hst9⟩:=id hv;have hll:=Iu hs (t:Int) c
 have hf1:=GX (geV c lo) (BC rs (t:Int) c);have hf2:=GX (gtV c hi) (BC rs (t:Int) c)
 have hfr:(Bj (BC rs (t:Int) c) c lo)=CP (geV c lo) (BC rs (t:Int) c) -1:=rfl;have hto:(toT (BC rs (t:Int) c) c hi)=min (CP (gtV c hi) (BC rs (t:Int) c)+1) (BC rs (t:Int) c).length:=rfl
 refine Se func103 ntmps103 [0,1,2,3,4] ?_;intro u R;refine Zq<|Zg<|Ze (Bx #[_]) ?_;rintro _ _ ⟨bc,rfl,rfl⟩;refine Ze (Bx #[_]) ?_;rintro _ _ ⟨bl,rfl,rfl⟩;refine Ze (Bx #[_]) ?_;rintro _ _ ⟨bh,rfl,rfl⟩;refine Ze (Al Af3 #[_,_,_,_,_,_,_,_,_]) ?_;rintro _ _ ⟨qb,rfl,rfl⟩;refine Za Y<|Z0<|Zx<|Zq<|AO<|Zq<|Zg<|Zm Y<|Zv (BU Aj9 Y Y)<|Za Y<|Z0<|Zx<|AR Y (fun h1=>?_) (fun h1=>?_)
 ·
  cases h1
 refine Zq<|Zg<|Zm Y<|Zl AU2 Y ?_;refine Xr [_,_] Y call169 Y V (QD (t:Int) (c:Int)) ?_;rw [Am8 (show((0<=(t:Int)/\(t:Int)<4)/\0<=(c:Int)/\(c:Int)<4) by omega)];refine Zv (Br Y)<|Zm Y<|Aj (t:=29) Y V (fun h2=>?_) (fun h2=>?_)
 ·
  cases h2
 refine Yl AU2 Y ?_;refine Yl AU2 Y ?_;refine Yg (FI Y Y)<|Zv (AU Y Y)<|Za Y<|Z0<|Zn [0,1,7,8,9,10,24] ?_;refine Zx<|Aw Y (fun h3=>?_) (fun h3=>?_)
 ·
  exfalso;omega
 refine AJ<|A9<|Zx<|Zq<|Zg<|Zm Y<|Zm Y<|Zl AU2 Y ?_;refine Zc [_,_,_] Y call170 Y V (Rz _ p rs s hv hs hn hok (t:Int) c hc) ?_;rintro _ _ ⟨_,⟨vr,ve,sr,se,rfl,hO,rfl⟩,rfl⟩;obtain ⟨qr,cr,rfl⟩:=hO.1.form;obtain ⟨qe,ce,rfl⟩:=hO.2.form;have hRU:=D7 hO.1 Ao7
 have hSU:E9 se (.slice qe (BC rs (t:Int) c).length ce) (NS (BC rs (t:Int) c)):=GD (BO hO.2 (Fu _).symm rfl) (by rw [Fu];omega);obtain ⟨p9,cap9,e9,hol,hg⟩:=id hRU;injection e9 with e91 e92 e93
 subst e91 e93;refine Ze (Al Ai5 #[_,_]) ?_;rintro _ _ ⟨ob,rfl,rfl⟩;refine Xe (Xw Al3 #[.slice qr (BC rs (t:Int) c).length cr,.slice qe (BC rs (t:Int) c).length ce]) ?_;refine Z0<|Zx<|Zq<|Zg<|Zv (Bb (vs:=[]) (us:=[_,_]) Y Y)<|Za Y<|Z0<|Zx<|Zq<|Zg<|Zm Y<|Zv (Bb (vs:=[]) (us:=[_]) Y Y)<|Xr [_] Y call171 Y V (xR hRU Ao7 c hc lo ob bc bl) ?_
 (refine Bq (Hz Y Y (IntWalk.i64_in _ ?_)) ?_;(focus (omega)))
 refine Zv (az Y Y)<|Za Y<|Z0<|Zn [0,1,7,8,9,10,12,13,14] ?_;refine Zx<|Zq<|Az (n:=9) (0::0::3::7::0::16::48::127::255::[]) 4 Ao8 Ao8 V<|An9 0 V (AP Y)<|An9 1 V (Bb (vs:=[]) (us:=[_]) Y Y)<|An9 4 V (AB (off:=0) AY7 V rfl AW8 Y)<|Ao0 5 V Ab2 Y ?_;refine An9 6 V (Aa AU4 Y)<|Zz (l:=[2])<|Ao5 [true] [(5,(_,_))] V rfl (Zu [_] Y call171 Y V (xQ hRU Ao7 c hc hi ob bc bh)) ?hk_1 (fun _ _ h=>h.elim) ?hl_1
 case hk_1=>
  rintro _ _ ⟨rfl,rfl⟩;refine ⟨Zk (AV),?_⟩;refine An9 3 V (Ei (n:=1) Y Y Ao7)<|An9 7 V (PU Y Y)<|An9 8 V (Aq Y)<|Ag<|Zx<|Zq<|Az (n:=13) (0::0::0::0::0::16::48::0::0::256::1023::0::4095::[]) 6656 Ao8 Ao8 V<|An9 0 V (AP Y)<|Ao0 1 V AU2 Y ?_;refine Ao0 2 V AU2 Y ?_;refine Ao0 3 V AU2 Y ?_;refine An9 4 V (AB (off:=0) AY7 V rfl AW8 Y)<|Ao0 5 V Ab2 Y ?_;refine An9 6 V (Aa AU4 Y)<|An9 7 V (AP Y)<|An9 8 V (AP Y)<|Zz (l:=[9,11])<|Ao5 [true,true,true,true] [(5,(_,_)),(3,(_,_)),(2,(_,_)),(1,(_,_))] V rfl (Zw [_] Y call176 Y V (U9 _ p rs s hv hs hn hok Tg zg)) ?hk_2 Bp ?hl_2
  case hk_2=>
   rintro _ _ ⟨_,⟨so,hso,rfl⟩,rfl⟩;refine ⟨Zk (Zk (Zk (Zk (AV)))),?_⟩;obtain ⟨qt,ct,rfl⟩:=hso.form;refine An9 10 V (BL (vs:=[(0,I4 (t:Int)),(1,I4 (c:Int)),(2,I4 lo),(3,I4 hi),(4,I4 (((BC rs (t:Int) c).length:Nat):Int)),(5,I4 (((Bj (BC rs (t:Int) c) c lo):Nat):Int)),(8,.slice qt 16 ct)]) (cs:=#[I4 (t:Int),I4 (c:Int),I4 lo,I4 hi,I4 (((BC rs (t:Int) c).length:Nat):Int),I4 (((Bj (BC rs (t:Int) c) c lo):Nat):Int),.slice none 0 0,.slice none 0 0,.slice qt 16 ct]) Y (AY (pl:=#[(0,1),(1,1),(2,1),(3,1),(4,1),(5,1),(6,1),(7,1),(8,1)]) Af3 AU8 (fun _=>by kernel_rfl) Ao8))<|Yz 11 0 4095 [5,3,2,1] [true,true,true,true] [(5,(_,_)),(3,(_,_)),(2,(_,_)),(1,(_,_))] V Y V rfl V rfl (Al Af3 #[_,_,_,_,_,_,_,_,_]) ?_;rintro _ _ ⟨pb,rfl,rfl⟩;refine ⟨Zk (Zk (Zk (Zk (AV)))),?_⟩;refine Yw 12 8191 V (Xw Ab0 #[I4 (t:Int),I4 (c:Int),I4 lo,I4 hi,I4 (((BC rs (t:Int) c).length:Nat):Int),I4 (((Bj (BC rs (t:Int) c) c lo):Nat):Int),.slice none 0 0,.slice none 0 0,.slice qt 16 ct]) ?_;rintro _ _ ⟨rfl,rfl⟩;refine Ag<|Zn [10,12,14,15,16] ?_;refine Zx<|Zq<|Zq<|Zg<|Zm Y<|Za Y<|Z0<|Zx<|AO<|BV<|BV<|BV<|Zb [17,10,12,15,16] ?_;refine BI (e0:=[(17,_)]) (fun m e H=>∃(k:Nat) (vr2:Value) (sr2:List A8) (vp:Value) (sp:List A8) (pvs:List Value) (mp:List A8),m=(toT (BC rs (t:Int) c) c hi) -(Bj (BC rs (t:Int) c) c lo) -k/\(k<=(toT (BC rs (t:Int) c) c hi) -(Bj (BC rs (t:Int) c) c lo)/\BZ 5 83 vr2 k (Ac (((BC rs (t:Int) c).drop (Bj (BC rs (t:Int) c) c lo)).take k)) sr2/\BZ 1 45 vp k pvs sp/\Jc mp pvs (Io (BC rs (t:Int) c) (Bj (BC rs (t:Int) c) c lo) k))/\e=[(17,I4 (((Bj (BC rs (t:Int) c) c lo)+k:Nat):Int))]/\H=[[(pb,.cells #[I4 (t:Int),I4 (c:Int),I4 lo,I4 hi,I4 (((BC rs (t:Int) c).length:Nat):Int),I4 (((Bj (BC rs (t:Int) c) c lo):Nat):Int),vr2,vp,.slice qt 16 ct] 152 (0,0))],sr2,sp,mp]) (by exact ⟨0,.slice none 0 0,[],.slice none 0 0,[],[],[],rfl,⟨zT _,by rw [AC9];exact Bf 5 _,Bf 1 _,PQ _⟩,rfl,rfl⟩) Wp ?_;rintro _ _ _ ⟨k,vr2,sr2,vp,sp,pvs,mp,rfl,⟨hk,hr2,hp2,hP⟩,rfl,rfl⟩;obtain ⟨q2,c2,rfl⟩:=hr2.form
   obtain ⟨q3,c3,rfl⟩:=hp2.form;refine Zq<|Zq<|Zg<|Zm Y<|Zm Y<|Zv (Au Y Y)<|Z0<|Zx<|Aw Y (fun hlt=>?_) (fun hlt=>?_)
   ·
    obtain ⟨x,hx⟩:∃x,(BC rs (t:Int) c)[(Bj (BC rs (t:Int) c) c lo)+k]?=some x:=⟨_,zD Ao7⟩;obtain ⟨g,off,cur,T,zz,rfl,hm9,hsz9,hex9⟩:=hg _ x hx;have hx2:((BC rs (t:Int) c).drop (Bj (BC rs (t:Int) c) c lo))[k]?=some x:=by rw [AE1];exact hx
    refine AJ<|Zx<|Zq<|AO<|Zq<|Zg<|Zh 1 AY7 V rfl Aa1 Y<|Zl Ae3 Y ?_;refine Zm Y<|Zc [_,_] Y call177 Y rfl (Re hSU (by rw [Fu];omega) (fun s h=>by have:=WC (fun r hr=>hok r (Ls hr)) s h;omega) ((Bj (BC rs (t:Int) c) c lo)+k) (by rw [Fu];omega) Tg zg) ?_;rintro _ _ ⟨_,⟨vpath,spath,rfl,hpath,rfl⟩,rfl⟩;have hplen:(Ex (NS (BC rs (t:Int) c)) ((Bj (BC rs (t:Int) c) c lo)+k)).length<=maxLen:=eP hpath
    have hPU:=GD hpath hplen;have hP2:=Q4 (BC rs (t:Int) c) (Bj (BC rs (t:Int) c) c lo) k▸hP.snoc (hPU.mono (fun c h=>zR mp h)) (fun c h=>zZ spath h)
    obtain ⟨qx,cx,rfl⟩:=hpath.form;refine Zm Y<|Zd Y V<|Zd Y V<|Za Y<|Za Y<|Z0<|Zx<|C8 (s1:=spath) (s2:=mp) Wo Wo ?_;refine Az (n:=18) (0::1::0::4::0::28::60::124::255::0::512::0::2048::8191::2047::32767::65535::131071::[]) 176512 Ao8 Ao8 V<|An9 0 V (AB (off:=6) AU8 V rfl AW8 Y)<|Ao0 1 V Ab2 Y ?_;refine An9 2 V (AB (off:=0) AY7 V rfl AW8 Y)<|Ao0 3 V Ab2 Y ?_;refine An9 4 V (AP Y)<|An9 5 V (Ai AU4 AU5 Y Y Ao7)<|Cw (b:=g) (x:= .cells cur T zz) (D':=127) 6 V rfl V (by simp [hm9]) (AA (cs:=#[I4 x.t,I4 x.k,I4 x.v.a,I4 x.v.b,I4 x.v.c]) AX3 AU5 Y Ao7 hex9) ?_;refine An9 9 V (AB (off:=7) AU8 V rfl Aa7 Y)<|Ao0 10 V isAgg150 Y ?_;refine An9 11 V (AP Y)<|Zz (l:=[7,12])<|Ao5 [true,false,false,true] [(10,(_,_)),(1,(_,_))] V rfl (Af (vs:=[_]) (cs:=[_,_,_,_,_]) AU4 AU5 AW7 Y V rfl V rfl V) ?hk_6 (fun _ _ h=>h.elim) ?hl_6
    case hk_6=>
     rintro _ _ ⟨gb1,rfl,rfl⟩;refine ⟨Zk (Zk (AV)),?_⟩;refine Zz (l:=[8,12])<|Ao5 [true,false] [(10,(_,_))] V rfl (Bl (by_:=40) (sz:=5) AU4 (V:Tryz.prog.info? 83=some Tryz.t83) V rfl V rfl Y (hr2) Y (DD 5 gb1 1 1 83 (0,0) [I4 x.t,I4 x.k,I4 x.v.a,I4 x.v.b,I4 x.v.c] V) Wo Wo Ap5 Ao7 Ao7) ?hk_7 (fun _ _ h=>h.elim) ?hl_7
     case hk_7=>
      rintro _ _ ⟨sa9,hra9,rfl⟩;refine ⟨Zk (AV),?_⟩;obtain ⟨ga9,ca9,rfl⟩:=hra9.form;refine An9 14 V (AB (off:=6) AU8 V rfl AW8 Y)<|Zz (l:=[12])<|Ao5 [true] [(10,(_,_))] V rfl (Af (vs:=[_]) (cs:=[_]) AY3 Aa1 Ad6 Y V rfl V rfl V) ?hk_8 (fun _ _ h=>h.elim) ?hl_8
      case hk_8=>
       rintro _ _ ⟨gb2,rfl,rfl⟩;refine ⟨Zk (AV),?_⟩;refine Yw 13 32767 V (Db (by_:=24) (sz:=1) (news:=[_]) AY3 (V:Tryz.prog.info? 45=some Tryz.t45) V rfl V rfl Y hp2 Y Wo Wh Ap1 V Ap6 Ao9 Ao7 Ao7) ?_;rintro _ _ ⟨sw7,hrw7,rfl⟩;obtain ⟨gw7,cw7,rfl⟩:=hrw7.form;refine Yw 15 65535 V (Zs AW8 Y Y V (hc:=by exact (V:_=(#[I4 (t:Int),I4 (c:Int),I4 lo,I4 hi,I4 (((BC rs (t:Int) c).length:Nat):Int),I4 (((Bj (BC rs (t:Int) c) c lo):Nat):Int),_,_,.slice qt 16 ct]:Array Value))) (hi:=by(simp;done))) ?_;rintro _ _ ⟨rfl,rfl⟩;refine An9 16 V (AB (off:=7) AU8 V rfl Aa7 Y)<|Zz (l:=[17])<|Ao5 [] [] V rfl (Zs Aa7 Y Y V (hc:=by exact (V:_=(#[I4 (t:Int),I4 (c:Int),I4 lo,I4 hi,I4 (((BC rs (t:Int) c).length:Nat):Int),I4 (((Bj (BC rs (t:Int) c) c lo):Nat):Int),_,_,.slice qt 16 ct]:Array Value))) (hi:=by(simp;done))) ?hk_11 (fun _ _ h=>h.elim) ?hl_11
       case hk_11=>
        rintro _ _ ⟨rfl,rfl⟩;refine ⟨AV,?_⟩;refine Ag<|Zn [10,12,15,16,17] ?_;refine A9<|Zx<|Zg<|Zm Y<|Ya (n:=1) Y Y<|Za Y<|Z0<|Zn [17,10,12,15,16] ?_;refine Ad (e':=[(17,_)]) (by exact ⟨k+1,_,_,_,_,pvs++[_],spath++mp,rfl,⟨by omega,BO hra9 rfl (by rw [Bc hx2,C9];rfl),BO hrw7 rfl rfl,hP2⟩,rfl,rfl⟩)
       exact Ae
      exact Ae
     refine Ao5 [true,true] [(10,(_,_)),(1,(_,_))] V rfl (Af (vs:=[_]) (cs:=[_]) AY3 Aa1 Ad6 Y V rfl V rfl V) ?hk_13 (fun _ _ h=>h.elim) ?hl_13
     case hk_13=>
      rintro _ _ ⟨gb2,rfl,rfl⟩;refine ⟨Zk (Zk (AV)),?_⟩;refine Yz 8 255 8191 [10,1] [true,false] [(10,(_,_))] V Y V rfl V rfl (Bl (by_:=40) (sz:=5) AU4 (V:Tryz.prog.info? 83=some Tryz.t83) V rfl V rfl Y (hr2) Y (DD 5 gb1 1 1 83 (0,0) [I4 x.t,I4 x.k,I4 x.v.a,I4 x.v.b,I4 x.v.c] V) Wo Wo Ap5 Ao7 Ao7) ?_;rintro _ _ ⟨sa9,hra9,rfl⟩;refine ⟨Zk (AV),?_⟩;obtain ⟨ga9,ca9,rfl⟩:=hra9.form;refine An9 14 V (AB (off:=6) AU8 V rfl AW8 Y)<|Zz (l:=[13])<|Ao5 [false] [] V rfl (Db (by_:=24) (sz:=1) (news:=[_]) AY3 (V:Tryz.prog.info? 45=some Tryz.t45) V rfl V rfl Y hp2 Y Wo Wh Ap1 V Ap6 Ao9 Ao7 Ao7) ?hk_15 (fun _ _ h=>h.elim) ?hl_15
      case hk_15=>
       rintro _ _ ⟨sw7,hrw7,rfl⟩;refine ⟨AV,?_⟩;obtain ⟨gw7,cw7,rfl⟩:=hrw7.form;refine Yw 15 65535 V (Zs AW8 Y Y V (hc:=by exact (V:_=(#[I4 (t:Int),I4 (c:Int),I4 lo,I4 hi,I4 (((BC rs (t:Int) c).length:Nat):Int),I4 (((Bj (BC rs (t:Int) c) c lo):Nat):Int),_,_,.slice qt 16 ct]:Array Value))) (hi:=by(simp;done))) ?_;rintro _ _ ⟨rfl,rfl⟩;refine An9 16 V (AB (off:=7) AU8 V rfl Aa7 Y)<|Zz (l:=[17])<|Ao5 [] [] V rfl (Zs Aa7 Y Y V (hc:=by exact (V:_=(#[I4 (t:Int),I4 (c:Int),I4 lo,I4 hi,I4 (((BC rs (t:Int) c).length:Nat):Int),I4 (((Bj (BC rs (t:Int) c) c lo):Nat):Int),_,_,.slice qt 16 ct]:Array Value))) (hi:=by(simp;done))) ?hk_17 (fun _ _ h=>h.elim) ?hl_17
       case hk_17=>
        rintro _ _ ⟨rfl,rfl⟩;refine ⟨AV,?_⟩;refine Ag<|Zn [10,12,15,16,17] ?_;refine A9<|Zx<|Zg<|Zm Y<|Ya (n:=1) Y Y<|Za Y<|Z0<|Zn [17,10,12,15,16] ?_;refine Ad (e':=[(17,_)]) (by exact ⟨k+1,_,_,_,_,pvs++[_],spath++mp,rfl,⟨by omega,BO hra9 rfl (by rw [Bc hx2,C9];rfl),BO hrw7 rfl rfl,hP2⟩,rfl,rfl⟩)
       exact Ae
      exact Ae
     exact Ae
    refine Ao5 [true,true,true,true] [(10,(_,_)),(6,(_,_)),(3,(_,_)),(1,(_,_))] V rfl (Af (vs:=[_]) (cs:=[_]) AY3 Aa1 Ad6 Y V rfl V rfl V) ?hk_19 (fun _ _ h=>h.elim) ?hl_19
    case hk_19=>
     rintro _ _ ⟨gb2,rfl,rfl⟩;refine ⟨Zk (Ez (by simp [*]) (Zk (Zk (AV)))),?_⟩;refine Yz 7 124 7935 [10,6,3,1] [true,false,false,true] [(10,(_,_)),(1,(_,_))] V Y V rfl V rfl (Af (vs:=[_]) (cs:=[_,_,_,_,_]) AU4 AU5 AW7 Y V rfl V rfl V) ?_;rintro _ _ ⟨gb1,rfl,rfl⟩;refine ⟨Zk (Zk (AV)),?_⟩;refine Yz 8 255 8191 [10,1] [true,false] [(10,(_,_))] V Y V rfl V rfl (Bl (by_:=40) (sz:=5) AU4 (V:Tryz.prog.info? 83=some Tryz.t83) V rfl V rfl Y (hr2) Y (DD 5 gb1 1 1 83 (0,0) [I4 x.t,I4 x.k,I4 x.v.a,I4 x.v.b,I4 x.v.c] V) Wo Wo Ap5 Ao7 Ao7) ?_;rintro _ _ ⟨sa9,hra9,rfl⟩;refine ⟨Zk (AV),?_⟩;obtain ⟨ga9,ca9,rfl⟩:=hra9.form;refine An9 14 V (AB (off:=6) AU8 V rfl AW8 Y)<|Zz (l:=[13])<|Ao5 [false] [] V rfl (Db (by_:=24) (sz:=1) (news:=[_]) AY3 (V:Tryz.prog.info? 45=some Tryz.t45) V rfl V rfl Y hp2 Y Wo Wh Ap1 V Ap6 Ao9 Ao7 Ao7) ?hk_22 (fun _ _ h=>h.elim) ?hl_22
     case hk_22=>
      rintro _ _ ⟨sw7,hrw7,rfl⟩;refine ⟨AV,?_⟩;obtain ⟨gw7,cw7,rfl⟩:=hrw7.form;refine Yw 15 65535 V (Zs AW8 Y Y V (hc:=by exact (V:_=(#[I4 (t:Int),I4 (c:Int),I4 lo,I4 hi,I4 (((BC rs (t:Int) c).length:Nat):Int),I4 (((Bj (BC rs (t:Int) c) c lo):Nat):Int),_,_,.slice qt 16 ct]:Array Value))) (hi:=by(simp;done))) ?_;rintro _ _ ⟨rfl,rfl⟩;refine An9 16 V (AB (off:=7) AU8 V rfl Aa7 Y)<|Zz (l:=[17])<|Ao5 [] [] V rfl (Zs Aa7 Y Y V (hc:=by exact (V:_=(#[I4 (t:Int),I4 (c:Int),I4 lo,I4 hi,I4 (((BC rs (t:Int) c).length:Nat):Int),I4 (((Bj (BC rs (t:Int) c) c lo):Nat):Int),_,_,.slice qt 16 ct]:Array Value))) (hi:=by(simp;done))) ?hk_24 (fun _ _ h=>h.elim) ?hl_24
      case hk_24=>
       rintro _ _ ⟨rfl,rfl⟩;refine ⟨AV,?_⟩;refine Ag<|Zn [10,12,15,16,17] ?_;refine A9<|Zx<|Zg<|Zm Y<|Ya (n:=1) Y Y<|Za Y<|Z0<|Zn [17,10,12,15,16] ?_;refine Ad (e':=[(17,_)]) (by exact ⟨k+1,_,_,_,_,pvs++[_],spath++mp,rfl,⟨by omega,BO hra9 rfl (by rw [Bc hx2,C9];rfl),BO hrw7 rfl rfl,hP2⟩,rfl,rfl⟩)
      exact Ae
     exact Ae
    exact Ae
   have ek:k=(toT (BC rs (t:Int) c) c hi) -(Bj (BC rs (t:Int) c) c lo):=by omega
   subst ek;refine BG<|Zt<|Zt<|AX<|Zx<|Zq<|Zg<|Zo Wh (AA (cs:=#[I4 (t:Int),I4 (c:Int),I4 lo,I4 hi,I4 (((BC rs (t:Int) c).length:Nat):Int),I4 (((Bj (BC rs (t:Int) c) c lo):Nat):Int),.slice q2 _ c2,.slice q3 _ c3,.slice qt 16 ct]) Ak1 Ab0 Y (by(simp;done)) Ap1) ?_;refine Xe (Xw Ab0 #[I4 (t:Int),I4 (c:Int),I4 lo,I4 hi,I4 (((BC rs (t:Int) c).length:Nat):Int),I4 (((Bj (BC rs (t:Int) c) c lo):Nat):Int),.slice q2 _ c2,.slice q3 _ c3,.slice qt 16 ct]) ?_;refine Za Y<|Z0<|Zx<|AC<|Bu rfl results103 Y Wh (Ap Ak1 Ab0 Wn (rfl)) Y (by exact ⟨_,_,_,sr2,sp,pvs,mp,so,rfl,BO hr2 (by rw [zN,zO];omega) rfl,hp2,hP,hso,rfl⟩)
  refine Ao5 [true,true,true,true] [(5,(_,_)),(3,(_,_)),(2,(_,_)),(1,(_,_))] V rfl (Al Af3 #[_,_,_,_,_,_,_,_,_]) ?hk_27 (fun _ _ h=>h.elim) ?hl_27
  case hk_27=>
   rintro _ _ ⟨pb,rfl,rfl⟩;refine ⟨Zk (Zk (Zk (Zk (AV)))),?_⟩;refine Zz (l:=[9])<|Ao5 [true,true,true,true] [(5,(_,_)),(3,(_,_)),(2,(_,_)),(1,(_,_))] V rfl (Zw [_] Y call176 Y V (U9 _ p rs s hv hs hn hok Tg zg)) ?hk_28 Bp ?hl_28
   case hk_28=>
    rintro _ _ ⟨_,⟨so,hso,rfl⟩,rfl⟩;refine ⟨Zk (Zk (Zk (Zk (AV)))),?_⟩;obtain ⟨qt,ct,rfl⟩:=hso.form;refine An9 10 V (BL (vs:=[(0,I4 (t:Int)),(1,I4 (c:Int)),(2,I4 lo),(3,I4 hi),(4,I4 (((BC rs (t:Int) c).length:Nat):Int)),(5,I4 (((Bj (BC rs (t:Int) c) c lo):Nat):Int)),(8,.slice qt 16 ct)]) (cs:=#[I4 (t:Int),I4 (c:Int),I4 lo,I4 hi,I4 (((BC rs (t:Int) c).length:Nat):Int),I4 (((Bj (BC rs (t:Int) c) c lo):Nat):Int),.slice none 0 0,.slice none 0 0,.slice qt 16 ct]) Y (AY (pl:=#[(0,1),(1,1),(2,1),(3,1),(4,1),(5,1),(6,1),(7,1),(8,1)]) Af3 AU8 (fun _=>by kernel_rfl) Ao8))<|Yw 12 8191 V (Xw Ab0 #[I4 (t:Int),I4 (c:Int),I4 lo,I4 hi,I4 (((BC rs (t:Int) c).length:Nat):Int),I4 (((Bj (BC rs (t:Int) c) c lo):Nat):Int),.slice none 0 0,.slice none 0 0,.slice qt 16 ct]) ?_;rintro _ _ ⟨rfl,rfl⟩;refine Ag<|Zn [10,12,14,15,16] ?_;refine Zx<|Zq<|Zq<|Zg<|Zm Y<|Za Y<|Z0<|Zx<|AO<|BV<|BV<|BV<|Zb [17,10,12,15,16] ?_;refine BI (e0:=[(17,_)]) (fun m e H=>∃(k:Nat) (vr2:Value) (sr2:List A8) (vp:Value) (sp:List A8) (pvs:List Value) (mp:List A8),m=(toT (BC rs (t:Int) c) c hi) -(Bj (BC rs (t:Int) c) c lo) -k/\(k<=(toT (BC rs (t:Int) c) c hi) -(Bj (BC rs (t:Int) c) c lo)/\BZ 5 83 vr2 k (Ac (((BC rs (t:Int) c).drop (Bj (BC rs (t:Int) c) c lo)).take k)) sr2/\BZ 1 45 vp k pvs sp/\Jc mp pvs (Io (BC rs (t:Int) c) (Bj (BC rs (t:Int) c) c lo) k))/\e=[(17,I4 (((Bj (BC rs (t:Int) c) c lo)+k:Nat):Int))]/\H=[[(pb,.cells #[I4 (t:Int),I4 (c:Int),I4 lo,I4 hi,I4 (((BC rs (t:Int) c).length:Nat):Int),I4 (((Bj (BC rs (t:Int) c) c lo):Nat):Int),vr2,vp,.slice qt 16 ct] 152 (0,0))],sr2,sp,mp]) (by exact ⟨0,.slice none 0 0,[],.slice none 0 0,[],[],[],rfl,⟨zT _,by rw [AC9];exact Bf 5 _,Bf 1 _,PQ _⟩,rfl,rfl⟩) Wp ?_;rintro _ _ _ ⟨k,vr2,sr2,vp,sp,pvs,mp,rfl,⟨hk,hr2,hp2,hP⟩,rfl,rfl⟩;obtain ⟨q2,c2,rfl⟩:=hr2.form;obtain ⟨q3,c3,rfl⟩:=hp2.form;refine Zq<|Zq<|Zg<|Zm Y<|Zm Y<|Zv (Au Y Y)<|Z0<|Zx<|Aw Y (fun hlt=>?_) (fun hlt=>?_)
    ·
     obtain ⟨x,hx⟩:∃x,(BC rs (t:Int) c)[(Bj (BC rs (t:Int) c) c lo)+k]?=some x:=⟨_,zD Ao7⟩;obtain ⟨g,off,cur,T,zz,rfl,hm9,hsz9,hex9⟩:=hg _ x hx;have hx2:((BC rs (t:Int) c).drop (Bj (BC rs (t:Int) c) c lo))[k]?=some x:=by rw [AE1];exact hx
     refine AJ<|Zx<|Zq<|AO<|Zq<|Zg<|Zh 1 AY7 V rfl Aa1 Y<|Zl Ae3 Y ?_;refine Zm Y<|Zc [_,_] Y call177 Y rfl (Re hSU (by rw [Fu];omega) (fun s h=>by have:=WC (fun r hr=>hok r (Ls hr)) s h;omega) ((Bj (BC rs (t:Int) c) c lo)+k) (by rw [Fu];omega) Tg zg) ?_;rintro _ _ ⟨_,⟨vpath,spath,rfl,hpath,rfl⟩,rfl⟩;have hplen:(Ex (NS (BC rs (t:Int) c)) ((Bj (BC rs (t:Int) c) c lo)+k)).length<=maxLen:=eP hpath
     have hPU:=GD hpath hplen;have hP2:=Q4 (BC rs (t:Int) c) (Bj (BC rs (t:Int) c) c lo) k▸hP.snoc (hPU.mono (fun c h=>zR mp h)) (fun c h=>zZ spath h)
     obtain ⟨qx,cx,rfl⟩:=hpath.form;refine Zm Y<|Zd Y V<|Zd Y V<|Za Y<|Za Y<|Z0<|Zx<|C8 (s1:=spath) (s2:=mp) Wo Wo ?_;refine Az (n:=18) (0::1::0::4::0::28::60::124::255::0::512::0::2048::8191::2047::32767::65535::131071::[]) 176512 Ao8 Ao8 V<|An9 0 V (AB (off:=6) AU8 V rfl AW8 Y)<|Ao0 1 V Ab2 Y ?_;refine An9 2 V (AB (off:=0) AY7 V rfl AW8 Y)<|Ao0 3 V Ab2 Y ?_;refine An9 4 V (AP Y)<|An9 5 V (Ai AU4 AU5 Y Y Ao7)<|Cw (b:=g) (x:= .cells cur T zz) (D':=127) 6 V rfl V (by simp [hm9]) (AA (cs:=#[I4 x.t,I4 x.k,I4 x.v.a,I4 x.v.b,I4 x.v.c]) AX3 AU5 Y Ao7 hex9) ?_;refine An9 9 V (AB (off:=7) AU8 V rfl Aa7 Y)<|Ao0 10 V isAgg150 Y ?_;refine An9 11 V (AP Y)<|Zz (l:=[7,12])<|Ao5 [true,false,false,true] [(10,(_,_)),(1,(_,_))] V rfl (Af (vs:=[_]) (cs:=[_,_,_,_,_]) AU4 AU5 AW7 Y V rfl V rfl V) ?hk_31 (fun _ _ h=>h.elim) ?hl_31
     case hk_31=>
      rintro _ _ ⟨gb1,rfl,rfl⟩;refine ⟨Zk (Zk (AV)),?_⟩;refine Zz (l:=[8,12])<|Ao5 [true,false] [(10,(_,_))] V rfl (Bl (by_:=40) (sz:=5) AU4 (V:Tryz.prog.info? 83=some Tryz.t83) V rfl V rfl Y (hr2) Y (DD 5 gb1 1 1 83 (0,0) [I4 x.t,I4 x.k,I4 x.v.a,I4 x.v.b,I4 x.v.c] V) Wo Wo Ap5 Ao7 Ao7) ?hk_32 (fun _ _ h=>h.elim) ?hl_32
      case hk_32=>
       rintro _ _ ⟨sa9,hra9,rfl⟩;refine ⟨Zk (AV),?_⟩;obtain ⟨ga9,ca9,rfl⟩:=hra9.form;refine An9 14 V (AB (off:=6) AU8 V rfl AW8 Y)<|Zz (l:=[12])<|Ao5 [true] [(10,(_,_))] V rfl (Af (vs:=[_]) (cs:=[_]) AY3 Aa1 Ad6 Y V rfl V rfl V) ?hk_33 (fun _ _ h=>h.elim) ?hl_33
       case hk_33=>
        rintro _ _ ⟨gb2,rfl,rfl⟩;refine ⟨Zk (AV),?_⟩;refine Yw 13 32767 V (Db (by_:=24) (sz:=1) (news:=[_]) AY3 (V:Tryz.prog.info? 45=some Tryz.t45) V rfl V rfl Y hp2 Y Wo Wh Ap1 V Ap6 Ao9 Ao7 Ao7) ?_;rintro _ _ ⟨sw7,hrw7,rfl⟩;obtain ⟨gw7,cw7,rfl⟩:=hrw7.form;refine Yw 15 65535 V (Zs AW8 Y Y V (hc:=by exact (V:_=(#[I4 (t:Int),I4 (c:Int),I4 lo,I4 hi,I4 (((BC rs (t:Int) c).length:Nat):Int),I4 (((Bj (BC rs (t:Int) c) c lo):Nat):Int),_,_,.slice qt 16 ct]:Array Value))) (hi:=by(simp;done))) ?_;rintro _ _ ⟨rfl,rfl⟩;refine An9 16 V (AB (off:=7) AU8 V rfl Aa7 Y)<|Zz (l:=[17])<|Ao5 [] [] V rfl (Zs Aa7 Y Y V (hc:=by exact (V:_=(#[I4 (t:Int),I4 (c:Int),I4 lo,I4 hi,I4 (((BC rs (t:Int) c).length:Nat):Int),I4 (((Bj (BC rs (t:Int) c) c lo):Nat):Int),_,_,.slice qt 16 ct]:Array Value))) (hi:=by(simp;done))) ?hk_36 (fun _ _ h=>h.elim) ?hl_36
        case hk_36=>
         rintro _ _ ⟨rfl,rfl⟩;refine ⟨AV,?_⟩;refine Ag<|Zn [10,12,15,16,17] ?_;refine A9<|Zx<|Zg<|Zm Y<|Ya (n:=1) Y Y<|Za Y<|Z0<|Zn [17,10,12,15,16] ?_;refine Ad (e':=[(17,_)]) (by exact ⟨k+1,_,_,_,_,pvs++[_],spath++mp,rfl,⟨by omega,BO hra9 rfl (by rw [Bc hx2,C9];rfl),BO hrw7 rfl rfl,hP2⟩,rfl,rfl⟩)
        exact Ae
       exact Ae
      refine Ao5 [true,true] [(10,(_,_)),(1,(_,_))] V rfl (Af (vs:=[_]) (cs:=[_]) AY3 Aa1 Ad6 Y V rfl V rfl V) ?hk_38 (fun _ _ h=>h.elim) ?hl_38
      case hk_38=>
       rintro _ _ ⟨gb2,rfl,rfl⟩;refine ⟨Zk (Zk (AV)),?_⟩;refine Yz 8 255 8191 [10,1] [true,false] [(10,(_,_))] V Y V rfl V rfl (Bl (by_:=40) (sz:=5) AU4 (V:Tryz.prog.info? 83=some Tryz.t83) V rfl V rfl Y (hr2) Y (DD 5 gb1 1 1 83 (0,0) [I4 x.t,I4 x.k,I4 x.v.a,I4 x.v.b,I4 x.v.c] V) Wo Wo Ap5 Ao7 Ao7) ?_;rintro _ _ ⟨sa9,hra9,rfl⟩;refine ⟨Zk (AV),?_⟩;obtain ⟨ga9,ca9,rfl⟩:=hra9.form;refine An9 14 V (AB (off:=6) AU8 V rfl AW8 Y)<|Zz (l:=[13])<|Ao5 [false] [] V rfl (Db (by_:=24) (sz:=1) (news:=[_]) AY3 (V:Tryz.prog.info? 45=some Tryz.t45) V rfl V rfl Y hp2 Y Wo Wh Ap1 V Ap6 Ao9 Ao7 Ao7) ?hk_40 (fun _ _ h=>h.elim) ?hl_40
       case hk_40=>
        rintro _ _ ⟨sw7,hrw7,rfl⟩;refine ⟨AV,?_⟩;obtain ⟨gw7,cw7,rfl⟩:=hrw7.form;refine Yw 15 65535 V (Zs AW8 Y Y V (hc:=by exact (V:_=(#[I4 (t:Int),I4 (c:Int),I4 lo,I4 hi,I4 (((BC rs (t:Int) c).length:Nat):Int),I4 (((Bj (BC rs (t:Int) c) c lo):Nat):Int),_,_,.slice qt 16 ct]:Array Value))) (hi:=by(simp;done))) ?_;rintro _ _ ⟨rfl,rfl⟩;refine An9 16 V (AB (off:=7) AU8 V rfl Aa7 Y)<|Zz (l:=[17])<|Ao5 [] [] V rfl (Zs Aa7 Y Y V (hc:=by exact (V:_=(#[I4 (t:Int),I4 (c:Int),I4 lo,I4 hi,I4 (((BC rs (t:Int) c).length:Nat):Int),I4 (((Bj (BC rs (t:Int) c) c lo):Nat):Int),_,_,.slice qt 16 ct]:Array Value))) (hi:=by(simp;done))) ?hk_42 (fun _ _ h=>h.elim) ?hl_42
        case hk_42=>
         rintro _ _ ⟨rfl,rfl⟩;refine ⟨AV,?_⟩;refine Ag<|Zn [10,12,15,16,17] ?_;refine A9<|Zx<|Zg<|Zm Y<|Ya (n:=1) Y Y<|Za Y<|Z0<|Zn [17,10,12,15,16] ?_;refine Ad (e':=[(17,_)]) (by exact ⟨k+1,_,_,_,_,pvs++[_],spath++mp,rfl,⟨by omega,BO hra9 rfl (by rw [Bc hx2,C9];rfl),BO hrw7 rfl rfl,hP2⟩,rfl,rfl⟩)
        exact Ae
       exact Ae
      exact Ae
     refine Ao5 [true,true,true,true] [(10,(_,_)),(6,(_,_)),(3,(_,_)),(1,(_,_))] V rfl (Af (vs:=[_]) (cs:=[_]) AY3 Aa1 Ad6 Y V rfl V rfl V) ?hk_44 (fun _ _ h=>h.elim) ?hl_44
     case hk_44=>
      rintro _ _ ⟨gb2,rfl,rfl⟩;refine ⟨Zk (Ez (by simp [*]) (Zk (Zk (AV)))),?_⟩;refine Yz 7 124 7935 [10,6,3,1] [true,false,false,true] [(10,(_,_)),(1,(_,_))] V Y V rfl V rfl (Af (vs:=[_]) (cs:=[_,_,_,_,_]) AU4 AU5 AW7 Y V rfl V rfl V) ?_;rintro _ _ ⟨gb1,rfl,rfl⟩;refine ⟨Zk (Zk (AV)),?_⟩;refine Yz 8 255 8191 [10,1] [true,false] [(10,(_,_))] V Y V rfl V rfl (Bl (by_:=40) (sz:=5) AU4 (V:Tryz.prog.info? 83=some Tryz.t83) V rfl V rfl Y (hr2) Y (DD 5 gb1 1 1 83 (0,0) [I4 x.t,I4 x.k,I4 x.v.a,I4 x.v.b,I4 x.v.c] V) Wo Wo Ap5 Ao7 Ao7) ?_;rintro _ _ ⟨sa9,hra9,rfl⟩;refine ⟨Zk (AV),?_⟩;obtain ⟨ga9,ca9,rfl⟩:=hra9.form;refine An9 14 V (AB (off:=6) AU8 V rfl AW8 Y)<|Zz (l:=[13])<|Ao5 [false] [] V rfl (Db (by_:=24) (sz:=1) (news:=[_]) AY3 (V:Tryz.prog.info? 45=some Tryz.t45) V rfl V rfl Y hp2 Y Wo Wh Ap1 V Ap6 Ao9 Ao7 Ao7) ?hk_47 (fun _ _ h=>h.elim) ?hl_47
      case hk_47=>
       rintro _ _ ⟨sw7,hrw7,rfl⟩;refine ⟨AV,?_⟩;obtain ⟨gw7,cw7,rfl⟩:=hrw7.form;refine Yw 15 65535 V (Zs AW8 Y Y V (hc:=by exact (V:_=(#[I4 (t:Int),I4 (c:Int),I4 lo,I4 hi,I4 (((BC rs (t:Int) c).length:Nat):Int),I4 (((Bj (BC rs (t:Int) c) c lo):Nat):Int),_,_,.slice qt 16 ct]:Array Value))) (hi:=by(simp;done))) ?_;rintro _ _ ⟨rfl,rfl⟩;refine An9 16 V (AB (off:=7) AU8 V rfl Aa7 Y)<|Zz (l:=[17])<|Ao5 [] [] V rfl (Zs Aa7 Y Y V (hc:=by exact (V:_=(#[I4 (t:Int),I4 (c:Int),I4 lo,I4 hi,I4 (((BC rs (t:Int) c).length:Nat):Int),I4 (((Bj (BC rs (t:Int) c) c lo):Nat):Int),_,_,.slice qt 16 ct]:Array Value))) (hi:=by(simp;done))) ?hk_49 (fun _ _ h=>h.elim) ?hl_49
       case hk_49=>
        rintro _ _ ⟨rfl,rfl⟩;refine ⟨AV,?_⟩;refine Ag<|Zn [10,12,15,16,17] ?_;refine A9<|Zx<|Zg<|Zm Y<|Ya (n:=1) Y Y<|Za Y<|Z0<|Zn [17,10,12,15,16] ?_;refine Ad (e':=[(17,_)]) (by exact ⟨k+1,_,_,_,_,pvs++[_],spath++mp,rfl,⟨by omega,BO hra9 rfl (by rw [Bc hx2,C9];rfl),BO hrw7 rfl rfl,hP2⟩,rfl,rfl⟩)
       exact Ae
      exact Ae
     exact Ae
    have ek:k=(toT (BC rs (t:Int) c) c hi) -(Bj (BC rs (t:Int) c) c lo):=by omega
    subst ek;refine BG<|Zt<|Zt<|AX<|Zx<|Zq<|Zg<|Zo Wh (AA (cs:=#[I4 (t:Int),I4 (c:Int),I4 lo,I4 hi,I4 (((BC rs (t:Int) c).length:Nat):Int),I4 (((Bj (BC rs (t:Int) c) c lo):Nat):Int),.slice q2 _ c2,.slice q3 _ c3,.slice qt 16 ct]) Ak1 Ab0 Y (by(simp;done)) Ap1) ?_;refine Xe (Xw Ab0 #[I4 (t:Int),I4 (c:Int),I4 lo,I4 hi,I4 (((BC rs (t:Int) c).length:Nat):Int),I4 (((Bj (BC rs (t:Int) c) c lo):Nat):Int),.slice q2 _ c2,.slice q3 _ c3,.slice qt 16 ct]) ?_;refine Za Y<|Z0<|Zx<|AC<|Bu rfl results103 Y Wh (Ap Ak1 Ab0 Wn (rfl)) Y (by exact ⟨_,_,_,sr2,sp,pvs,mp,so,rfl,BO hr2 (by rw [zN,zO];omega) rfl,hp2,hP,hso,rfl⟩)
   exact Ae
  exact Ae
 exact Ae
def Li(M:List A8)(v:Value)(ps:List (List Bs)):Prop:=∃p cap,v= .slice p ps.length cap/\(ps.length<=maxLen/\ps.length<=cap)/\∀(i:Nat) (l:List Bs),ps[i]?=some l->∃q c,E9 M (.slice q l.length c) l/\∃g off cur T zz,p=some ⟨g,off,none⟩/\(g,Obj.cells cur T zz)∈M/\cur[off+i]?=some (.slice q l.length c)
def WY(M:List A8)(v:Value)(x:RP):Prop:=∃vr vp vt,v= .agg #[I4 x.tb,I4 x.cl,I4 x.lo,I4 x.hi,I4 x.ct,I4 x.fi,vr,vp,vt]/\Dh M vr x.rows/\Li M vp x.paths/\E9 M vt x.roots
theorem UX{e:TypeId}{ps:List (List Bs)}{pvs:List Value}{s mp:List A8}(h:BZ 1 e v ps.length pvs s)(hP:Jc mp pvs ps)(hn:ps.length<=maxLen):Li (s++mp) v ps:=by
 rcases AG3 ps.length with h0|h0
 · obtain ⟨b,cap,rfl⟩:=h.form
   exact ⟨b,cap,rfl,⟨hn,by omega⟩,fun i s hs=>by rw [AB0 h0]at hs;simp at hs⟩
 · obtain ⟨g,cap,cur,z,rfl,rfl,hle,hg⟩:=L6 h h0
   refine ⟨_,cap,V,⟨hn,hle⟩,fun i l hl=>?_⟩;have hlt:=(zF.1 hl).1
   obtain ⟨w,hw⟩:∃w,pvs[i]?=some w:=⟨_,zD (by have:=hP.1;omega)⟩;have hu:=hP.2 i w l hw hl
   obtain ⟨q,c,e1,h1,h2⟩:=id hu;subst e1;refine ⟨q,c,hu.mono (fun c h=>zZ _ h),g,0,cur,e,z,V,by simp,?_⟩;rw [zo];exact hg i _ hw
theorem Li.mono{M':List A8}{ls:List (List Bs)}(h:Li M v ls)(hm:∀c∈M,c∈M'):Li M' v ls:=by
 obtain ⟨p,cap,e,hl,hg⟩:=h;refine ⟨p,cap,e,hl,fun i s hs=>?_⟩;obtain ⟨q,c,h0,g,off,cur,T,zz,e1,h1,h2⟩:=hg i s hs;exact ⟨q,c,h0.mono hm,g,off,cur,T,zz,e1,hm _ h1,h2⟩
theorem aR(v:Value)(p:Int)(rs:List AQ)(s:List A8)(hv:Qa v p rs s)(hs:BM rs)(hn:rs.length<=2000)(hok:∀r∈rs,r.ok)(t c:Nat)(ht:t<=3)(hc:c<=3)(lo hi:Int)(hlh:lo<=hi)(Tg:TypeId)(zg:Nat×Nat):
 BR Tryz.prog 103 #[v,I4 (t:Int),I4 (c:Int),I4 lo,I4 hi] [[(4,.cells (EW.map Ch).toArray Tg zg)],s] (fun r H'=>∃v' mem,r= .tuple #[v',I4 0]/\WY mem v' (ES rs t c lo hi)/\H'=[mem,[(4,.cells (EW.map Ch).toArray Tg zg)],s]):=by
 have hml:=mL;refine GY (aS v p rs s hv hs hn hok t c ht hc lo hi hlh Tg zg) V ?_;rintro r H' ⟨vr,vp,vt,sr2,sp,pvs,mp,so,rfl,h1,h2,h3,h4,rfl⟩;have hll:=Iu hs (t:Int) c
 have hto:toT (BC rs (t:Int) c) c hi<=(BC rs (t:Int) c).length:=AT0 _ _;have hpl:=aa (BC rs (t:Int) c) (Bj (BC rs (t:Int) c) c lo) (toT (BC rs (t:Int) c) c hi -Bj (BC rs (t:Int) c) c lo)
 have hrl:(((BC rs (t:Int) c).drop (Bj (BC rs (t:Int) c) c lo)).take (toT (BC rs (t:Int) c) c hi -Bj (BC rs (t:Int) c) c lo)).length<=2000:=by rw [zN,zO];omega
 refine ⟨_,⟨_,sr2++(sp++mp)++so,V,⟨vr,vp,vt,V,?_,?_,?_⟩,V⟩,by simp⟩
 · exact (D7 h1 Ao7).mono (fun c h=>zR _ (zR _ h))
 · exact (UX (BO h2 hpl.symm rfl) h3 (by rw [hpl];omega)).mono (fun c h=>zR _ (zZ _ h))
 · exact (GD (BO h4 (X3 rs).symm rfl) (by rw [X3];omega)).mono (fun c h=>zZ _ h)
def WX(x:RP)(j:Nat)(r:AQ):Prop:=r.ok/\r.t=x.tb/\(Be r x.cl<x.lo->j=0)/\(x.hi<Be r x.cl->x.rows.length<=j+1)
def TS(x:RP)(q r:AQ):Prop:=Be q x.cl<Be r x.cl\/Be q x.cl=Be r x.cl/\q.k<r.k
structure G9(x:RP):Prop where
 tc:(0<=x.tb/\x.tb<4)/\0<=x.cl/\x.cl<4
 lh:x.lo<=x.hi
 ct:0<=x.ct/\x.ct<=2000
 fi:0<=x.fi/\x.fi<=x.ct
 n:(x.rows.length:Int)<=x.ct -x.fi
 none:x.rows.length=0->x.ct=0
 all:∀(j:Nat) (r:AQ),x.rows[j]?=some r->WX x j r/\(0<j->∀q,x.rows[j -1]?=some q->TS x q r)
 first:∀r,x.rows[0]?=some r->x.fi=0\/Be r x.cl<x.lo
 last:∀r,x.rows[x.rows.length -1]?=some r->x.fi+(x.rows.length:Int)=x.ct\/x.hi<Be r x.cl
noncomputable instance(x:RP):Decidable (G9 x):=Classical.propDecidable _
theorem Gj{p:Option Addr}{cap:Nat}(x:RP)(vp vt:Value)(hR:Dh M (.slice p x.rows.length cap) x.rows)(hc:0<=x.cl/\x.cl<=3)(pb i:Nat)(r:AQ)(hr:x.rows[i]?=some r):BJ Tryz.prog 301 #[I4 (i:Int),I5 pb] [[(pb,.cells #[I4 x.tb,I4 x.cl,I4 x.lo,I4 x.hi,I4 x.ct,I4 x.fi,.slice p x.rows.length cap,vp,vt] 152 (0,0))],M] (I4 (Be r x.cl)):=by
 have hml:=mL;obtain ⟨p9,cap9,e9,hl,hg⟩:=hR;injection e9 with e91 e92 e93
 subst e91 e93;obtain ⟨g,off,cur,T,zz,rfl,hm9,hsz9,hex9⟩:=hg i r hr;have hlt:=(zF.1 hr).1
 refine Se func301 ntmps301 [0,1] ?_;intro u R;refine Zq<|Zg<|Za Y<|Z0<|Zx<|Zq<|Az (n:=9) (0::1::0::7::15::0::32::127::255::[]) 128 Ao8 Ao8 V<|An9 0 V (AB (off:=6) AU8 V rfl AW8 Y)<|Ao0 1 V Ab2 Y ?_;refine An9 2 V (AP Y)<|An9 3 V (Ai AU4 AU5 Y Y Ao7)<|Cw (b:=g) (x:= .cells cur T zz) (D':=31) 4 V rfl V (by simp [hm9]) (AA (cs:=#[I4 r.t,I4 r.k,I4 r.v.a,I4 r.v.b,I4 r.v.c]) AX3 AU5 Y Ao7 hex9) ?_;refine An9 5 V (AB (off:=1) AU8 V rfl AU1 Y)<|Ao0 6 V AU2 Y ?_;refine Yw 7 255 V (Zu [_,_] Y Ah3 Y V (FW r x.cl hc)) ?_;rintro _ _ ⟨rfl,rfl⟩;refine An9 8 V (Aq Y)<|Ag<|Zx<|AC<|AL V results301 Y (by exact ⟨V,V⟩)
variable{x:RP}
set_option maxHeartbeats 4000000 in
theorem Tu(hv:WY M v x):BJ Tryz.prog 271 #[v] [M] (.bool (decide (G9 x))):=by
 have hml:=mL;obtain ⟨vr,vp,vt,rfl,hR,hP,hT⟩:=hv;obtain ⟨p,cap,e9,hl,hg⟩:=id hR;subst e9;refine Se func271 ntmps271 [0] ?_;intro u R;refine Zq<|Zg<|Ze (Bx #[_,_,_,_,_,_,_,_,_]) ?_;rintro _ _ ⟨pb,rfl,rfl⟩;refine Za Y<|Z0<|Zx<|Zq<|Zg<|Zh 6 AU8 V rfl AW8 Y<|Zl Ab2 Y ?_;refine Zv (Aa AU4 Y)<|Za Y<|Z0<|Zx<|Zq<|Zq<|Zg<|Zh 0 AU8 V rfl AU1 Y<|Zl AU2 Y ?_;refine Zh 1 AU8 V rfl AU1 Y<|Zl AU2 Y ?_;refine Xr [_,_] Y call169 Y V (QD x.tb x.cl) ?_;refine Zv (Eg Y)<|Zm Y<|Ak (t:=17) Y V (fun hc1=>?_) (fun hc1=>?_)
 ·
  refine A7 Y V<|A7 Y V<|A7 Y V<|A7 Y V<|A7 Y V<|Zv (AZ Y Y)<|Zm Y<|A7 Y V<|A7 Y V<|A7 Y V<|Zv (AZ Y Y)<|Zm Y<|A7 Y V<|A7 Y V<|A7 Y V<|Zv (AZ Y Y)<|Zm Y<|A7 Y V<|A7 Y V<|A7 Y V<|Zv (AZ Y Y)<|Zm Y<|A7 Y V<|A7 Y V<|A7 Y V<|A7 Y V<|A7 Y V<|Zv (AZ Y Y)<|Zm Y<|A7 Y V<|A7 Y V<|A7 Y V<|A7 Y V<|A7 Y V<|A7 Y V<|A7 Y V<|Zv (AZ Y Y)<|Z0<|Zn [1,3,54] ?_;refine Zx<|DV Y<|Zq<|Zg<|Za Y<|Z0<|Zx<|AC<|Zt<|AL V AZ6 Y (by exact ⟨congrArg Value.bool (Am5 (fun h9:G9 x=>by have h91:=h9.tc;have h92:=h9.lh;have h93:=h9.ct;have h94:=h9.fi;have h95:=h9.n;omega)).symm,V⟩)
 refine Yf 2 AU8 V rfl AU1 Y<|Yl AU2 Y ?_;refine Yf 3 AU8 V rfl AU1 Y<|Yl AU2 Y ?_;refine Yg (FI Y Y)<|Zv (AU Y Y)<|Zm Y<|Ak (t:=24) Y V (fun hc2=>?_) (fun hc2=>?_)
 ·
  refine A7 Y V<|A7 Y V<|A7 Y V<|Zv (AZ Y Y)<|Zm Y<|A7 Y V<|A7 Y V<|A7 Y V<|Zv (AZ Y Y)<|Zm Y<|A7 Y V<|A7 Y V<|A7 Y V<|Zv (AZ Y Y)<|Zm Y<|A7 Y V<|A7 Y V<|A7 Y V<|A7 Y V<|A7 Y V<|Zv (AZ Y Y)<|Zm Y<|A7 Y V<|A7 Y V<|A7 Y V<|A7 Y V<|A7 Y V<|A7 Y V<|A7 Y V<|Zv (AZ Y Y)<|Z0<|Zn [1,3,54] ?_;refine Zx<|DV Y<|Zq<|Zg<|Za Y<|Z0<|Zx<|AC<|Zt<|AL V AZ6 Y (by exact ⟨congrArg Value.bool (Am5 (fun h9:G9 x=>by have h91:=h9.tc;have h92:=h9.lh;have h93:=h9.ct;have h94:=h9.fi;have h95:=h9.n;omega)).symm,V⟩)
 refine Yf 4 AU8 V rfl AU1 Y<|Yl AU2 Y ?_;refine Yg (Dq Y Y)<|Zv (AU Y Y)<|Zm Y<|Ak (t:=29) Y V (fun hc3=>?_) (fun hc3=>?_)
 ·
  refine A7 Y V<|A7 Y V<|A7 Y V<|Zv (AZ Y Y)<|Zm Y<|A7 Y V<|A7 Y V<|A7 Y V<|Zv (AZ Y Y)<|Zm Y<|A7 Y V<|A7 Y V<|A7 Y V<|A7 Y V<|A7 Y V<|Zv (AZ Y Y)<|Zm Y<|A7 Y V<|A7 Y V<|A7 Y V<|A7 Y V<|A7 Y V<|A7 Y V<|A7 Y V<|Zv (AZ Y Y)<|Z0<|Zn [1,3,54] ?_;refine Zx<|DV Y<|Zq<|Zg<|Za Y<|Z0<|Zx<|AC<|Zt<|AL V AZ6 Y (by exact ⟨congrArg Value.bool (Am5 (fun h9:G9 x=>by have h91:=h9.tc;have h92:=h9.lh;have h93:=h9.ct;have h94:=h9.fi;have h95:=h9.n;omega)).symm,V⟩)
 refine Yf 4 AU8 V rfl AU1 Y<|Yl AU2 Y ?_;refine Yg (FI Y Y)<|Zv (AU Y Y)<|Zm Y<|Ak (t:=34) Y V (fun hc4=>?_) (fun hc4=>?_)
 ·
  refine A7 Y V<|A7 Y V<|A7 Y V<|Zv (AZ Y Y)<|Zm Y<|A7 Y V<|A7 Y V<|A7 Y V<|A7 Y V<|A7 Y V<|Zv (AZ Y Y)<|Zm Y<|A7 Y V<|A7 Y V<|A7 Y V<|A7 Y V<|A7 Y V<|A7 Y V<|A7 Y V<|Zv (AZ Y Y)<|Z0<|Zn [1,3,54] ?_;refine Zx<|DV Y<|Zq<|Zg<|Za Y<|Z0<|Zx<|AC<|Zt<|AL V AZ6 Y (by exact ⟨congrArg Value.bool (Am5 (fun h9:G9 x=>by have h91:=h9.tc;have h92:=h9.lh;have h93:=h9.ct;have h94:=h9.fi;have h95:=h9.n;omega)).symm,V⟩)
 refine Yf 5 AU8 V rfl AU1 Y<|Yl AU2 Y ?_;refine Yg (Dq Y Y)<|Zv (AU Y Y)<|Zm Y<|Ak (t:=39) Y V (fun hc5=>?_) (fun hc5=>?_)
 ·
  refine A7 Y V<|A7 Y V<|A7 Y V<|A7 Y V<|A7 Y V<|Zv (AZ Y Y)<|Zm Y<|A7 Y V<|A7 Y V<|A7 Y V<|A7 Y V<|A7 Y V<|A7 Y V<|A7 Y V<|Zv (AZ Y Y)<|Z0<|Zn [1,3,54] ?_;refine Zx<|DV Y<|Zq<|Zg<|Za Y<|Z0<|Zx<|AC<|Zt<|AL V AZ6 Y (by exact ⟨congrArg Value.bool (Am5 (fun h9:G9 x=>by have h91:=h9.tc;have h92:=h9.lh;have h93:=h9.ct;have h94:=h9.fi;have h95:=h9.n;omega)).symm,V⟩)
 refine Yf 5 AU8 V rfl AU1 Y<|Yl AU2 Y ?_;refine Yf 4 AU8 V rfl AU1 Y<|Yl AU2 Y ?_;refine Yg (FI Y Y)<|Zv (AU Y Y)<|Zm Y<|Ak (t:=46) Y V (fun hc6=>?_) (fun hc6=>?_)
 ·
  refine A7 Y V<|A7 Y V<|A7 Y V<|A7 Y V<|A7 Y V<|A7 Y V<|A7 Y V<|Zv (AZ Y Y)<|Z0<|Zn [1,3,54] ?_;refine Zx<|DV Y<|Zq<|Zg<|Za Y<|Z0<|Zx<|AC<|Zt<|AL V AZ6 Y (by exact ⟨congrArg Value.bool (Am5 (fun h9:G9 x=>by have h91:=h9.tc;have h92:=h9.lh;have h93:=h9.ct;have h94:=h9.fi;have h95:=h9.n;omega)).symm,V⟩)
 refine Zf Y Y<|Yf 4 AU8 V rfl AU1 Y<|Yl AU2 Y ?_;refine Yf 5 AU8 V rfl AU1 Y<|Yl AU2 Y ?_
 (refine Kg Y (Hz Y Y (IntWalk.i64_in _ ?_)) rfl rfl ?_;(focus (first|omega|(simp;omega))))
 refine Yg (FI Y Y)<|Zv (AU Y Y)<|Z0<|Zn [1,3,54] ?_;refine Zx<|Aw Y (fun hc7=>?_) (fun hc7=>?_)
 ·
  refine Zq<|Zg<|Za Y<|Z0<|Zx<|AC<|Zt<|AL V AZ6 Y (by exact ⟨congrArg Value.bool (Am5 (fun h9:G9 x=>by have h91:=h9.tc;have h92:=h9.lh;have h93:=h9.ct;have h94:=h9.fi;have h95:=h9.n;omega)).symm,V⟩)
 refine AJ<|Zx<|Zq<|Zq<|Zg<|Zm Y<|Zv (DL (n:=0) Y Y)<|Z0<|Zx<|Aw Y (fun hz=>?_) (fun hz=>?_)
 ·
  refine Zq<|Zg<|Zh 4 AU8 V rfl AU1 Y<|Zl AU2 Y ?_;refine Zv (CL Y Y)<|Za Y<|Z0<|Zx<|AC<|Zt<|AL V AZ6 Y (by exact ⟨TA ⟨fun h9=>⟨by omega,by omega,by omega,by omega,by omega,fun _=>h9,fun j r hj=>by have:=(zF.1 hj).1;omega,fun r hj=>by have:=(zF.1 hj).1;omega,fun r hj=>by have:=(zF.1 hj).1;omega⟩,fun h9=>h9.none hz⟩,V⟩)
 refine AJ<|Zx<|Zq<|Zg<|Zv (Bb (vs:=[]) (us:=[_]) Y Y)<|Za Y<|Z0<|Zx<|Zq<|Zq<|Zg<|Zh 6 AU8 V rfl AW8 Y<|Zl Ab2 Y ?_;refine Zv (Aa AU4 Y)<|Zm Y<|Z0<|Zx<|AO<|Zb [64,1,3,4,62,63] ?_;refine BI (e0:=[(64,_)]) (fun m e H=>∃(i:Nat),m=x.rows.length -i/\(i<=x.rows.length/\∀(j:Nat) (r:AQ),j<i->x.rows[j]?=some r->WX x j r/\(0<j->∀q,x.rows[j -1]?=some q->TS x q r))/\e=[(64,I4 (i:Int))]/\H=[]) (by exact ⟨0,V,⟨zT _,by intro j r hj;omega⟩,V,V⟩) Wp ?_;rintro _ _ _ ⟨i,rfl,⟨hi,hall⟩,rfl,rfl⟩;refine Zq<|Zg<|Zv (Au Y Y)<|Z0<|Zx<|Zq<|Aw Y (fun hlt=>?_) (fun hlt=>?_)
 ·
  obtain ⟨r,hr⟩:∃r,x.rows[i]?=some r:=⟨_,zD hlt⟩;obtain ⟨g,off,cur,T,zz,rfl,hm9,hsz9,hex9⟩:=hg i r hr;refine AJ<|Zx<|Zq<|AO<|Zq<|Zg<|Zm Y<|Bq (Ai AU4 AU5 Y Y Ao7)<|CW (cs:=[(g,.cells cur T zz)]) (by simp [hm9]) (AA (cs:=#[I4 r.t,I4 r.k,I4 r.v.a,I4 r.v.b,I4 r.v.c]) AX3 AU5 Y Ao7 hex9) V rfl ?_;refine Ze (Al AW7 #[_,_,_,_,_]) ?_;rintro _ _ ⟨rb,rfl,rfl⟩;refine Za Y<|Xe (Xw AU5 #[I4 r.t,I4 r.k,I4 r.v.a,I4 r.v.b,I4 r.v.c]) ?_;refine Z0<|Zx<|Zq<|Zg<|Zm Y<|Zm Y<|Xr [_] Y call301 Y V (Gj x vp vt hR Ao7 pb i r hr) ?_;refine Za Y<|Z0<|Zx<|Zb [1,3,4,5,6,7,62,63,64] ?_;refine Ea (e0:=[]) (H0:=[]) (fun e H=>∃(u9:Unit),(WX x i r)/\e=[]/\H=[]) Wp ?hx_10 ?hy_10
  case hx_10=>
   refine Zq<|Zg<|Zo Wh (AA (cs:=#[_,_,_,_,_]) AX3 AU5 Y (by(simp;done)) Ap1) ?_;refine Xr [_] Y call203 Y V (RJ r) ?_;refine Zv (Eg Y)<|Zm Y<|Ak (t:=75) Y V (fun hc8=>?_) (fun hc8=>?_)
   ·
    refine A7 Y V<|A7 Y V<|A7 Y V<|A7 Y V<|A7 Y V<|Zv (AZ Y Y)<|Zm Y<|A7 Y V<|A7 Y V<|A7 Y V<|A7 Y V<|A7 Y V<|A7 Y V<|A7 Y V<|A7 Y V<|Zv (AZ Y Y)<|Zm Y<|A7 Y V<|A7 Y V<|A7 Y V<|A7 Y V<|A7 Y V<|A7 Y V<|A7 Y V<|A7 Y V<|A7 Y V<|A7 Y V<|Zv (AZ Y Y)<|Z0<|Zn [1,3,4,5,6,7,62,63,64,103] ?_;refine Zx<|DV Y<|Zq<|Zg<|Za Y<|Z0<|Zx<|AC<|Zt<|Ab<|Zt<|Zt<|Ab<|Zt<|AL rfl AZ6 Y (by exact ⟨congrArg Value.bool (Am5 (fun h9:G9 x=>by obtain ⟨⟨h91,h92,h93,h94⟩,_⟩:=h9.all i r hr;contradiction)).symm,rfl⟩)
   refine Yf 0 AX4 V rfl AU1 Y<|Yl AU2 Y ?_;refine Yf 0 AU8 V rfl AU1 Y<|Yl AU2 Y ?_;refine Yg (JN Y Y)<|Zv (AU Y Y)<|Zm Y<|Ak (t:=82) Y V (fun hc9=>?_) (fun hc9=>?_)
   ·
    refine A7 Y V<|A7 Y V<|A7 Y V<|A7 Y V<|A7 Y V<|A7 Y V<|A7 Y V<|A7 Y V<|Zv (AZ Y Y)<|Zm Y<|A7 Y V<|A7 Y V<|A7 Y V<|A7 Y V<|A7 Y V<|A7 Y V<|A7 Y V<|A7 Y V<|A7 Y V<|A7 Y V<|Zv (AZ Y Y)<|Z0<|Zn [1,3,4,5,6,7,62,63,64,103] ?_;refine Zx<|DV Y<|Zq<|Zg<|Za Y<|Z0<|Zx<|AC<|Zt<|Ab<|Zt<|Zt<|Ab<|Zt<|AL rfl AZ6 Y (by exact ⟨congrArg Value.bool (Am5 (fun h9:G9 x=>by obtain ⟨⟨h91,h92,h93,h94⟩,_⟩:=h9.all i r hr;omega)).symm,rfl⟩)
   refine Zf Y Y<|Yf 2 AU8 V rfl AU1 Y<|Yl AU2 Y ?_;refine Yg (Dq Y Y)<|Zf Y Y ?_;refine Ak (t:=87) Y V (fun hc10=>?_) (fun hc10=>?_)
   ·
    refine Zf Y Y<|Yg (Df (n:=0) Y Y)<|Yg (AZ Y Y)<|Zv (AU Y Y)<|Zm Y<|Ak (t:=92) Y V (fun hc11=>?_) (fun hc11=>?_)
    ·
     refine A7 Y V<|A7 Y V<|A7 Y V<|A7 Y V<|A7 Y V<|A7 Y V<|A7 Y V<|A7 Y V<|A7 Y V<|A7 Y V<|Zv (AZ Y Y)<|Z0<|Zn [1,3,4,5,6,7,62,63,64,103] ?_;refine Zx<|DV Y<|Zq<|Zg<|Za Y<|Z0<|Zx<|AC<|Zt<|Ab<|Zt<|Zt<|Ab<|Zt<|AL rfl AZ6 Y (by exact ⟨congrArg Value.bool (Am5 (fun h9:G9 x=>by obtain ⟨⟨h91,h92,h93,h94⟩,_⟩:=h9.all i r hr;omega)).symm,rfl⟩)
    refine Zf Y Y<|Yf 3 AU8 V rfl AU1 Y<|Yl AU2 Y ?_;refine Yg (FI Y Y)<|Zf Y Y ?_;refine Ak (t:=97) Y V (fun hc12=>?_) (fun hc12=>?_)
    ·
     refine Zf Y Y<|Zf Y Y ?_
     (refine Kg Y (CS (n:=1) Y Y ?_ ?_) rfl rfl ?_;(focus (first|omega|(simp;omega)));(focus (first|omega|(simp;omega))))
     refine Yg (Au Y Y)<|Yg (AZ Y Y)<|Zv (AU Y Y)<|Z0<|Zn [1,3,4,5,6,7,62,63,64,103] ?_;refine Zx<|Aw Y (fun hc13=>?_) (fun hc13=>?_)
     ·
      refine Zq<|Zg<|Za Y<|Z0<|Zx<|AC<|Zt<|Ab<|Zt<|Zt<|Ab<|Zt<|AL rfl AZ6 Y (by exact ⟨congrArg Value.bool (Am5 (fun h9:G9 x=>by obtain ⟨⟨h91,h92,h93,h94⟩,_⟩:=h9.all i r hr;omega)).symm,rfl⟩)
     refine AJ<|Zn [1,3,4,5,6,7,62,63,64] ?_;refine Bi (e':=[]) (by exact ⟨(),⟨by exact AD7.1 Ap7,by omega,fun h=>by omega,fun h=>by omega⟩,V,V⟩)
    refine A7 Y V<|A7 Y V<|A7 Y V<|A7 Y V<|Yg (AU Y Y)<|Zv (AU Y Y)<|Z0<|Zn [1,3,4,5,6,7,62,63,64,103] ?_;refine Zx<|Dv Y<|AJ<|Zn [1,3,4,5,6,7,62,63,64] ?_;refine Bi (e':=[]) (by exact ⟨(),⟨by exact AD7.1 Ap7,by omega,fun h=>by omega,fun h=>by omega⟩,V,V⟩)
   refine A7 Y V<|A7 Y V<|Yg (AU Y Y)<|Zv (AU Y Y)<|Zm Y<|Zf Y Y<|Yf 3 AU8 V rfl AU1 Y<|Yl AU2 Y ?_;refine Yg (FI Y Y)<|Zf Y Y ?_;refine Ak (t:=97) Y V (fun hc14=>?_) (fun hc14=>?_)
   ·
    refine Zf Y Y<|Zf Y Y ?_
    (refine Kg Y (CS (n:=1) Y Y ?_ ?_) rfl rfl ?_;(focus (first|omega|(simp;omega)));(focus (first|omega|(simp;omega))))
    refine Yg (Au Y Y)<|Yg (AZ Y Y)<|Zv (AU Y Y)<|Z0<|Zn [1,3,4,5,6,7,62,63,64,103] ?_;refine Zx<|Aw Y (fun hc15=>?_) (fun hc15=>?_)
    ·
     refine Zq<|Zg<|Za Y<|Z0<|Zx<|AC<|Zt<|Ab<|Zt<|Zt<|Ab<|Zt<|AL rfl AZ6 Y (by exact ⟨congrArg Value.bool (Am5 (fun h9:G9 x=>by obtain ⟨⟨h91,h92,h93,h94⟩,_⟩:=h9.all i r hr;omega)).symm,rfl⟩)
    refine AJ<|Zn [1,3,4,5,6,7,62,63,64] ?_;refine Bi (e':=[]) (by exact ⟨(),⟨by exact AD7.1 Ap7,by omega,fun h=>by omega,fun h=>by omega⟩,V,V⟩)
   refine A7 Y V<|A7 Y V<|A7 Y V<|A7 Y V<|Yg (AU Y Y)<|Zv (AU Y Y)<|Z0<|Zn [1,3,4,5,6,7,62,63,64,103] ?_;refine Zx<|Dv Y<|AJ<|Zn [1,3,4,5,6,7,62,63,64] ?_;refine Bi (e':=[]) (by exact ⟨(),⟨by exact AD7.1 Ap7,by omega,fun h=>by omega,fun h=>by omega⟩,V,V⟩)
  rintro _ _ ⟨u9,hfit,rfl,rfl⟩;refine Zq<|Az (n:=30) (0::1::3::7::7::7::39::119::255::511::1023::1023::1023::5119::15359::32767::65535::131071::262143::131071::655359::131071::2228223::7995391::16383999::33161215::67108863::134217727::268435455::536870911::[]) 16512 Ao8 Ao8 V<|An9 0 V (AP Y)<|An9 1 V (Df (n:=0) Y Y)<|An9 2 V (AP Y)<|EE (t:=106) Y (fun hi0=>?_) (fun hi0=>?_)
  ·
   rw [Am8 hi0];obtain ⟨q,hq⟩:∃q,x.rows[i -1]?=some q:=⟨_,zD Ao7⟩;obtain ⟨g2,off2,cur2,T2,zz2,e29,hm29,hsz29,hex29⟩:=hg (i -1) q hq;injection e29 with e29
   injection e29 with e291 e292
   subst e291 e292;have hkq:cur2[off+(i -1)*5+1]?=some (I4 q.k):=by rw [OZ hex29 hsz29 1 Ao7];rfl
   refine Ao2 3 V (AP Y)<|Ao2 4 V (AP Y)<|Ao2 5 V (AP Y) ?_
   (refine Ao2 6 rfl (CS (n:=1) Y Y ?_ ?_) ?_;(focus (first|omega|(simp;omega)));(focus (first|omega|(simp;omega))))
   refine Yw 7 255 V (Zu [_] Y call301 Y V (Gj x vp vt hR Ao7 pb (i -1) q hq)) ?_;rintro _ _ ⟨rfl,rfl⟩;refine Ao2 8 V (Dq Y Y)<|Ao2 9 V (AP Y)<|EE (t:=113) Y (fun hvw=>?_) (fun hvw=>?_)
   ·
    rw [Am8 hvw];refine Ao1 10 V<|Ao1 11 V<|Ao1 12 V<|Ao1 13 V<|Ao1 14 V<|Ao1 15 V<|Ao1 16 V<|Ao1 17 V<|Ao1 18 V<|Ao1 19 V<|Ao1 20 V<|Ao1 21 V<|Ao1 22 V<|Ao1 23 V<|Ao1 24 V<|Ao1 25 V<|Ao1 26 V<|Ao1 27 V<|Ao2 28 V (AZ Y Y)<|An9 29 V (AZ Y Y)<|Ag<|Zn [1,3,4,62,63,64,133] ?_;refine Zx<|DV Y<|Zq<|Zg<|Za Y<|Z0<|Zx<|AC<|Ab<|Zt<|Zt<|Ab<|Zt<|AL V AZ6 Y (by exact ⟨congrArg Value.bool (Am5 (fun h9:G9 x=>by have ha:=(h9.all i r hr).2 hi0 q hq;unfold TS at ha;omega)).symm,V⟩)
   rw [Am5 hvw];refine Ao2 10 V (AP Y)<|Ao2 11 V (AP Y)<|Ao2 12 V (AP Y) ?_
   (refine Ao2 13 rfl (CS (n:=1) Y Y ?_ ?_) ?_;(focus (first|omega|(simp;omega)));(focus (first|omega|(simp;omega))))
   refine Yw 14 32767 V (Zu [_] Y call301 Y V (Gj x vp vt hR Ao7 pb (i -1) q hq)) ?_;rintro _ _ ⟨rfl,rfl⟩;refine Ao2 15 V (CL Y Y)<|Ao2 16 V (AP Y)<|EE (t:=120) Y (fun hvq=>?_) (fun hvq=>?_)
   ·
    rw [Am8 hvq];refine Ao2 17 V (AB (off:=1) AX4 V rfl AU1 Y)<|Ao3 18 V Wh (BX AU2 Y Ap1) ?_;refine Ao2 19 V (AB (off:=6) AU8 V rfl AW8 Y)<|Ao3 20 V Wh (BX Ab2 Y Ap1) ?_;refine Ao2 21 V (AP Y) ?_
    (refine Ao2 22 rfl (CS (n:=1) Y Y ?_ ?_) ?_;(focus (first|omega|(simp;omega)));(focus (first|omega|(simp;omega))))
    refine Ao2 23 V (Ai AU4 AU5 Y Y Ao7)<|Ao2 24 V (Ar (off:=1) AX4 V rfl AU1 Y)<|Vo (b:=g) (x:= .cells cur2 T2 zz2) (D':=67108863) 25 Y V rfl V (by simp [hm29]) (BX AU2 Y (by exact hkq)) ?_;refine Ao2 26 V (OD Y Y)<|Ao2 27 V (AZ Y Y)<|Ao2 28 V (AU Y Y)<|An9 29 V (AZ Y Y)<|Ag<|Zn [1,3,4,62,63,64,133] ?_;refine Zx<|Aw Y (fun hkk=>?_) (fun hkk=>?_)
    ·
     refine Zq<|Zg<|Za Y<|Z0<|Zx<|AC<|Ab<|Zt<|Zt<|Ab<|Zt<|AL V AZ6 Y (by exact ⟨congrArg Value.bool (Am5 (fun h9:G9 x=>by have ha:=(h9.all i r hr).2 hi0 q hq;unfold TS at ha;omega)).symm,V⟩)
    refine AJ<|A9<|Zx<|Zg<|Ya (n:=1) Y Y<|Zm Y<|Z0<|Zn [64,1,3,4,62,63] ?_;refine Ad (e':=[(64,_)]) (by
     exact ⟨i+1,V,⟨by omega,fun j r9 hj hr9=>by
      rcases AB1 j i with h9|h9
      · exact hall j r9 h9 hr9
      · obtain rfl:j=i:=Ao7
        rw [hr]at hr9;injection hr9 with hr9;subst hr9
        refine ⟨hfit,fun hj0 q9 hq9=>?_⟩
        (rw [hq]at hq9;injection hq9 with hq9;subst hq9;unfold TS;omega)⟩,rfl,rfl⟩)
   rw [Am5 hvq];refine Ao1 17 V<|Ao1 18 V<|Ao1 19 V<|Ao1 20 V<|Ao1 21 V<|Ao1 22 V<|Ao1 23 V<|Ao1 24 V<|Ao1 25 V<|Ao1 26 V<|Ao2 27 V (AU Y Y)<|Ao2 28 V (AU Y Y)<|An9 29 V (AZ Y Y)<|Ag<|Zn [1,3,4,62,63,64,133] ?_;refine Zx<|Dv Y<|AJ<|A9<|Zx<|Zg<|Ya (n:=1) Y Y<|Zm Y<|Z0<|Zn [64,1,3,4,62,63] ?_;refine Ad (e':=[(64,_)]) (by
    exact ⟨i+1,V,⟨by omega,fun j r9 hj hr9=>by
     rcases AB1 j i with h9|h9
     · exact hall j r9 h9 hr9
     · obtain rfl:j=i:=Ao7
       rw [hr]at hr9;injection hr9 with hr9;subst hr9
       refine ⟨hfit,fun hj0 q9 hq9=>?_⟩
       (rw [hq]at hq9;injection hq9 with hq9;subst hq9;unfold TS;omega)⟩,rfl,rfl⟩)
  rw [Am5 hi0];refine Ao1 3 V<|Ao1 4 V<|Ao1 5 V<|Ao1 6 V<|Ao1 7 V<|Ao1 8 V<|Ao1 9 V<|Ao1 10 V<|Ao1 11 V<|Ao1 12 V<|Ao1 13 V<|Ao1 14 V<|Ao1 15 V<|Ao1 16 V<|Ao1 17 V<|Ao1 18 V<|Ao1 19 V<|Ao1 20 V<|Ao1 21 V<|Ao1 22 V<|Ao1 23 V<|Ao1 24 V<|Ao1 25 V<|Ao1 26 V<|Ao1 27 V<|Ao1 28 V<|An9 29 V (AU Y Y)<|Ag<|Zn [1,3,4,62,63,64,133] ?_;refine Zx<|Dv Y<|AJ<|A9<|Zx<|Zg<|Ya (n:=1) Y Y<|Zm Y<|Z0<|Zn [64,1,3,4,62,63] ?_;refine Ad (e':=[(64,_)]) (by
   exact ⟨i+1,V,⟨by omega,fun j r9 hj hr9=>by
    rcases AB1 j i with h9|h9
    · exact hall j r9 h9 hr9
    · obtain rfl:j=i:=Ao7
      rw [hr]at hr9;injection hr9 with hr9;subst hr9
      refine ⟨hfit,fun hj0 q9 hq9=>?_⟩
      (exfalso;omega)⟩,rfl,rfl⟩)
 obtain ⟨r0,hr0⟩:∃r,x.rows[0]?=some r:=⟨_,zD Ao7⟩;obtain ⟨rl,hrl⟩:∃r,x.rows[x.rows.length -1]?=some r:=⟨_,zD Ao7⟩;have hcomp:G9 x↔(x.fi=0\/Be r0 x.cl<x.lo)/\(x.fi+(x.rows.length:Int)=x.ct\/x.hi<Be rl x.cl):=⟨fun h=>⟨h.first r0 hr0,h.last rl hrl⟩,fun h=>⟨by omega,by omega,by omega,by omega,by omega,fun h0=>absurd h0 hz,fun j r hj=>hall j r (by have:=(zF.1 hj).1;omega) hj,fun r hj=>by rw [hr0]at hj;injection hj with hj;rw [<-hj];exact h.1,fun r hj=>by rw [hrl]at hj;injection hj with hj;rw [<-hj];exact h.2⟩⟩
 refine BG<|Zt<|Zt<|AX<|Zx<|Zq<|Az (n:=29) (0::1::3::7::15::31::15::79::255::511::1023::2047::4095::2047::16383::2047::34815::131071::262143::524287::524287::1572863::4194303::524287::8912895::33554431::67108863::134217727::268435455::[]) 4194336 Ao8 Ao8 V<|An9 0 V (AB (off:=5) AU8 V rfl AU1 Y)<|Ao0 1 V AU2 Y ?_;refine An9 2 V (CL Y Y)<|An9 3 V (AP Y)<|EE (t:=138) Y (fun hc16=>?_) (fun hc16=>?_)
 ·
  rw [Am8 hc16];refine Ao1 4 V<|Ao1 5 V<|Ao1 6 V<|Ao1 7 V<|Ao1 8 V<|An9 9 V (AZ Y Y)<|An9 10 V (AP Y)<|Ao2 11 V (AB (off:=5) AU8 V rfl AU1 Y)<|Ao3 12 V Wh (BX AU2 Y Ap1) ?_;refine Ao2 13 V (AP Y) ?_
  (refine Ao2 14 rfl (Ke Y Y (IntWalk.i64_in _ ?_)) ?_;(focus (first|omega|(simp;omega))))
  refine Ao2 15 V (AB (off:=4) AU8 V rfl AU1 Y)<|Ao3 16 V Wh (BX AU2 Y Ap1) ?_;refine Ao2 17 V (CL Y Y)<|Ao2 18 V (AP Y)<|EE (t:=153) Y (fun hc17=>?_) (fun hc17=>?_)
  ·
   rw [Am8 hc17];refine Ao1 19 V<|Ao1 20 V<|Ao1 21 V<|Ao1 22 V<|Ao1 23 V<|Ao1 24 V<|Ao1 25 V<|Ao2 26 V (AZ Y Y)<|An9 27 V (AZ Y Y)<|An9 28 V (Aq Y)<|Ag<|Zn [2] ?_;refine Zx<|AC<|AL V AZ6 Y (by exact ⟨by exact congrArg Value.bool (Am8 (hcomp.2 ⟨by omega,by omega⟩)).symm,V⟩)
  rw [Am5 hc17];refine Ao2 19 V (AP Y)<|Ao2 20 V (AP Y) ?_
  (refine Ao2 21 rfl (CS (n:=1) Y Y ?_ ?_) ?_;(focus (first|omega|(simp;omega)));(focus (first|omega|(simp;omega))))
  refine Ao2 23 V (AB (off:=3) AU8 V rfl AU1 Y)<|Ao3 24 V Wh (BX AU2 Y Ap1) ?_;refine Yz 22 4194303 33554431 [24,16,12,1] [true,false,false,false] [(24,(_,_))] V Y V rfl V rfl (Zu [_] Y call301 Y V (Gj x vp vt hR Ao7 pb (x.rows.length -1) rl hrl)) ?_;rintro _ _ ⟨rfl,rfl⟩;refine ⟨Zk (AV),?_⟩;refine Ao2 25 V (FI Y Y)<|Ao2 26 V (AU Y Y)<|An9 27 V (AZ Y Y)<|An9 28 V (Aq Y)<|Ag<|Zn [2] ?_;refine Zx<|AC<|AL V AZ6 Y (by exact ⟨by exact TA ⟨fun h9=>hcomp.2 ⟨by omega,by omega⟩,fun h9=>by have:=hcomp.1 h9;omega⟩,V⟩)
 rw [Am5 hc16];refine Ao2 4 V (AP Y)<|Ao2 6 V (AB (off:=2) AU8 V rfl AU1 Y)<|Ao3 7 V Wh (BX AU2 Y Ap1) ?_;refine Yz 5 31 255 [7,1] [true,false] [(7,(_,_))] V Y V rfl V rfl (Zu [_] Y call301 Y V (Gj x vp vt hR Ao7 pb 0 r0 hr0)) ?_;rintro _ _ ⟨rfl,rfl⟩;refine ⟨Zk (AV),?_⟩;refine Ao2 8 V (Dq Y Y)<|An9 9 V (AU Y Y)<|An9 10 V (AP Y)<|EE (t:=145) Y (fun hc18=>?_) (fun hc18=>?_)
 ·
  rw [Am8 hc18];refine Ao2 11 V (AB (off:=5) AU8 V rfl AU1 Y)<|Ao3 12 V Wh (BX AU2 Y Ap1) ?_;refine Ao2 13 V (AP Y) ?_
  (refine Ao2 14 rfl (Ke Y Y (IntWalk.i64_in _ ?_)) ?_;(focus (first|omega|(simp;omega))))
  refine Ao2 15 V (AB (off:=4) AU8 V rfl AU1 Y)<|Ao3 16 V Wh (BX AU2 Y Ap1) ?_;refine Ao2 17 V (CL Y Y)<|Ao2 18 V (AP Y)<|EE (t:=153) Y (fun hc19=>?_) (fun hc19=>?_)
  ·
   rw [Am8 hc19];refine Ao1 19 V<|Ao1 20 V<|Ao1 21 V<|Ao1 22 V<|Ao1 23 V<|Ao1 24 V<|Ao1 25 V<|Ao2 26 V (AZ Y Y)<|An9 27 V (AZ Y Y)<|An9 28 V (Aq Y)<|Ag<|Zn [2] ?_;refine Zx<|AC<|AL V AZ6 Y (by exact ⟨by exact congrArg Value.bool (Am8 (hcomp.2 ⟨by omega,by omega⟩)).symm,V⟩)
  rw [Am5 hc19];refine Ao2 19 V (AP Y)<|Ao2 20 V (AP Y) ?_
  (refine Ao2 21 rfl (CS (n:=1) Y Y ?_ ?_) ?_;(focus (first|omega|(simp;omega)));(focus (first|omega|(simp;omega))))
  refine Ao2 23 V (AB (off:=3) AU8 V rfl AU1 Y)<|Ao3 24 V Wh (BX AU2 Y Ap1) ?_;refine Yz 22 4194303 33554431 [24,16,12,7] [true,false,false,false] [(24,(_,_))] V Y V rfl V rfl (Zu [_] Y call301 Y V (Gj x vp vt hR Ao7 pb (x.rows.length -1) rl hrl)) ?_;rintro _ _ ⟨rfl,rfl⟩;refine ⟨Zk (AV),?_⟩;refine Ao2 25 V (FI Y Y)<|Ao2 26 V (AU Y Y)<|An9 27 V (AZ Y Y)<|An9 28 V (Aq Y)<|Ag<|Zn [2] ?_;refine Zx<|AC<|AL V AZ6 Y (by exact ⟨by exact TA ⟨fun h9=>hcomp.2 ⟨by omega,by omega⟩,fun h9=>by have:=hcomp.1 h9;omega⟩,V⟩)
 rw [Am5 hc18];refine Ao1 11 V<|Ao1 12 V<|Ao1 13 V<|Ao1 14 V<|Ao1 15 V<|Ao1 16 V<|Ao1 17 V<|Ao1 18 V<|Ao1 19 V<|Ao1 20 V<|Ao1 21 V<|Ao1 22 V<|Ao1 23 V<|Ao1 24 V<|Ao1 25 V<|Ao1 26 V<|An9 27 V (AU Y Y)<|An9 28 V (Aq Y)<|Ag<|Zn [2] ?_;refine Zx<|AC<|AL V AZ6 Y (by exact ⟨by exact congrArg Value.bool (Am5 (fun h9=>by have:=hcomp.1 h9;omega)).symm,V⟩)
def inB(x:RP)(r:AQ):Bool:=decide (x.lo<=Be r x.cl/\Be r x.cl<=x.hi)
noncomputable def Dx(x:RP):List AQ:=if G9 x then x.rows.filter (inB x)else []
theorem aH(h:G9 x):Dx x=x.rows.filter (inB x):=Am7 h
theorem wG(h:¬G9 x):Dx x=[]:=Am6 h
theorem pI{i:Nat}{r:AQ}(hr:x.rows[i]?=some r)(h:inB x r=true):(x.rows.take (i+1)).filter (inB x)=(x.rows.take i).filter (inB x)++[r]:=by rw [Bc hr,AB3];simp [h]
theorem WA{i:Nat}{r:AQ}(hr:x.rows[i]?=some r)(h:inB x r=false):(x.rows.take (i+1)).filter (inB x)=(x.rows.take i).filter (inB x):=by rw [Bc hr,AB3];simp [h]
set_option maxHeartbeats 4000000 in
theorem gW(hv:WY M v x):BR Tryz.prog 218 #[v] [M] (fun r H'=>∃vr sr,r= .tuple #[vr,.bool (decide (G9 x))]/\BZ 5 83 vr (Dx x).length (Ac (Dx x)) sr/\H'=[sr,M]):=by
 have hml:=mL;obtain ⟨vr,vp,vt,rfl,hR,hP,hT⟩:=id hv;obtain ⟨p,cap,e9,hl,hg⟩:=id hR;subst e9;refine Se func218 ntmps218 [0] ?_;intro u R;refine Zq<|Zg<|Ze (Bx #[_,_,_,_,_,_,_,_,_]) ?_;rintro _ _ ⟨pb,rfl,rfl⟩;refine Za Y<|Za Y<|Z0<|Zx<|Zq<|Zq<|Zg<|Zo Wh (AA (cs:=#[I4 x.tb,I4 x.cl,I4 x.lo,I4 x.hi,I4 x.ct,I4 x.fi,.slice p x.rows.length cap,vp,vt]) Ak1 Ab0 Y (by(simp;done)) Ap1) ?_;refine Xr [_] Y call271 Y V (Tu hv) ?_;refine Zv (Eg Y)<|Z0<|Zx<|Aw Y (fun hcm=>?_) (fun hcm=>?_)
 ·
  refine BV<|Zq<|Zg<|Za Y<|Za Y<|Z0<|Zx<|AC<|Zt<|Ci rfl results218 Y Y (by exact ⟨.slice none 0 0,[],by rw [Am5 hcm],by rw [wG hcm];exact Bf 5 _,rfl⟩)
 have hcm:=AD7.1 hcm;have hc1:=hcm.tc
 have hc2:=hcm.ct;have hc3:=hcm.n
 have hc4:=hcm.fi;refine AJ<|Zx<|Zq<|Zg<|Za Y<|Z0<|Zx<|Zq<|Zq<|Zg<|Zh 6 AU8 V rfl AW8 Y<|Zl Ab2 Y ?_;refine Zv (Aa AU4 Y)<|Zm Y<|Z0<|Zx<|AO<|BV<|Zb [4,14,1,12,13] ?_;refine BI (e0:=[(4,_),(14,_)]) (fun m e H=>∃(i:Nat) (vo:Value) (so:List A8),m=x.rows.length -i/\(i<=x.rows.length/\BZ 5 83 vo ((x.rows.take i).filter (inB x)).length (Ac ((x.rows.take i).filter (inB x))) so)/\e=[(4,vo),(14,I4 (i:Int))]/\H=[so]) (by exact ⟨0,.slice none 0 0,[],rfl,⟨zT _,by rw [AC9];exact Bf 5 _⟩,rfl,rfl⟩) Wp ?_;rintro _ _ _ ⟨i,vo,so,rfl,⟨hi,hro⟩,rfl,rfl⟩;obtain ⟨qo,co,rfl⟩:=hro.form;have hfl:((x.rows.take i).filter (inB x)).length<=i:=AK0 (AD3 _ _) (List.length_take_le _ _)
 refine Zq<|Zg<|Zv (Au Y Y)<|Z0<|Zx<|Zq<|Aw Y (fun hlt=>?_) (fun hlt=>?_)
 ·
  obtain ⟨r,hr⟩:∃r,x.rows[i]?=some r:=⟨_,zD hlt⟩;obtain ⟨g,off,cur,T,zz,rfl,hm9,hsz9,hex9⟩:=hg i r hr;refine AJ<|Zx<|Zq<|AO<|Zq<|Zg<|Bq (Ai AU4 AU5 Y Y Ao7)<|CW (cs:=[(g,.cells cur T zz)]) (by simp [hm9]) (AA (cs:=#[I4 r.t,I4 r.k,I4 r.v.a,I4 r.v.b,I4 r.v.c]) AX3 AU5 Y Ao7 hex9) V rfl ?_;refine Ze (Al AW7 #[_,_,_,_,_]) ?_;rintro _ _ ⟨rb,rfl,rfl⟩;refine Xe (Xw AU5 #[I4 r.t,I4 r.k,I4 r.v.a,I4 r.v.b,I4 r.v.c]) ?_;refine Z0<|Zx<|Zq<|Zg<|Zo Wh (AA (cs:=#[_,_,_,_,_]) AX3 AU5 Y (by(simp;done)) Ap1) ?_;refine Zh 1 AU8 V rfl AU1 Y<|Zl AU2 Y ?_;refine Xr [_,_] Y Ah3 Y V (FW r x.cl Ao7) ?_;refine Za Y<|Z0<|Zx<|Zq<|Zg<|Zm Y<|Zh 2 AU8 V rfl AU1 Y<|Zl AU2 Y ?_;refine Zv (Iq Y Y)<|Zm Y<|Ak (t:=26) Y V (fun hg1=>?_) (fun hg1=>?_)
  ·
   refine Zf Y Y<|Yf 3 AU8 V rfl AU1 Y<|Yl AU2 Y ?_;refine Yg (OD Y Y)<|Zv (AZ Y Y)<|Z0<|Zn [1,4,6,12,13,14,31] ?_;refine Zx<|Aw Y (fun hg2=>?_) (fun hg2=>?_)
   ·
    have hin:inB x r=true:=Am8 Ao7;refine Zg<|Zm Y<|Zo Wh (AA (cs:=#[_,_,_,_,_]) AX3 AU5 Y (by(simp;done)) Ap1) ?_;refine Ze (Af (vs:=[_]) (cs:=[_,_,_,_,_]) AU4 AU5 AW7 Y V rfl V rfl V) ?_;rintro _ _ ⟨gb,rfl,rfl⟩;refine Ze (Bl (by_:=40) (sz:=5) AU4 (V:Tryz.prog.info? 83=some Tryz.t83) V rfl V rfl Y (hro) Y (DD 5 gb 1 1 83 (0,0) [I4 r.t,I4 r.k,I4 r.v.a,I4 r.v.b,I4 r.v.c] V) Wo Wo Ap5 Ao7 Ao7) ?_;rintro _ _ ⟨sa9,hra9,rfl⟩;obtain ⟨ga9,ca9,rfl⟩:=hra9.form;refine Za Y<|Z0<|A9<|Zx<|Zg<|Ya (n:=1) Y Y<|Zm Y<|Z0<|Zn [4,14,1,12,13] ?_;refine Ad (e':=[(4,_),(14,_)]) (by exact ⟨i+1,_,_,rfl,⟨by omega,BO hra9 (by rw [pI hr hin,zG];rfl) (by rw [pI hr hin,C9];rfl)⟩,rfl,rfl⟩)
   have hin:inB x r=false:=Am5 Ao7;refine AJ<|A9<|Zx<|Zg<|Ya (n:=1) Y Y<|Zm Y<|Z0<|Zn [4,14,1,12,13] ?_;refine Ad (e':=[(4,_),(14,_)]) (by exact ⟨i+1,_,so,rfl,⟨by omega,BO hro (by rw [WA hr hin]) (by rw [WA hr hin])⟩,rfl,rfl⟩)
  have hin:inB x r=false:=Am5 Ao7;refine A7 Y V<|A7 Y V<|A7 Y V<|A7 Y V<|Zv (AU Y Y)<|Z0<|Zn [1,4,6,12,13,14,31] ?_;refine Zx<|Dv Y<|AJ<|A9<|Zx<|Zg<|Ya (n:=1) Y Y<|Zm Y<|Z0<|Zn [4,14,1,12,13] ?_;refine Ad (e':=[(4,_),(14,_)]) (by exact ⟨i+1,_,so,rfl,⟨by omega,BO hro (by rw [WA hr hin]) (by rw [WA hr hin])⟩,rfl,rfl⟩)
 have ei:i=x.rows.length:=by omega
 subst ei;rw [AA4]at hro⊢;refine BG<|Zt<|Zt<|AX<|Zx<|Zq<|Zg<|Zm Y<|Za Y<|Za Y<|Z0<|Zx<|AC<|Ci rfl results218 Y Y (by exact ⟨.slice qo _ co,so,by rw [Am8 hcm],by rw [aH hcm];exact hro,rfl⟩)
end Go.Proofs.YteaiajghbkenoaaGreatDoor
