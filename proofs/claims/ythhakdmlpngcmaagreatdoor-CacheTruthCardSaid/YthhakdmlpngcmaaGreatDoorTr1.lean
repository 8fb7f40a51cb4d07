/- The patches of least and greatest values; the patch of a kind. -/
import Derived.Test.YthhakdmlpngcmaaGreatDoorPj4
set_option linter.unusedVariables false
set_option linter.unusedSimpArgs false
namespace Go.Proofs.YthhakdmlpngcmaaGreatDoor
open Go.Proofs.Tryz
open Go Go.RowKit Gw
set_option maxRecDepth 100000
attribute [local irreducible] Gw.At Gw.Nx Gw.Ops
def Bv(q:QM)(c:Chg)(r:C9):C9×Bool:=
 if q.kd=1\/q.kd=2 then(⟨EA q c r.rows,r.val,r.fnd⟩,true)
 else if q.kd=3 then(⟨r.rows,if(afQ q c).isSome then r.val+1 else r.val -1,r.fnd⟩,true)
 else if q.kd=4 then(⟨r.rows,r.val+(mQ q (afQ q c) -mQ q (bfQ q c)),r.fnd⟩,true)
 else if q.kd=5 then Jw (fun a b=>decide (a<b)) (bfQ q c).isSome (afQ q c).isSome (mQ q (bfQ q c)) (mQ q (afQ q c)) r
 else if q.kd=6 then Jw (fun a b=>decide (b<a)) (bfQ q c).isSome (afQ q c).isSome (mQ q (bfQ q c)) (mQ q (afQ q c)) r
 else DJ q c r
theorem fG(q:QM)(c:Chg)(r:C9):(Bv q c r).1.rows.length<=r.rows.length+2:=by
 have h:=Ue q c r.rows;unfold Bv;split;· exact R0 h (Nat.le_succ _)
 · split
   · exact fj _ _
   · split
     · exact fj _ _
     · split
       · rw [Mw];exact fj _ _
       · split
         · rw [Mw];exact fj _ _
         · exact fI q c r
set_option maxHeartbeats 1000000 in
theorem Vg(q:QM)(c:Chg)(J K:B8)(o n:Int)(r:C9)(Z:B8)(X O b B:Nat)(lt:Int->Int->Bool)(G:∀(args:AM) (w:AD),(callFunc B args).run prog w= .ok (.enter B args) w)(I:∀x y:Int,BJ prog B #[I0 x,I0 y] [] (.bool (lt x y))):BJ prog 246 #[.agg (q.GW c J K o n),.agg #[.slice Z X O,I0 r.val,.bool r.fnd],I1 b] [[(b,.cells #[.func (.func B) #[] #[]] 224 (0,0))]] (.tuple #[.agg #[.slice Z X O,I0 (Jw lt J.isSome K.isSome o n r).1.val,.bool (Jw lt J.isSome K.isSome o n r).1.fnd],.bool (Jw lt J.isSome K.isSome o n r).2]):=by
 refine Se func246 ntmps246 [0,1,2] ?_;intro u R;refine A1<|Ze (F8 Y (cs:=(q.GW c J K o n)) (GK q c J K o n))<|AG fun be=>Ze (Bx #[.slice Z X O,I0 r.val,.bool r.fnd])<|AG fun br=>Ze (Al GS #[_,_,_])<|AG fun b3=>A5 Y<|Zq<|Zb [2,3,4,5] ?_;refine Ch (e0:=[]) (H0:=[]) (fun e H=>∃(w1:Bool),(w1=(J.isSome&&(!r.fnd||!lt r.val o)))/\e=[(24,.bool w1)]/\H=[]) Wp ?hx_1 ?hy_1
 case hx_1=>
  refine Zg<|Zh 17 F0 V rfl LR Y<|Zl Of Y ?_;refine Zv (Fv W1 Y Y)<|Zm Y<|Aj (t:=11) Y V (fun h1=>?_) (fun h1=>?_);·
   refine Yf 2 DS V rfl DM Y<|Yl Fc Y ?_;refine Yg (Br Y)<|Zf Y Y ?_;refine Aj (t:=15) Y V (fun h2=>?_) (fun h2=>?_);·
    refine A7 Y V<|A7 Y V<|A7 Y V<|A7 Y V<|A7 Y V<|A7 Y V<|A7 Y V<|Yg (AX Y Y)<|Zv (AX Y Y)<|Z0<|Zn [24,2,3,4,5] ?_;refine BB (e':=[(24,_)]) (by exact ⟨_,by simp_all,V,V⟩)
   refine Yl isAgg224 Y ?_;refine Yf 1 DS V rfl AE Y<|Yl AH Y ?_;refine Yf 19 F0 V rfl AE Y<|Yl AH Y ?_;refine Xr [_,_] Y (G) Y V (I (r.val) (o)) ?_;refine Yg (Br Y)<|Yg (AL Y Y)<|Zv (AX Y Y)<|Z0<|Zn [24,2,3,4,5] ?_;refine BB (e':=[(24,_)]) (by exact ⟨_,by simp_all,V,V⟩)
  refine A7 Y V<|A7 Y V<|A7 Y V<|A7 Y V<|A7 Y V<|A7 Y V<|A7 Y V<|A7 Y V<|A7 Y V<|A7 Y V<|A7 Y V<|A7 Y V<|Zv (AL Y Y)<|Z0<|Zn [24,2,3,4,5] ?_;refine BB (e':=[(24,_)]) (by exact ⟨_,by simp_all,V,V⟩)
 rintro _ _ ⟨w1,g,rfl,rfl⟩;refine AQ Y (fun U=>?_) (fun U=>?_);·
  rw [U]at g;refine Zb [2,3,4,5] ?_;refine Ch (e0:=[(2,_)]) (H0:=[]) (fun e H=>∃(w2:Bool),(w2=((K.isSome&&r.fnd)&&!lt r.val n))/\e=[(7,.bool w2)]/\H=[]) Wp ?hx_5 ?hy_5
  case hx_5=>
   refine Zg<|Zh 18 F0 V rfl LR Y<|Zl Of Y ?_;refine Zv (Fv W1 Y Y)<|Zm Y<|Aj (t:=28) Y V (fun h4=>?_) (fun h4=>?_);·
    refine Yf 2 DS V rfl DM Y<|Yl Fc Y ?_;refine Zv (AX Y Y)<|Zm Y<|Aj (t:=32) Y V (fun h5=>?_) (fun h5=>?_);·
     refine Yl isAgg224 Y ?_;refine Yf 1 DS V rfl AE Y<|Yl AH Y ?_;refine Yf 20 F0 V rfl AE Y<|Yl AH Y ?_;refine Xr [_,_] Y (G) Y V (I (r.val) (n)) ?_;refine Yg (Br Y)<|Zv (AX Y Y)<|AW Y<|Zn [7,3,4,5] ?_;refine BB (e':=[(7,_)]) (by exact ⟨_,by simp_all,V,V⟩)
    refine A7 Y V<|A7 Y V<|A7 Y V<|A7 Y V<|A7 Y V<|A7 Y V<|A7 Y V<|Zv (AL Y Y)<|AW Y<|Zn [7,3,4,5] ?_;refine BB (e':=[(7,_)]) (by exact ⟨_,by simp_all,V,V⟩)
   refine A7 Y V<|A7 Y V<|Zv (AL Y Y)<|Zm Y<|A7 Y V<|A7 Y V<|A7 Y V<|A7 Y V<|A7 Y V<|A7 Y V<|A7 Y V<|Zv (AL Y Y)<|AW Y<|Zn [7,3,4,5] ?_;refine BB (e':=[(7,_)]) (by exact ⟨_,by simp_all,V,V⟩)
  rintro _ _ ⟨w2,af,rfl,rfl⟩;refine A1<|Zh 20 F0 V rfl AE Y<|Zl AH Y ?_;refine Zh 1 DS V rfl AE Y<|Xe (Zs AE Y Y V (hi:=by(simp;done))) ?_;refine A6<|A1<|Zo Wh (AB (cs:=#[_,_,_]) CN B9 Y B5 Ax) ?_;refine Zm Y<|Xe (Xw B9 _) ?_;refine A5 Y<|AJ<|Zt<|CP V results246 Y Wh (Au CN B9 Wn (V)) Y (by
   refine ⟨?_,V⟩;unfold Jw;rw [<-g];clear g;try(rw [<-m];clear m)
   simp_all<;>rfl)
 rw [U]at g;refine AC<|Zx<|Zq<|A1<|Zh 18 F0 V rfl LR Y<|Zl Of Y ?_;refine Zv (Fv W1 Y Y)<|A6<|AQ Y (fun h6=>?_) (fun h6=>?_);·
  refine Zq<|Zb [2,3,4,5] ?_;refine Ch (e0:=[(2,_)]) (H0:=[]) (fun e H=>∃(w3:Bool),(w3=(!r.fnd||lt n r.val))/\e=[(59,.bool w3)]/\H=[]) Wp ?hx_10 ?hy_10
  case hx_10=>
   refine Zg<|Zh 2 DS V rfl DM Y<|Zl Fc Y ?_;refine Zv (Br Y)<|Zm Y<|Aj (t:=52) Y V (fun h7=>?_) (fun h7=>?_);·
    refine A7 Y V<|A7 Y V<|A7 Y V<|A7 Y V<|A7 Y V<|A7 Y V<|Zv (AX Y Y)<|Z0<|Zn [59,3,4,5] ?_;refine BB (e':=[(59,_)]) (by exact ⟨_,by simp_all,V,V⟩)
   refine Yl isAgg224 Y ?_;refine Yf 20 F0 V rfl AE Y<|Yl AH Y ?_;refine Yf 1 DS V rfl AE Y<|Yl AH Y ?_;refine Xr [_,_] Y (G) Y V (I (n) (r.val)) ?_;refine Zv (AL Y Y)<|Z0<|Zn [59,3,4,5] ?_;refine BB (e':=[(59,_)]) (by exact ⟨_,by simp_all,V,V⟩)
  rintro _ _ ⟨w3,m,rfl,rfl⟩;refine AQ Y (fun W=>?_) (fun W=>?_);·
   rw [W]at m;refine Zg<|Zh 20 F0 V rfl AE Y<|Zl AH Y ?_;refine Zh 1 DS V rfl AE Y<|Xe (Zs AE Y Y V (hi:=by(simp;done))) ?_;refine A6<|Zg<|Zh 2 DS V rfl DM Y<|Xe (Zs DM Y Y V (hi:=by(simp;done))) ?_;refine A6<|A1<|Zo Wh (AB (cs:=#[_,_,_]) CN B9 Y B5 Ax) ?_;refine Xe (Xw B9 _) ?_;refine A5 Y<|AJ<|CP V results246 Y Wh (Au CN B9 Wn (V)) Y (by
    refine ⟨?_,V⟩;unfold Jw;rw [<-g];clear g;try(rw [<-m];clear m)
    simp_all<;>rfl)
  rw [W]at m;refine AC<|Zx<|Zg<|Zh 2 DS V rfl DM Y<|Xe (Zs DM Y Y V (hi:=by(simp;done))) ?_;refine A6<|A1<|Zo Wh (AB (cs:=#[_,_,_]) CN B9 Y B5 Ax) ?_;refine Xe (Xw B9 _) ?_;refine A5 Y<|AJ<|CP V results246 Y Wh (Au CN B9 Wn (V)) Y (by
   refine ⟨?_,V⟩;unfold Jw;rw [<-g];clear g;try(rw [<-m];clear m)
   simp_all<;>rfl)
 refine AC<|Zx<|A1<|Zo Wh (AB (cs:=#[_,_,_]) CN B9 Y B5 Ax) ?_;refine Xe (Xw B9 _) ?_;refine A5 Y<|AJ<|CP V results246 Y Wh (Au CN B9 Wn (V)) Y (by
  refine ⟨?_,V⟩;unfold Jw;rw [<-g];clear g;try(rw [<-m];clear m)
  simp_all<;>rfl)
theorem uS(x y:Int):BJ prog 204 #[I0 x,I0 y] [] (.bool (decide (x<y))):=by
 refine Se func204 ntmps204 [0,1] ?_;intro u R;refine A1<|A5 Y<|A1<|Zm Y<|Zm Y<|Zv (EI Y Y)<|A5 Y<|AJ<|AP V results204 Y (by exact ⟨V,V⟩)
theorem uU(x y:Int):BJ prog 206 #[I0 x,I0 y] [] (.bool (decide (y<x))):=by
 refine Se func206 ntmps206 [0,1] ?_;intro u R;refine A1<|A5 Y<|A1<|Zm Y<|Zm Y<|Zv (Ef Y Y)<|A5 Y<|AJ<|AP V results206 Y (by exact ⟨V,V⟩)
def Gc(k:Int):Nat:=if k=1 then 197 else if k=2 then 197 else if k=3 then 199 else if k=4 then 201 else if k=5 then 246 else if k=6 then 246 else 208
def Ij(b5 b6:Nat)(k:Int):List A4:=if k=5 then [I1 b5]else if k=6 then [I1 b6]else []
theorem Vy{lm:List (Int×A4)}{g m:Nat}(h:∀p,p∈lm↔p∈M7 g m)(B:(lm.map (·.1)).Nodup){k:Int}(G:1<=k/\k<=7):Dq k lm=some (.agg #[.func (.func (He k)) #[] #[],.func (.func (Gc k)) #[] (Ij g m k).toArray]):=by
 obtain h9|h9|h9|h9|h9|h9|h9:k=1\/k=2\/k=3\/k=4\/k=5\/k=6\/k=7:=by omega
 all_goals subst h9
 all_goals exact ZT h B (by simp [M7,He,Gc,Ij])
theorem Km{k:Int}(g:1<=k/\k<=7):∀(args:AM) (w:AD),(callFunc (Gc k) args).run prog w= .ok (.enter (Gc k) args) w:=by
 obtain h|h|h|h|h|h|h:k=1\/k=2\/k=3\/k=4\/k=5\/k=6\/k=7:=by omega
 all_goals (subst h;simp only [Gc];first|exact call197|exact call199|exact call201|exact call246|exact call208)
theorem IC{P:Program}{f:FuncId}{args:AM}{H H1:Hp}{Q B:A4->Hp->Prop}(h:BS P f args H Q)(F:Hp)(K:H1.flatten.Perm (H++F).flatten)(O:∀v H',Q v H'->∃g E,B v g/\(H'.flatten++F.flatten).Perm (g.flatten++E)):BS P f args H1 B:=fun u R w U=>
 Calls.mono (h u (F++R) w (U.perm (by rw [HC,<-Cd,HC (L₁:=H++F)];exact K.append_right _))) fun e W J=>by
  rcases J with⟨v,H',rfl,m,h2⟩|⟨ch,H',rfl,m,h2⟩
  · obtain ⟨g,E,G,I⟩:=O v H' m
    refine .inl ⟨v,g,V,G,h2.sub ⟨E,?_⟩⟩;rw [HC,HC,HC,<-Cd];refine (I.append_right _).trans ?_;rw [Cd,Cd];exact Lo.append_left _
  · exact m.elim
def MIn(q:QM)(c:Chg):Prop:=(-1000000000<=mQ q (bfQ q c)/\mQ q (bfQ q c)<=1000000000)/\-1000000000<=mQ q (afQ q c)/\mQ q (afQ q c)<=1000000000
variable{q:QM}{b:Bool}{x:AU}
theorem zY(h:b=true->x.ok):-1000000000<=mQ q (I6 q b x)/\mQ q (I6 q b x)<=1000000000:=by
 unfold I6;split
 · rename_i h9
   rw [Fm]at h9;exact RV (h h9.1) q.bq
 · exact ⟨by show(-1000000000:Int)<=0;decide,by show(0:Int)<=1000000000;decide⟩
variable{c:Chg}
theorem uL(q:QM)(h:c.ok):MIn q c:=by
 obtain ⟨_,h2,_⟩:=h;refine ⟨zY fun g=>?_,zY fun g=>?_⟩
 · rw [PV g]at h2
   exact Hs.1 fun m=>h2 (.inl ⟨g,m⟩)
 · rw [LM g]at h2
   exact Hs.1 fun m=>h2 (.inr ⟨g,m⟩)
theorem Kw(q:QM)(c:Chg)(hq:BI q)(hm:MIn q c){K O:B8}{s1 s2:List A9}(ax:Il K (bfQ q c) s1)(U:Il O (afQ q c) s2)(g m:Nat)(r:C9)(Z:B8)(W:Nat)(G:List A9)(X:Bc 5 80 (.slice Z r.rows.length W) r.rows.length (Ae r.rows) G)(hn:r.rows.length<=100000000)(hv:-4000000000000000000<=r.val/\r.val<=4000000000000000000):
 BS prog (Gc q.kd) (.agg (q.GW c K O (mQ q (bfQ q c)) (mQ q (afQ q c))):: .agg #[.slice Z r.rows.length W,I0 r.val,.bool r.fnd]::Ij g m q.kd).toArray [G,s2,[(g,.cells #[.func (.func 204) #[] #[]] 224 (0,0))],[(m,.cells #[.func (.func 206) #[] #[]] 224 (0,0))]] (fun w H'=>∃B J,w= .tuple #[.agg #[B,I0 (Bv q c r).1.val,.bool (Bv q c r).1.fnd],.bool (Bv q c r).2]/\Bc 5 80 B (Bv q c r).1.rows.length (Ae (Bv q c r).1.rows) J/\H'=[J]):=by
 have e1:=ax.some_;have e2:=U.some_
 have af:=hq.2.1;have hk:q.kd=1\/q.kd=2\/q.kd=3\/q.kd=4\/q.kd=5\/q.kd=6\/q.kd=7:=by have:=hq.2.2.2;omega
 have I:(q.kd=1\/q.kd=2)->Bv q c r=(⟨EA q c r.rows,r.val,r.fnd⟩,true):=fun h=>by unfold Bv;rw [As h]
 have P1:=eQ q c K O (mQ q (bfQ q c)) (mQ q (afQ q c)) af X hn U;have P7:=eu q af c K O e1 U X hn
 have P3:=Z5 q c K O (mQ q (bfQ q c)) (mQ q (afQ q c)) Z r.rows.length W hv;have P4:=lw q c K O (mQ q (bfQ q c)) (mQ q (afQ q c)) Z r.rows.length W hv hm
 have P5:=Vg q c K O (mQ q (bfQ q c)) (mQ q (afQ q c)) r Z r.rows.length W g 204 (fun a b=>decide (a<b)) call204 uS;have P6:=Vg q c K O (mQ q (bfQ q c)) (mQ q (afQ q c)) r Z r.rows.length W m 206 (fun a b=>decide (b<a)) call206 uU
 rw [e2]at P3;rw [e1,e2]at P5 P6;rcases hk with h|h|h|h|h|h|h
 · rw [show Gc q.kd=197 by rw [h];rfl,show Ij g m q.kd=[] by rw [h];rfl,I (.inl h)]
   refine IC P1 [[(g,.cells #[.func (.func 204) #[] #[]] 224 (0,0))],[(m,.cells #[.func (.func 206) #[] #[]] 224 (0,0))]] B4 ?_;rintro w H' ⟨B,J,rfl,h3,rfl⟩;exact ⟨[J],_,⟨B,J,V,h3,V⟩,by simp;exact .refl _⟩
 · rw [show Gc q.kd=197 by rw [h];rfl,show Ij g m q.kd=[] by rw [h];rfl,I (.inr h)]
   refine IC P1 [[(g,.cells #[.func (.func 204) #[] #[]] 224 (0,0))],[(m,.cells #[.func (.func 206) #[] #[]] 224 (0,0))]] B4 ?_;rintro w H' ⟨B,J,rfl,h3,rfl⟩;exact ⟨[J],_,⟨B,J,V,h3,V⟩,by simp;exact .refl _⟩
 · rw [show Gc q.kd=199 by rw [h];rfl,show Ij g m q.kd=[] by rw [h];rfl,show Bv q c r=(⟨r.rows,if(afQ q c).isSome then r.val+1 else r.val -1,r.fnd⟩,true) by unfold Bv;rw [An A0,As h]]
   refine IC P3 [G,s2,[(g,.cells #[.func (.func 204) #[] #[]] 224 (0,0))],[(m,.cells #[.func (.func 206) #[] #[]] 224 (0,0))]] B4 ?_;rintro w H' ⟨rfl,rfl⟩;exact ⟨[G],_,⟨_,G,V,X,V⟩,by simp;exact .refl _⟩
 · rw [show Gc q.kd=201 by rw [h];rfl,show Ij g m q.kd=[] by rw [h];rfl,show Bv q c r=(⟨r.rows,r.val+(mQ q (afQ q c) -mQ q (bfQ q c)),r.fnd⟩,true) by unfold Bv;rw [An A0,An A0,As h]]
   refine IC P4 [G,s2,[(g,.cells #[.func (.func 204) #[] #[]] 224 (0,0))],[(m,.cells #[.func (.func 206) #[] #[]] 224 (0,0))]] B4 ?_;rintro w H' ⟨rfl,rfl⟩;exact ⟨[G],_,⟨_,G,V,X,V⟩,by simp;exact .refl _⟩
 · have e9:Bv q c r=Jw (fun a b=>decide (a<b)) (bfQ q c).isSome (afQ q c).isSome (mQ q (bfQ q c)) (mQ q (afQ q c)) r:=by unfold Bv;rw [An A0,An A0,An A0,As h]
   have e8:(Bv q c r).1.rows=r.rows:=by rw [e9,Mw]
   rw [show Gc q.kd=246 by rw [h];rfl,show Ij g m q.kd=[I1 g] by rw [h];rfl];rw [<-e9]at P5;refine IC P5 [G,s2,[(m,.cells #[.func (.func 206) #[] #[]] 224 (0,0))]] (by simp;rw [<-Cd,<-Cd];exact Nd) ?_;rintro w H' ⟨rfl,rfl⟩;exact ⟨[G],[(g,_)]++s2++_,⟨_,G,rfl,by rw [e8];exact X,rfl⟩,by simp;exact Nd.symm⟩
 · have e9:Bv q c r=Jw (fun a b=>decide (b<a)) (bfQ q c).isSome (afQ q c).isSome (mQ q (bfQ q c)) (mQ q (afQ q c)) r:=by unfold Bv;rw [An A0,An A0,An A0,An A0,As h]
   have e8:(Bv q c r).1.rows=r.rows:=by rw [e9,Mw]
   rw [show Gc q.kd=246 by rw [h];rfl,show Ij g m q.kd=[I1 m] by rw [h];rfl];rw [<-e9]at P6;refine IC P6 [G,s2,[(g,.cells #[.func (.func 204) #[] #[]] 224 (0,0))]] (by simp;rw [<-Cd,<-Cd];exact ((List.Perm.swap _ _ []).append_left _).trans Nd) ?_;rintro w H' ⟨rfl,rfl⟩;exact ⟨[G],[(m,_)]++s2++_,⟨_,G,rfl,by rw [e8];exact X,rfl⟩,by simp;exact Nd.symm⟩
 · rw [show Gc q.kd=208 by rw [h];rfl,show Ij g m q.kd=[] by rw [h];rfl,show Bv q c r=DJ q c r by unfold Bv;rw [An A0,An A0,An A0,An A0,An A0]]
   refine IC P7 [[(g,.cells #[.func (.func 204) #[] #[]] 224 (0,0))],[(m,.cells #[.func (.func 206) #[] #[]] 224 (0,0))]] B4 ?_;rintro w H' ⟨B,J,rfl,h3,rfl⟩;exact ⟨[J],_,⟨B,J,V,h3,V⟩,by simp;exact .refl _⟩
def Da(q:QM)(c:Chg):Bool:=decide c.ok&&Cn q c
def DC(q:QM)(c:Chg)(r:C9):C9×Bool:=if Da q c then(if(Bv q c r).2 then((Bv q c r).1,true)else(C9.none,false))else(r,true)
def Ht(q:QM)(r:C9):List Chg->Option C9
 |[]=>some r
 |c::cs=>if(DC q c r).2 then Ht q (DC q c r).1 cs else none
theorem SY(q:QM):∀(a:List Chg) (r:C9) (b:List Chg),Ht q r (a++b)=(Ht q r a).bind fun g=>Ht q g b
 |[],_,_=>rfl
 |c::a,r,b=>by
  show(if(DC q c r).2 then Ht q (DC q c r).1 (a++b)else none)=(if(DC q c r).2 then Ht q (DC q c r).1 a else none).bind fun g=>Ht q g b;split;· exact SY q a _ b
  · rfl
def Bb(q:QM)(r:C9)(cs:List Chg):C9×Bool×Bool:=match Ht q r cs with
 |some r'=>(r',cs.any (Da q),true)
 |none=>(C9.none,true,false)
theorem lH(q:QM)(c:Chg)(r:C9):(DC q c r).1.rows.length<=r.rows.length+2:=by
 have h:=fG q c r;unfold DC;split
 · split
   · exact h
   · exact C7 _
 · exact fj _ _
variable{r:C9}
theorem fF(m:MIn q c){B:Int}(h:-B<=r.val/\r.val<=B)(h0:0<=B):-(B+2000000000)<=(Bv q c r).1.val/\(Bv q c r).1.val<=B+2000000000:=by
 obtain ⟨⟨G,h2⟩,I,J⟩:=m;have g:∀lt b a,-(B+2000000000)<=(Jw lt b a (mQ q (bfQ q c)) (mQ q (afQ q c)) r).1.val/\(Jw lt b a (mQ q (bfQ q c)) (mQ q (afQ q c)) r).1.val<=B+2000000000:=fun lt b a=>by
  unfold Jw;split;· constructor<;>(simp only;omega)
  · split
    · simp only
      split<;>(constructor<;>omega)
    · constructor<;>(simp only;omega)
 unfold Bv;split;· constructor<;>(simp only;omega)
 · split
   · simp only
     split<;>(constructor<;>omega)
   · split
     · constructor<;>(simp only;omega)
     · split
       · exact g _ _ _
       · split
         · exact g _ _ _
         · rw [fH];constructor<;>omega
theorem lG{B:Int}(h:-B<=r.val/\r.val<=B)(h0:0<=B):-(B+2000000000)<=(DC q c r).1.val/\(DC q c r).1.val<=B+2000000000:=by
 unfold DC;split
 · rename_i h9
   unfold Da at h9;rw [Fm]at h9;split;· exact fF (uL q (HN h9.1)) h h0
   · constructor<;>(simp only [C9.none];omega)
 · constructor<;>(simp only;omega)
variable{cs:List Chg}{k:Nat}
theorem K7{g:C9}{x:Chg}(h:Ht q r (cs.take k)=some g)(m:cs[k]?=some x):Ht q r (cs.take (k+1))=if(DC q x g).2 then some (DC q x g).1 else none:=by
 rw [Bl m,SY,h];show Ht q g [x]=_
 unfold Ht Ht;rfl
theorem Pv(h:Ht q r (cs.take k)=none):Ht q r cs=none:=by
 rw [<-K1 k cs,SY,h];rfl
theorem WV{x:Chg}(f:Chg->Bool)(g:cs[k]?=some x):(cs.take (k+1)).any f=((cs.take k).any f||f x):=by
 rw [Bl g,List.any_append,my,nF,ft]
theorem XB{q:QM}:∀(cs:List Chg) (r r':C9) (B:Int) (n:Nat),Ht q r cs=some r'->(-B<=r.val/\r.val<=B)->0<=B->r.rows.length<=n->(-(B+2000000000*(cs.length:Int))<=r'.val/\r'.val<=B+2000000000*(cs.length:Int))/\r'.rows.length<=n+2*cs.length
 |[],r,r',B,n,h,h1,h2,h3=>by
  unfold Ht at h;injection h with h
  subst h;simp only [Ks];exact ⟨⟨by omega,by omega⟩,h3⟩
 |c::cs,r,r',B,n,h,h1,h2,h3=>by
  unfold Ht at h;split at h
  · have g:=lG (q:=q) (c:=c) h1 h2
    have G:=lH q c r;have m:=XB cs _ r' (B+2000000000) (n+2) h g A0 A0
    rw [E4];obtain ⟨⟨I,J⟩,K⟩:=m;refine ⟨⟨?_,?_⟩,by omega⟩<;>(push_cast;omega)
  · cases h
variable{rv:A4}{A:List A9}
set_option maxHeartbeats 1000000 in
theorem TA(q:QM)(g:BI q)(c:Chg)(hr:Di A rv r.rows)(hn:r.rows.length<=100000000)(hv:-4000000000000000000<=r.val/\r.val<=4000000000000000000):BS prog 97 #[.agg q.A95,.agg #[rv,I0 r.val,.bool r.fnd],.agg c.A93] [A] (fun w H'=>∃bn s',w= .tuple #[.agg #[bn,I0 (DC q c r).1.val,.bool (DC q c r).1.fnd],.bool (DC q c r).2]/\Bc 5 80 bn (DC q c r).1.rows.length (Ae (DC q c r).1.rows) s'/\H'=[s',A]):=by
 have d9:=mL;obtain ⟨pv,cv,rfl,_⟩:=id hr;refine Se func97 ntmps97 [0,1,2] ?_;intro u R;refine A1<|Ze (Bx q.A95)<|AG fun bq=>Ze (Bx #[.slice pv r.rows.length cv,I0 r.val,.bool r.fnd])<|AG fun br=>Ze (Bx c.A93)<|AG fun bc=>Ze (Al GS #[_,_,_])<|AG fun bo=>A5 Y<|A1<|Zh 0 DS V rfl D3 Y<|Zl GF Y<|Zc [_] Y call76 Y V (Gm hr A0) ?_;rintro _ _ ⟨_,⟨s1,h1,rfl⟩,rfl⟩;obtain ⟨g1,c1,rfl⟩:=h1.form;refine Zh 0 DS V rfl D3 Y<|Xe (Zs D3 Y Y V (hi:=by(simp;done)))<|A6<|Zq<|A1<|Zo Wh (AB (cs:=#[_,_,_,_,_,_,_]) F1 CM Y B5 Ax)<|Zo Wh (AB (cs:=#[_,_,_,_,_,_,_,_,_,_]) GP CA Y B5 Ax)<|Xr [_,_] Y call96 Y V (Kg q c) ?_;rw [show(decide (BI q)&&(decide c.ok&&Cn q c))=Da q c by rw [D2 g];rfl];refine Zv (Br Y)<|Z0<|Zn [3,4,5,6,17] ?_;refine Zx<|AQ Y (fun ht=>?_) (fun ht=>?_);·
  have G:Da q c=false:=by simpa using ht
  refine A1<|Zo Wh (AB (cs:=#[_,_,_]) CN B9 Y B5 Ax)<|Xe (Xw B9 _)<|A5 Y<|AJ<|Zt<|CP V results97 Y Wh (Au CN B9 Wn (V)) Y (by
   have Z:DC q c r=(r,true):=by unfold DC;rw [G];rfl
   exact ⟨.slice g1 r.rows.length c1,s1,by rw [Z];rfl,by rw [Z];exact h1,rfl⟩)
 have G:Da q c=true:=by simpa using ht
 have X:c.ok:=by unfold Da at G;rw [Fm]at G;exact HN G.1
 refine AC<|Zx<|Zb [3,4,5,6] ?_;refine Ch (e0:=[(3,_),(4,_),(5,_)]) (H0:=[s1]) (fun e H=>∃(U:Nat) (B:B8) (m:Nat) (O:List A9),(Bc 5 80 (.slice B (Bv q c r).1.rows.length m) (Bv q c r).1.rows.length (Ae (Bv q c r).1.rows) O)/\e=[(8,I1 U),(9,.bool (Bv q c r).2)]/\H=[[(U,.cells #[.slice B (Bv q c r).1.rows.length m,I0 (Bv q c r).1.val,.bool (Bv q c r).1.fnd] 61 (0,0))],O]) Wp ?hx_2 ?hy_2
 case hx_2=>
  refine Aw (n:=16) (0::0::2::7::15::0::0::97::0::511::1023::2047::2047::0::12287::32767::[]) 25217 AF AF V<|A3 1 V (AA (off:=0) CI V rfl AE Y)<|BE 2 V AH Y<|FF 5 V Wh (AB (cs:=#[_,_,_,_,_,_,_]) F1 CM Y B5 Ax)<|FF 6 V Wh (AB (cs:=#[_,_,_,_,_,_,_,_,_,_]) GP CA Y B5 Ax)<|FF 8 V Wh (AB (cs:=#[_,_,_]) CN B9 Y B5 Ax)<|Zz (l:=[0,13])<|B7 [true,true,true,true] [(8,(_,_)),(6,(_,_)),(5,(_,_)),(2,(_,_))] V rfl (Zw [] Y call151 Y V (Nr)) ?_ Bp ?_;·
   rintro _ _ ⟨_,⟨mb,es,ck,lm,b5,b6,rfl,hm,hp,rfl⟩,rfl⟩;refine ⟨Zk (Zk (Zk (Zk (AY)))),?_⟩;have W:=Vy hp hm.keys g.kind
   refine FF 3 rfl Wh (Dp I8 Z1 ZD hm (fun _ _=>trivial) (trivial) ((by rw [W];exact rfl:_=Value.agg #[.func (.func (He q.kd)) #[] #[],.func (.func (Gc q.kd)) #[] (Ij b5 b6 q.kd).toArray])) Y Y)<|A3 4 rfl (XP Ys rfl isAgg258 Y rfl)<|Zz (l:=[7,13])<|B7 [true,true,false,false,true] [(3,(_,_)),(8,(_,_)),(2,(_,_))] rfl rfl (Zw [_,_] Y call152 Y rfl (Ji q g.2.1 (by have:=g.2.2.2;omega) c)) ?_ Bp ?_;·
    rintro _ _ ⟨_,⟨p1,p2,cu,cO,rfl,J,K,rfl⟩,rfl⟩;refine Bk<|Zz (l:=[9,13])<|B7 [false,false,false] [] V rfl (Zw [_,_] Y (Km g.kind) Y V (Kw q c g (uL q X) J K b5 b6 r g1 c1 s1 h1 hn hv)) ?_ Bp ?_;·
     rintro _ _ ⟨_,⟨ax,O,rfl,I,rfl⟩,rfl⟩;refine ⟨AY,?_⟩;obtain ⟨B,m,rfl⟩:=I.form;refine A3 10 V (AO Y)<|A3 11 V (CE Y V)<|A3 12 V (CE Y V)<|Zz (l:=[13])<|B7 [] [] V rfl (Al GS #[_,_,_]) ?_ (fun _ _ h=>h.elim) Ah;rintro _ _ ⟨U,rfl,rfl⟩;refine Bk<|Yw 14 32767 V (Xw B9 #[.slice B (Bv q c r).1.rows.length m,I0 (Bv q c r).1.val,.bool (Bv q c r).1.fnd])<|D0<|A3 15 V (Aq Y)<|Ag<|Zn [8,9,6] ?_;refine BB (e':=[(8,_),(9,_)]) (by exact ⟨U,B,m,O,I,V,V⟩)
    refine B7 [true,true,true] [(3,(_,_)),(8,(_,_)),(2,(_,_))] V rfl (Al GS #[_,_,_]) ?_ (fun _ _ h=>h.elim) Ah;rintro _ _ ⟨U,rfl,rfl⟩;refine Bk<|Zz (l:=[9])<|B7 [false,false,false] [] V rfl (Zw [_,_] Y (Km g.kind) Y V (Kw q c g (uL q X) J K b5 b6 r g1 c1 s1 h1 hn hv)) ?_ Bp Ah;rintro _ _ ⟨_,⟨ax,O,rfl,I,rfl⟩,rfl⟩;refine ⟨AY,?_⟩;obtain ⟨B,m,rfl⟩:=I.form;refine A3 10 V (AO Y)<|A3 11 V (CE Y V)<|A3 12 V (CE Y V)<|Zz (l:=[14])<|B7 [] [] V rfl (Xw B9 #[.slice B (Bv q c r).1.rows.length m,I0 (Bv q c r).1.val,.bool (Bv q c r).1.fnd]) ?_ (fun _ _ h=>h.elim) Ah;rintro _ _ ⟨rfl,rfl⟩;refine Bk<|A3 15 V (Aq Y)<|Ag<|Zn [8,9,6] ?_;refine BB (e':=[(8,_),(9,_)]) (by exact ⟨U,B,m,O,I,V,V⟩)
   refine B7 [true,true,true,true,true] [(3,(_,_)),(8,(_,_)),(6,(_,_)),(5,(_,_)),(2,(_,_))] V rfl (Al GS #[_,_,_]) ?_ (fun _ _ h=>h.elim) Ah;rintro _ _ ⟨U,rfl,rfl⟩;refine Bk<|Zz (l:=[7])<|B7 [true,true,false,false,true] [(3,(_,_)),(8,(_,_)),(2,(_,_))] V rfl (Zw [_,_] Y call152 Y V (Ji q g.2.1 (by have:=g.2.2.2;omega) c)) ?_ Bp Ah;rintro _ _ ⟨_,⟨p1,p2,cu,cO,rfl,J,K,rfl⟩,rfl⟩;refine Bk<|Zz (l:=[9])<|B7 [false,false,false] [] V rfl (Zw [_,_] Y (Km g.kind) Y V (Kw q c g (uL q X) J K b5 b6 r g1 c1 s1 h1 hn hv)) ?_ Bp Ah;rintro _ _ ⟨_,⟨ax,O,rfl,I,rfl⟩,rfl⟩;refine ⟨AY,?_⟩;obtain ⟨B,m,rfl⟩:=I.form;refine A3 10 V (AO Y)<|A3 11 V (CE Y V)<|A3 12 V (CE Y V)<|Zz (l:=[14])<|B7 [] [] V rfl (Xw B9 #[.slice B (Bv q c r).1.rows.length m,I0 (Bv q c r).1.val,.bool (Bv q c r).1.fnd]) ?_ (fun _ _ h=>h.elim) Ah;rintro _ _ ⟨rfl,rfl⟩;refine Bk<|A3 15 V (Aq Y)<|Ag<|Zn [8,9,6] ?_;refine BB (e':=[(8,_),(9,_)]) (by exact ⟨U,B,m,O,I,V,V⟩)
  refine B7 [true,true,true,true] [(8,(_,_)),(6,(_,_)),(5,(_,_)),(2,(_,_))] V rfl (Al GS #[_,_,_]) ?_ (fun _ _ h=>h.elim) Ah;rintro _ _ ⟨U,rfl,rfl⟩;refine Bk<|Zz (l:=[0])<|B7 [true,true,true,true] [(8,(_,_)),(6,(_,_)),(5,(_,_)),(2,(_,_))] V rfl (Zw [] Y call151 Y V (Nr)) ?_ Bp Ah;rintro _ _ ⟨_,⟨mb,es,ck,lm,b5,b6,rfl,hm,hp,rfl⟩,rfl⟩;refine ⟨Zk (Zk (Zk (Zk (AY)))),?_⟩;have W:=Vy hp hm.keys g.kind
  refine FF 3 rfl Wh (Dp I8 Z1 ZD hm (fun _ _=>trivial) (trivial) ((by rw [W];exact rfl:_=Value.agg #[.func (.func (He q.kd)) #[] #[],.func (.func (Gc q.kd)) #[] (Ij b5 b6 q.kd).toArray])) Y Y)<|A3 4 rfl (XP Ys rfl isAgg258 Y rfl)<|Zz (l:=[7])<|B7 [true,true,false,false,true] [(3,(_,_)),(8,(_,_)),(2,(_,_))] rfl rfl (Zw [_,_] Y call152 Y rfl (Ji q g.2.1 (by have:=g.2.2.2;omega) c)) ?_ Bp Ah;rintro _ _ ⟨_,⟨p1,p2,cu,cO,rfl,J,K,rfl⟩,rfl⟩;refine Bk<|Zz (l:=[9])<|B7 [false,false,false] [] V rfl (Zw [_,_] Y (Km g.kind) Y V (Kw q c g (uL q X) J K b5 b6 r g1 c1 s1 h1 hn hv)) ?_ Bp Ah;rintro _ _ ⟨_,⟨ax,O,rfl,I,rfl⟩,rfl⟩;refine ⟨AY,?_⟩;obtain ⟨B,m,rfl⟩:=I.form;refine A3 10 V (AO Y)<|A3 11 V (CE Y V)<|A3 12 V (CE Y V)<|Zz (l:=[14])<|B7 [] [] V rfl (Xw B9 #[.slice B (Bv q c r).1.rows.length m,I0 (Bv q c r).1.val,.bool (Bv q c r).1.fnd]) ?_ (fun _ _ h=>h.elim) Ah;rintro _ _ ⟨rfl,rfl⟩;refine Bk<|A3 15 V (Aq Y)<|Ag<|Zn [8,9,6] ?_;refine BB (e':=[(8,_),(9,_)]) (by exact ⟨U,B,m,O,I,V,V⟩)
 rintro _ _ ⟨U,B,m,O,I,rfl,rfl⟩;refine Zq<|A1<|Zm Y<|Zv (Br Y)<|A6<|AQ Y (fun hk=>?_) (fun hk=>?_);·
  have af:(Bv q c r).2=false:=by simpa using hk
  refine Zq<|Be<|Zg<|Zv (BM (vs:=[]) (cs:=#[_,_,_]) Y (AZ (pl:=#[(0,1),(1,1),(2,1)]) GS DS (fun _=>by kernel_rfl) V))<|Xe (Xw B9 _)<|A5 Y<|AJ<|Zt<|CP V results97 Y Wh (Au CN B9 Wn (V)) Y (by
   have Z:DC q c r=(C9.none,false):=by unfold DC;rw [G,As rfl,af];rfl
   exact ⟨.slice none 0 0,[],by rw [Z];rfl,by rw [Z];exact Bi 5 _,rfl⟩)
 have af:(Bv q c r).2=true:=by simpa using hk
 refine AC<|Zx<|A1<|Zo Wh (AB (cs:=#[_,_,_]) CN B9 Y B5 Ax)<|Xe (Xw B9 _)<|A5 Y<|AJ<|CP V results97 Y Wh (Au CN B9 Wn (V)) Y (by
  have Z:DC q c r=((Bv q c r).1,true):=by unfold DC;rw [G,As rfl,af];rfl
  exact ⟨.slice B _ m,O,by rw [Z];rfl,by rw [Z];exact I,rfl⟩)
set_option maxHeartbeats 1000000 in
theorem JO(q:QM)(hq:BI q)(p:Int)(qa:B8)(cap:Nat)(cs:List Chg){MC:List A9}(hC:Cv MC (.slice qa cs.length cap) cs)(l9:cs.length<=1000)(hr:Di A rv r.rows)(hn:r.rows.length<=10000000)(hv:-2000000000000000000<=r.val/\r.val<=2000000000000000000):BS prog 48 #[.agg q.A95,.agg #[rv,I0 r.val,.bool r.fnd],.agg #[I0 p,.slice qa cs.length cap]] [A,MC] (fun w H'=>∃cO s',w= .tuple #[.agg #[cO,I0 (Bb q r cs).1.val,.bool (Bb q r cs).1.fnd],.bool (Bb q r cs).2.1,.bool (Bb q r cs).2.2]/\Bc 5 80 cO (Bb q r cs).1.rows.length (Ae (Bb q r cs).1.rows) s'/\H'=[s',A,MC]):=by
 have o9:=mL;obtain ⟨pv,cv,rfl,_⟩:=id hr;obtain ⟨pc,kv,ic,o8,d9⟩:=id hC;injection ic with hv1 hv2 hv3
 subst hv1 hv3;refine Se func48 ntmps48 [0,1,2] ?_;intro u R;refine A1<|Ze (Bx q.A95)<|AG fun bq=>Ze (Bx #[.slice pv r.rows.length cv,I0 r.val,.bool r.fnd])<|AG fun br=>Ze (Bx #[I0 p,.slice qa cs.length cap])<|AG fun bc=>Ze (Al GS #[_,_,_])<|AG fun bo=>Za Y<|A5 Y<|A1<|A5 Y<|A1<|Zh 0 DS V rfl D3 Y<|Zl GF Y<|Zc [_] Y call76 Y V (Gm hr A0) ?_;rintro _ _ ⟨_,⟨s1,h1,rfl⟩,rfl⟩;obtain ⟨g1,c1,rfl⟩:=h1.form;refine Zh 0 DS V rfl D3 Y<|Xe (Zs D3 Y Y V (hi:=by(simp;done)))<|A6<|Zq<|A1<|Zh 1 HF V rfl Mp Y<|Zl On Y<|Zv (Ab Gk Y)<|Zm Y<|Z0<|Zn [3,4,6,9,18,19,20] ?_;refine Zx<|AR<|Zb [9,20,3,4,6,18,19] ?_;refine BF (e0:=[(9,_),(20,_)]) (fun m e H=>∃(k:Nat) (g:C9) (gk:B8) (ck:Nat) (sk:List A9),m=cs.length -k/\(k<=cs.length/\Ht q r (cs.take k)=some g/\Bc 5 80 (.slice gk g.rows.length ck) g.rows.length (Ae g.rows) sk)/\e=[(9,.bool ((cs.take k).any (Da q))),(20,I0 (k:Int))]/\H=[[(br,.cells #[.slice gk g.rows.length ck,I0 g.val,.bool g.fnd] 61 (0,0))],sk]) (by exact ⟨0,r,g1,c1,s1,rfl,⟨C7 _,by rw [J0];rfl,h1⟩,rfl,rfl⟩) Wp ?_;rintro _ _ _ ⟨k,g,gk,ck,sk,rfl,⟨hk,I,cu⟩,rfl,rfl⟩;obtain ⟨gq,gm⟩:=XB (cs.take k) r g 2000000000000000000 10000000 I hv A0 hn;have dn:(cs.take k).length=k:=by rw [CD];omega
 rw [dn]at gq gm;have af:=Cy cu A0
 refine A1<|Zv (Ay Y Y)<|A6<|Zq<|Av Y (fun bn=>?_) (fun bn=>?_);·
  obtain ⟨y,O⟩:∃y,cs[k]?=some y:=⟨_,BT bn⟩;obtain ⟨g2,l8,W,T2,j5,rfl,gy,l5,ax⟩:=d9 k y O;refine AC<|Zx<|Zq<|AR<|A1<|BZ (Ad Gk CA Y Y A0)<|CS (cs:=[(g2,.cells W T2 j5)]) (by simp [gy]) (AB (cs:=y.A93) GP CA Y A0 ax) V rfl<|Ze (Al Lw #[_,_,_,_,_,_,_,_,_,_])<|AG fun bx=>Xe (Xw CA y.A93)<|A6<|A1<|Zm Y<|Zm Y<|Aj (t:=25) Y V (fun K=>?_) (fun K=>?_);·
   have e9:(cs.take (k+1)).any (Da q)=true:=by rw [WV _ O,K];rfl
   refine A7 Y V<|A7 Y V<|A7 Y V<|Zv (AX Y Y)<|A5 Y<|A1<|AW Y<|Zn [3,4,6,9,11,18,19,20] ?_;refine Zx<|A1<|Zo Wh (AB (cs:=#[_,_,_,_,_,_,_]) F1 CM Y B5 Ax)<|Zo Wh (AB (cs:=#[_,_,_]) CN B9 Y B5 Ax)<|Zo Wh (AB (cs:=#[_,_,_,_,_,_,_,_,_,_]) GP CA Y B5 Ax)<|Zc [_,_,_] Y call97 Y V (TA q hq y af A0 A0) ?_;rintro _ _ ⟨_,⟨j3,s3,rfl,Z,rfl⟩,rfl⟩;obtain ⟨X,U,rfl⟩:=Z.form;refine Zm Y<|Zd Y rfl<|Zd Y rfl<|Xe (BL B9 Y Y Hi Wu (by exact (rfl:_=(#[.slice X (DC q y g).1.rows.length U,I0 (DC q y g).1.val,.bool (DC q y g).1.fnd]:AM))) Fi B5 (by exact BC _))<|A5 Y<|A1<|Zm Y<|Zv (Br Y)<|A6<|AQ Y (fun G=>?_) (fun G=>?_);·
    have B:(DC q y g).2=false:=by simpa using G
    have J:Bb q r cs=(C9.none,true,false):=by unfold Bb;rw [Pv (k:=k+1) (by rw [K7 I O,B];rfl)]
    refine Zq<|Be<|Zg<|Zv (BM (vs:=[]) (cs:=#[_,_,_]) Y (AZ (pl:=#[(0,1),(1,1),(2,1)]) GS DS (fun _=>by kernel_rfl) V))<|Xe (Xw B9 _)<|Za Y<|AW Y<|Zn [6,7,8] ?_;refine Zx<|AJ<|Ac<|Zt<|Zt<|Ac<|Zt<|I7 rfl results48 Y Wh (Au CN B9 Wn (rfl)) Y Y (by exact ⟨.slice none 0 0,[],by rw [J];rfl,by rw [J];exact Bi 5 _,rfl⟩)
   have B:(DC q y g).2=true:=by simpa using G
   refine AC<|A8<|Zx<|Zg<|Ya (n:=1) Y Y<|Zm Y<|Z0<|Zn [9,20,3,4,6,18,19] ?_;refine Aa (e':=[(9,_),(20,_)]) (by exact ⟨k+1,(DC q y g).1,X,U,s3,rfl,⟨by omega,by rw [K7 I O,As B],Z⟩,by rw [e9],rfl⟩)
  have e9:(cs.take (k+1)).any (Da q)=Da q y:=by rw [WV _ O,K];rfl
  refine Dt Y Wh (AB (cs:=#[_,_,_,_,_,_,_]) F1 CM Y B5 Ax) V rfl<|Dt Y Wh (AB (cs:=#[_,_,_,_,_,_,_,_,_,_]) GP CA Y B5 Ax) V rfl<|Xr [_,_] Y call96 Y V (Kg q y) ?_;rw [show(decide (BI q)&&(decide y.ok&&Cn q y))=Da q y by rw [D2 hq];rfl];refine Zv (AL Y Y)<|A5 Y<|A1<|AW Y<|Zn [3,4,6,9,11,18,19,20] ?_;refine Zx<|A1<|Zo Wh (AB (cs:=#[_,_,_,_,_,_,_]) F1 CM Y B5 Ax)<|Zo Wh (AB (cs:=#[_,_,_]) CN B9 Y B5 Ax)<|Zo Wh (AB (cs:=#[_,_,_,_,_,_,_,_,_,_]) GP CA Y B5 Ax)<|Zc [_,_,_] Y call97 Y V (TA q hq y af A0 A0) ?_;rintro _ _ ⟨_,⟨j3,s3,rfl,Z,rfl⟩,rfl⟩;obtain ⟨X,U,rfl⟩:=Z.form;refine Zm Y<|Zd Y rfl<|Zd Y rfl<|Xe (BL B9 Y Y Hi Wu (by exact (rfl:_=(#[.slice X (DC q y g).1.rows.length U,I0 (DC q y g).1.val,.bool (DC q y g).1.fnd]:AM))) Fi B5 (by exact BC _))<|A5 Y<|A1<|Zm Y<|Zv (Br Y)<|A6<|AQ Y (fun G=>?_) (fun G=>?_);·
   have B:(DC q y g).2=false:=by simpa using G
   have J:Bb q r cs=(C9.none,true,false):=by unfold Bb;rw [Pv (k:=k+1) (by rw [K7 I O,B];rfl)]
   refine Zq<|Be<|Zg<|Zv (BM (vs:=[]) (cs:=#[_,_,_]) Y (AZ (pl:=#[(0,1),(1,1),(2,1)]) GS DS (fun _=>by kernel_rfl) V))<|Xe (Xw B9 _)<|Za Y<|AW Y<|Zn [6,7,8] ?_;refine Zx<|AJ<|Ac<|Zt<|Zt<|Ac<|Zt<|I7 rfl results48 Y Wh (Au CN B9 Wn (rfl)) Y Y (by exact ⟨.slice none 0 0,[],by rw [J];rfl,by rw [J];exact Bi 5 _,rfl⟩)
  have B:(DC q y g).2=true:=by simpa using G
  refine AC<|A8<|Zx<|Zg<|Ya (n:=1) Y Y<|Zm Y<|Z0<|Zn [9,20,3,4,6,18,19] ?_;refine Aa (e':=[(9,_),(20,_)]) (by exact ⟨k+1,(DC q y g).1,X,U,s3,rfl,⟨by omega,by rw [K7 I O,As B],Z⟩,by rw [e9],rfl⟩)
 have ek:k=cs.length:=by omega
 subst ek;rw [GC]at I⊢;have J:Bb q r cs=(g,cs.any (Da q),true):=by unfold Bb;rw [I]
 refine Az<|Zt<|Zt<|AV<|Zx<|A1<|Zo Wh (AB (cs:=#[_,_,_]) CN B9 Y B5 Ax)<|Zm Y<|Xe (Xw B9 _)<|Za Y<|A5 Y<|AJ<|I7 rfl results48 Y Wh (Au CN B9 Wn (rfl)) Y Y (by exact ⟨.slice gk _ ck,sk,by rw [J];rfl,by rw [J];exact cu,rfl⟩)
variable{rs:List AU}
theorem OT(g:BN rs):rs.Nodup:=g.imp (by
 intro a b h e;subst e;unfold AU.lt2 at h;omega)
theorem OY(g:BI q)(rs:List AU)(x:AU):x∈CU rs q↔x∈rs/\inQ q x=true:=by rw [(Hr g rs).mem_iff,FG]
theorem SG(g:BI q)(m:BN rs):(CU rs q).Nodup:=(Hr g rs).nodup_iff.2 ((OT m).filter _)
theorem SF(I:BI q){o:List AU}(g:BN rs)(G:o.Nodup)(B:∀x,x∈o↔x∈rs/\inQ q x=true)(h2:o.Pairwise (leV q.cl.toNat)):o=CU rs q:=by
 have h:=Hr I rs;refine NY g (f:=inQ q) (t:=q.tb) (fun r m=>(HN m).1) ?_ h h2 (Ev g _ _ _ _);exact (N6 G ((OT g).filter _)).2 fun x=>by rw [B,FG]
variable{y:AU}
theorem Oy(h:I6 q b x=some y):y=x/\b=true/\inQ q y=true:=by
 unfold I6 at h;split at h
 · rename_i h9
   rw [Fm]at h9;injection h with h
   subst h;exact ⟨V,h9⟩
 · cases h
theorem tY(h:I6 q b x=none)(g:b=true):inQ q x=false:=by
 unfold I6 at h;rw [g,Vc]at h;split at h;· cases h
 · simp_all
theorem Rf(g:BI q)(y x:AU):KV q y x=true↔Dh y q.cl.toNat<Dh x q.cl.toNat\/(Dh x q.cl.toNat=Dh y q.cl.toNat/\y.k<x.k):=by
 have hc:=g.2.1;have e:∀r,Bj r q.cl=Dh r q.cl.toNat:=fun r=>by
  have:=Lc r q.cl.toNat A0;rwa [show((q.cl.toNat:Nat):Int)=q.cl by omega]at this
 unfold KV;rw [e,e,S6,Fm,G4,G4,G4]
theorem ux(B:BI q)(h:KV q y x=false):leV q.cl.toNat x y:=by
 have g:=Rf B y x;rw [h]at g;unfold leV;have:¬(Dh y q.cl.toNat<Dh x q.cl.toNat\/(Dh x q.cl.toNat=Dh y q.cl.toNat/\y.k<x.k)):=fun m=>by cases g.2 m
 omega
theorem v7(g:BI q)(h:KV q y x=true):leV q.cl.toNat y x:=by
 have:=(Rf g y x).1 h;unfold leV;omega
theorem WC(I:BI q){L:List AU}(U:L.Pairwise (leV q.cl.toNat))(y:AU):∃A B,L=A++B/\RH (KV q y) L y=A++[y]++B/\(∀x∈A,KV q y x=false)/\(∀x∈B,KV q y x=true):=by
 cases h:L.findIdx? (KV q y)with
 |none=>
  refine ⟨L,[],by simp,?_,dp.1 h,by simp⟩;unfold RH;rw [h];simp
 |some i=>
  obtain ⟨J,h2,K⟩:=aq.1 h;refine ⟨L.take i,L.drop i,(K1 i L).symm,?_,fun x g=>?_,fun x g=>?_⟩
  · unfold RH
    rw [h];rfl
  · obtain ⟨j,m⟩:=HB g
    rw [HH]at m;split at m
    · rename_i hji
      obtain ⟨W,rfl⟩:=C4.1 m;simpa using K j hji
    · cases m
  · have G:=U.sublist (List.drop_sublist i L)
    rw [RW J]at g G;rcases DB.1 g with rfl|g
    · exact h2
    · have O:=(PJ.1 G).1 x g
      have X:=(Rf I y _).1 h2;rw [Rf I];unfold leV at O;omega
theorem aL(g:AU->Bool)(L:List AU)(y:AU):(RH g L y).Perm (y::L):=by
 unfold RH;simp only [Cd,My];refine Nd.trans ?_;rw [K1]
theorem gW(G:BI q){L:List AU}(g:L.Pairwise (leV q.cl.toNat))(y:AU):(RH (KV q y) L y).Pairwise (leV q.cl.toNat):=by
 obtain ⟨A,B,e,e2,O,U⟩:=WC G g y;rw [e2];rw [e]at g;obtain ⟨J,h2,K⟩:=PA.1 g;rw [Cd];refine PA.2 ⟨J,PJ.2 ⟨fun x W=>v7 G (U x W),h2⟩,fun a I b m=>?_⟩;rcases DB.1 m with rfl|m
 · exact ux G (O a I)
 · exact K a I b m
theorem tw(c:Chg)(x:AU):Ju c x=true↔x.is c.t c.k:=by
 unfold Ju AU.is;rw [Fm,G4,G4]
theorem TB(m:BI q)(g:BN rs)(B:GQ rs c):EA q c (CU rs q)=CU (EL rs c) q:=by
 have K:((CU rs q).filter fun x=>!Ju c x).Pairwise (leV q.cl.toNat):=(Ev g _ _ _ _).sublist S0;have O:((CU rs q).filter fun x=>!Ju c x).Nodup:=(SG m g).filter _
 have G:∀x,x∈((CU rs q).filter fun x=>!Ju c x)↔(x∈rs/\¬x.is c.t c.k)/\inQ q x=true:=fun x=>by
  rw [FG,OY m,T5,<-p5,tw];constructor;· rintro ⟨⟨a,b⟩,d⟩;exact ⟨⟨a,d⟩,b⟩
  · rintro ⟨⟨a,d⟩,b⟩;exact ⟨⟨a,b⟩,d⟩
 unfold EA;cases ha:afQ q c with
 |none=>
  refine SF m (JF g B) O (fun x=>?_) K;rw [G,GI g B];constructor;· rintro ⟨a,b⟩;exact ⟨.inl a,b⟩
  · rintro ⟨a|⟨a,rfl⟩,b⟩
    · exact ⟨a,b⟩
    · rw [tY ha a]at b;cases b
 |some y=>
  obtain ⟨I,U,hi⟩:=Oy ha;have J:y∉((CU rs q).filter fun x=>!Ju c x):=fun h=>((G y).1 h).1.2 (by rw [I];exact ⟨rfl,rfl⟩)
  refine SF m (JF g B) ((aL _ _ y).nodup_iff.2 (HJ.2 ⟨J,O⟩)) (fun x=>?_) (gW m K y);rw [(aL _ _ y).mem_iff,DB,G,GI g B];constructor
  · rintro (rfl|⟨a,b⟩)
    · exact ⟨.inr ⟨U,I⟩,hi⟩
    · exact ⟨.inl a,b⟩
  · rintro ⟨a|⟨a,e⟩,b⟩
    · exact .inr ⟨a,b⟩
    · exact .inl (e.trans I.symm)
theorem az(lt:Int->Int->Bool)(G:∀a b c,lt b a=false->lt c b=false->lt c a=false)(m:∀a,lt a a=false)(g:∀a b,lt a b=true->lt b a=false)(B:∀a b,lt a b=false->lt b a=false->a=b){l:List Int}{x:Int}(I:x∈l)(h:∀y∈l,lt y x=false):Ea lt l=⟨[],x,true⟩:=by
 match l,I,h with
 |z::l,I,h=>
  obtain ⟨J,K,O,U⟩:=KR lt G m g z l;rw [U,B x J (O x I) (h J K)]
theorem vJ(lt:Int->Int->Bool)(l:List Int)(n:Int):Ea lt (l++[n])=⟨(Ea lt l).rows,if !(Ea lt l).fnd||lt n (Ea lt l).val then n else(Ea lt l).val,true⟩:=by
 unfold Ea;rw [cD];rfl
theorem oQ(lt:Int->Int->Bool)(G:∀a b c,lt b a=false->lt c b=false->lt c a=false)(g:∀a,lt a a=false)(m:∀a b,lt a b=true->lt b a=false)(B:∀a b,lt a b=false->lt b a=false->a=b)(X:List Int)(b a:Option Int)
 (h:(Jw lt b.isSome a.isSome (b.getD 0) (a.getD 0) (Ea lt (X++b.toList))).2=true):(Jw lt b.isSome a.isSome (b.getD 0) (a.getD 0) (Ea lt (X++b.toList))).1=Ea lt (X++a.toList):=by
 have I:∀r:C9,r=Ea lt X->(if a.isSome then((⟨r.rows,if !r.fnd||lt (a.getD 0) r.val then a.getD 0 else r.val,true⟩:C9),true)else(r,true)).1=Ea lt (X++a.toList):=fun r hr=>by
  subst hr;cases a with
  |none=>simp
  |some n=>rw [mc,vJ];rfl
 cases b with
 |none=>
  have e:Ea lt (X++(none:Option Int).toList)=Ea lt X:=by simp
  rw [e]at h⊢;exact I _ V
 |some o=>
  have O:∃x∈X++[o],(∀y∈X++[o],lt y x=false)/\Ea lt (X++[o])=⟨[],x,true⟩:=by
   cases hx:X++[o]with
   |nil=>simp at hx
   |cons z l=>exact KR lt G g m z l
  obtain ⟨x,Z,h2,h3⟩:=O;rw [mc]at h⊢;rw [h3]at h⊢;unfold Jw at h⊢;simp only [Option.isSome_some,fg,Vc,S7,n9]at h⊢;cases hxo:lt x o with
  |false=>
   rw [hxo]at h;simp only [eI,Hh]at h⊢;have U:=h2 o B4
   have K:=B x o hxo U;subst K;cases a with
   |none=>simp at h
   |some n=>
    simp only [Option.isSome_some,fg,Vc,Bool.and_true,T5]at h;rw [mc,az lt G g m B (x:=n) B4 fun y J=>?_];· rfl
    · rcases C2.1 J with J|J
      · exact G n x y h (h2 y (by simp [J]))
      · rw [C5.1 J];exact g n
  |true=>
   simp only [S7,Mz,HP];have W:x∈X:=by
    rcases C2.1 Z with h9|h9
    · exact h9
    · rw [C5.1 h9,g]at hxo;cases hxo
   have e:(⟨[],x,true⟩:C9)=Ea lt X:=(az lt G g m B W fun y J=>h2 y (by simp [J])).symm;have:=I _ e
   simpa using this
theorem PD(q:QM)(a b:List AU):D5 q (a++b)=D5 q a++D5 q b:=C0
theorem ZN(q:QM)(o:Option AU):D5 q o.toList=(o.map fun r=>Bj r q.bq).toList:=by cases o<;>rfl
theorem fw(q:QM)(o:Option AU):mQ q o=(o.map fun r=>Bj r q.bq).getD 0:=by cases o<;>rfl
theorem jl(q:QM)(o:Option AU):o.isSome=(o.map fun r=>Bj r q.bq).isSome:=by cases o<;>rfl
theorem xN(o:Option Int):Jq o.toList=o.getD 0:=by
 cases o with
 |none=>rfl
 |some x=>show x+0=x;omega
theorem Z9(K:BI q)(hs:BN rs)(hf:GQ rs c)(h7:q.kd≠7)(J:Cn q c=true)(h:(Bv q c (CK rs q)).2=true):(Bv q c (CK rs q)).1=CK (EL rs c) q:=by
 obtain ⟨A,B,e1,e2⟩:=Q8 hf;have f1:rs.filter (inQ q)=A.filter (inQ q)++(bfQ q c).toList++B.filter (inQ q):=by
  conv=>lhs;rw [e1]
  rw [Hj,Hj,TS]
 have f2:(EL rs c).filter (inQ q)=A.filter (inQ q)++(afQ q c).toList++B.filter (inQ q):=by
  rw [e2,Hj,Hj,TU]
 have p1:=Hr K rs;have p2:=Hr K (EL rs c)
 rw [f1]at p1;rw [f2]at p2;have hk:=K.2.2.2
 have l1:=p1.length_eq;have l2:=p2.length_eq
 simp only [BW]at l1 l2;have m1:(D5 q (CU rs q)).Perm ((D5 q (A.filter (inQ q))++D5 q (B.filter (inQ q)))++((bfQ q c).map fun r=>Bj r q.bq).toList):=by
  rw [<-ZN,<-PD,<-PD];refine (p1.map _).trans (List.Perm.map _ ?_);simp only [Cd];exact Rg _ Lo
 have m2:(D5 q (CU (EL rs c) q)).Perm ((D5 q (A.filter (inQ q))++D5 q (B.filter (inQ q)))++((afQ q c).map fun r=>Bj r q.bq).toList):=by
  rw [<-ZN,<-PD,<-PD];refine (p2.map _).trans (List.Perm.map _ ?_);simp only [Cd];exact Rg _ Lo
 have hx:∀lt:Int->Int->Bool,(∀a b c,lt b a=false->lt c b=false->lt c a=false)->(∀a,lt a a=false)->(∀a b,lt a b=true->lt b a=false)->(∀a b,lt a b=false->lt b a=false->a=b)->(Jw lt (bfQ q c).isSome (afQ q c).isSome (mQ q (bfQ q c)) (mQ q (afQ q c)) (Ea lt (D5 q (CU rs q)))).2=true->(Jw lt (bfQ q c).isSome (afQ q c).isSome (mQ q (bfQ q c)) (mQ q (afQ q c)) (Ea lt (D5 q (CU rs q)))).1=Ea lt (D5 q (CU (EL rs c) q)):=fun lt O U W X h9=>by
  rw [PP lt O U W X (fun y=>m1.mem_iff),fw,fw,jl,jl]at h9⊢;rw [PP lt O U W X (fun y=>m2.mem_iff)];exact oQ lt O U W X _ _ _ h9
 unfold Bv CK FW at h⊢;unfold Cn at J;rcases (by omega:(q.kd=1\/q.kd=2)\/q.kd=3\/q.kd=4\/q.kd=5\/q.kd=6)with h8|h8|h8|h8|h8
 · have G:¬q.kd=3:=by omega
   have I:¬q.kd=4:=by omega
   have Z:¬q.kd=5:=by omega
   have g6:¬q.kd=6:=by omega
   simp only [As h8,G,I,Z,g6,h7,HP,TB K hs hf]
 · have m:¬(q.kd=1\/q.kd=2):=by omega
   simp only [An m,As h8]at J⊢;unfold Um at J;cases hb:bfQ q c<;>cases ha:afQ q c<;>rw [hb,ha]at J<;>rw [hb]at l1<;>rw [ha]at l2<;>simp at J l1 l2⊢<;>omega
 · have m:¬(q.kd=1\/q.kd=2):=by omega
   have G:¬q.kd=3:=by omega
   simp only [An m,G,As h8,HP];have s1:=Ma m1
   have s2:=Ma m2;rw [YL,xN,<-fw]at s1 s2;have g:∀l,Le l=Jq l:=fun l=>by unfold Le;rw [Mv];omega
   simp only [g];congr 1;omega
 · have m:¬(q.kd=1\/q.kd=2):=by omega
   have G:¬q.kd=3:=by omega
   have I:¬q.kd=4:=by omega
   simp only [An m,G,I,As h8,HP]at h⊢;exact hx _ (fun a b c h1 h2=>by simp only [Mu]at*;omega) (fun a=>by simp) (fun a b h=>by simp only [G4,Mu]at*;omega) (fun a b h1 h2=>by simp only [Mu]at*;omega) h
 · have m:¬(q.kd=1\/q.kd=2):=by omega
   have G:¬q.kd=3:=by omega
   have I:¬q.kd=4:=by omega
   have Z:¬q.kd=5:=by omega
   simp only [An m,G,I,Z,As h8,HP]at h⊢;exact hx _ (fun a b c h1 h2=>by simp only [Mu]at*;omega) (fun a=>by simp) (fun a b h=>by simp only [G4,Mu]at*;omega) (fun a b h1 h2=>by simp only [Mu]at*;omega) h
theorem Fu(m:BN rs)(k:Int)(x:AU):Dc q (Fj rs q.ot) k=some x↔x∈rs/\x.is q.ot k:=by
 have J:∀a∈rs,∀b∈rs,a.is q.ot k->b.is q.ot k->a=b:=fun a G b I B h2=>by
  have e1:=KQ m G B;have e2:=KQ m I h2
  rw [e1]at e2;injection e2
 have g:∀y,y∈Fj rs q.ot/\decide (y.t=q.ot/\y.k=k)=true↔y∈rs/\y.is q.ot k:=fun y=>by
  unfold Fj inT AU.is;rw [FG,G4,G4];constructor;· rintro ⟨⟨a,_⟩,b⟩;exact ⟨a,b⟩
  · rintro ⟨a,b⟩;exact ⟨⟨a,b.1⟩,b⟩
 unfold Dc;constructor
 · intro h
   exact (g x).1 ⟨dj h,by simpa using fk (p:=fun x:AU=>decide (x.t=q.ot/\x.k=k)) h⟩
 · intro h
   cases hf:(Fj rs q.ot).find? fun x=>decide (x.t=q.ot/\x.k=k)with
   |none=>
    have:=cC.1 hf x ((g x).2 h).1;exact absurd ((g x).2 h).2 this
   |some y=>
    have h2:=(g y).1 ⟨dj hf,by simpa using fk (p:=fun x:AU=>decide (x.t=q.ot/\x.k=k)) hf⟩;rw [J y h2.1 x h.1 h2.2 h.2]
def prQ(rs:List AU)(q:QM)(r:AU):Option Bd:=(Dc q (Fj rs q.ot) (Bj r q.bq)).map fun x=>⟨r,x⟩
def q5(rs:List AU)(q:QM):List Bd:=(CU rs q).filterMap (prQ rs q)
theorem ZZ(rs:List AU)(q:QM):∀l:List AU,Ip q l (Fj rs q.ot)=DW (l.filterMap (prQ rs q))
 |[]=>rfl
 |r::l=>by
  have h:=ZZ rs q l;unfold Ip at h⊢;rw [HW,h,mA];unfold Io prQ;cases Dc q (Fj rs q.ot) (Bj r q.bq)<;>rfl
theorem fJ(ps:List Bd):F6 (DW ps)=ps:=by
 have G:(DW ps).length=2*ps.length:=IK ps;have g:∀(ps:List Bd) (k:Nat) (p:Bd),ps[k]?=some p->(DW ps)[2*k]?=some p.l/\(DW ps)[2*k+1]?=some p.r:=by
  intro ps;induction ps with
  |nil=>intro k p h;cases h
  |cons a ps ih=>
   intro k p h;have e:DW (a::ps)=a.l::a.r::DW ps:=rfl
   rw [e];cases k with
   |zero=>injection h with h;subst h;exact ⟨rfl,rfl⟩
   |succ k=>
    have:=ih k p h;rw [show 2*(k+1)=2*k+2 by omega];exact this
 apply MD;intro k;have m:(F6 (DW ps)).length=ps.length:=by rw [KF];omega
 rcases FA k ps.length with h|h
 · obtain ⟨B,h2⟩:=g ps k _ (BT h)
   unfold F6;rw [DQ,T0 A0,O2,N5,N5,B,h2,BT h];rfl
 · rw [Lq A0,Lq h]
theorem xq{α:Type}{a b:Option α}(h:∀x,a=some x↔b=some x):a=b:=Option.ext h
theorem Vb{r:AU}{p:Bd}(h:prQ rs q r=some p):p.l=r/\Dc q (Fj rs q.ot) (Bj r q.bq)=some p.r:=by
 unfold prQ at h;cases hp:Dc q (Fj rs q.ot) (Bj r q.bq)with
 |none=>rw [hp]at h;cases h
 |some x=>rw [hp]at h;injection h with h;subst h;exact ⟨rfl,rfl⟩
theorem U2{α β:Type}{f g:α->Option β}:∀{l:List α},(∀x∈l,f x=g x)->l.filterMap f=l.filterMap g
 |[],_=>rfl
 |x::l,h=>by rw [mA,mA,h x B4,U2 fun y m=>h y (by simp [m])]
theorem NM{α β γ:Type}(f:α->Option β)(g:β->Option γ)(h:α->Option γ)(l:List α)(e:∀x∈l,(f x).bind g=h x):(l.filterMap f).filterMap g=l.filterMap h:=by
 rw [nv];exact U2 e
theorem vG(g:Bd->Bool)(A B:List Bd)(y:Bd)(m:∀x∈A,g x=false)(G:∀x∈B,g x=true):PI g (A++B) y=A++[y]++B:=by
 have e:((A++B).findIdx? g).getD (A++B).length=A.length:=by
  rw [List.findIdx?_append,dp.2 m];cases B with
  |nil=>simp
  |cons b B=>rw [List.findIdx?_cons,G b B4];simp
 unfold PI;rw [e];simp
theorem Z8(hq:BI q)(K:BN rs)(X:GQ rs c)(h7:q.kd=7)(ht:Cn q c=true)(h:(Bv q c (CK rs q)).2=true):(Bv q c (CK rs q)).1=CK (EL rs c) q:=by
 have j3:=JF K X;have gy:∀rs,CK rs q=⟨DW (q5 rs q),0,false⟩:=fun rs=>by
  unfold CK FW;simp only [show¬q.kd=3 by omega,show¬q.kd=4 by omega,show¬q.kd=5 by omega,show¬q.kd=6 by omega,h7,Hh,HP];rw [ZZ];rfl
 have l9:∀r,Bv q c r=DJ q c r:=fun r=>by
  unfold Bv;simp only [show¬(q.kd=1\/q.kd=2) by omega,show¬q.kd=3 by omega,show¬q.kd=4 by omega,show¬q.kd=5 by omega,show¬q.kd=6 by omega,HP]
 have o9:O6 q c=true\/c.t=q.ot:=by
  unfold Cn at ht;simp only [show¬(q.kd=1\/q.kd=2) by omega,show¬q.kd=3 by omega,show¬q.kd=4 by omega,show¬(q.kd=5\/q.kd=6) by omega,HP,S6,G4]at ht;exact ht
 rw [l9,gy]at h⊢;rw [gy];unfold DJ at h⊢;split;· rename_i g;rw [As g]at h;cases h
 rename_i hto;rw [An hto]at h;simp only [fJ]at h⊢;congr 2;have ek:c.t≠q.tb->CU (EL rs c) q=CU rs q:=fun ic=>by
  refine (SF hq j3 (SG hq K) (fun x=>?_) (Ev K _ _ _ _)).symm;rw [OY hq,GI K X];constructor
  · rintro ⟨a,b⟩
    exact ⟨.inl ⟨a,fun g=>ic (g.1.symm.trans (HN b).1)⟩,b⟩
  · rintro ⟨⟨a,_⟩|⟨a,rfl⟩,b⟩
    · exact ⟨a,b⟩
    · exact absurd (HN b).1 ic
 unfold jnT q5 at h⊢;by_cases G:c.t=q.ot
 · rw [As G]at h⊢
   rw [ek A0];have U:∀k,Dc q (Fj (EL rs c) q.ot) k=if k=c.k then(if c.has then some ⟨c.t,c.k,c.n⟩else none)else Dc q (Fj rs q.ot) k:=fun k=>by
    apply xq;intro x;rw [Fu j3,GI K X];unfold AU.is;split
    · rename_i m
      split
      · rename_i O
        rw [Option.some_inj];constructor
        · rintro ⟨⟨_,a⟩|⟨_,rfl⟩,b,d⟩
          · exact absurd ⟨b.trans G.symm,d.trans m⟩ a
          · rfl
        · rintro rfl;exact ⟨.inr ⟨O,rfl⟩,G,m.symm⟩
      · rename_i O
        constructor
        · rintro ⟨⟨_,a⟩|⟨a,_⟩,b,d⟩
          · exact absurd ⟨b.trans G.symm,d.trans m⟩ a
          · exact absurd a O
        · intro g;cases g
    · rename_i m
      rw [Fu K];unfold AU.is;constructor
      · rintro ⟨⟨a,_⟩|⟨_,rfl⟩,b⟩
        · exact ⟨a,b⟩
        · exact absurd b.2.symm m
      · rintro ⟨a,b,d⟩
        exact ⟨.inl ⟨a,fun g=>m (d.symm.trans g.2)⟩,b,d⟩
   have af:c.had=true->∃x,Dc q (Fj rs q.ot) c.k=some x:=fun O=>by
    obtain ⟨r,hr,hi,_⟩:=JL (X.1.trans O);exact ⟨r,(Fu K c.k r).2 ⟨hr,by rw [<-G];exact hi⟩⟩
   have J:∀{k x},Dc q (Fj rs q.ot) k=some x->x.k=k:=fun g=>((Fu K _ _).1 g).2.2;split
   · rename_i O
     rw [As O]at h;obtain ⟨x0,W⟩:=af h;rw [<-List.filterMap_eq_map];refine NM _ _ _ _ fun r _=>?_;unfold prQ;rw [U,O];by_cases m:Bj r q.bq=c.k
     · rw [m,W,As rfl]
       simp only [O2,KB,Function.comp_apply,HY,J W,decide_true,Hh]
     · rw [An m]
       cases I:Dc q (Fj rs q.ot) (Bj r q.bq)with
       |none=>rfl
       |some x=>simp only [O2,KB,Function.comp_apply,HY,J I,m,ao,Mz,HP]
   · rename_i O
     rw [An O]at h;rw [<-nw];refine NM _ _ _ _ fun r _=>?_;unfold prQ;rw [U,An O];by_cases m:Bj r q.bq=c.k
     · rw [m,As rfl]
       obtain ⟨x0,W⟩:=af h;rw [W];simp [Option.guard,HY,J W]
     · rw [An m]
       cases I:Dc q (Fj rs q.ot) (Bj r q.bq)with
       |none=>rfl
       |some x=>simp [Option.guard,HY,J I,m]
 · rw [An G]at h⊢
   have hg:∀r,prQ (EL rs c) q r=prQ rs q r:=fun r=>by unfold prQ;rw [jM X G]
   have l8:prQ (EL rs c) q=prQ rs q:=funext hg;rw [l8];have o8:c.t=q.tb:=by
    rcases o9 with g|g
    · unfold O6 at g
      rw [S6]at g;rcases g with g|g
      · obtain ⟨y,hy⟩:=jj.1 g
        obtain ⟨e,_,hi⟩:=Oy hy;rw [e]at hi;exact (HN hi).1
      · obtain ⟨y,hy⟩:=jj.1 g
        obtain ⟨e,_,hi⟩:=Oy hy;rw [e]at hi;exact (HN hi).1
    · exact absurd g G
   have dn:((CU rs q).filterMap (prQ rs q)).filter (fun p=>!QL c.k p)=((CU rs q).filter fun x=>!Ju c x).filterMap (prQ rs q):=by
    rw [<-nw,<-nw,nv,nv];refine U2 fun r hr=>?_;have Z:r.t=c.t:=((HN ((OY hq rs r).1 hr).2).1).trans o8.symm
    by_cases m:r.k=c.k
    · cases I:prQ rs q r with
      |none=>simp [Option.guard,Ju,Z,m]
      |some p=>simp [Option.guard,Ju,Z,m,QL,(Vb I).1]
    · cases I:prQ rs q r with
      |none=>simp [Option.guard,Ju,Z,m,I]
      |some p=>simp [Option.guard,Ju,Z,m,QL,(Vb I).1,I]
   rw [dn]at h⊢;have gm:=TB hq K X
   rw [<-gm];unfold EA;cases ha:afQ q c with
   |none=>rfl
   |some y=>
    rw [ha]at h;simp only [ha]at h⊢;have hm:mQ q (some y)=Bj y q.bq:=rfl
    rw [hm]at h⊢;have hL:((CU rs q).filter fun x=>!Ju c x).Pairwise (leV q.cl.toNat):=(Ev K _ _ _ _).sublist S0
    obtain ⟨A,B,e1,e2,hA,hB⟩:=WC hq hL y;rw [e2];cases hfi:((CU rs q).filterMap (prQ rs q)).findIdx? (HY (Bj y q.bq))with
    |none=>
     have hi:Gy (HY (Bj y q.bq)) ((CU rs q).filterMap (prQ rs q))=-1:=by unfold Gy;rw [hfi];rfl
     rw [hi,As B0]at h⊢;rw [Fm,G4]at h;obtain ⟨b,hb⟩:=jj.1 h.1;obtain ⟨eb,gq,kv⟩:=Oy hb;have g:=h.2
     rw [hb]at g;have l5:b∈CU rs q:=by
      refine (OY hq rs b).2 ⟨?_,kv⟩;obtain ⟨r,hr,hi,_,he⟩:=JL (X.1.trans gq);have hv:=X.2 (X.1.trans gq)
      rw [he]at hv;have:b=r:=by
       rw [eb];obtain ⟨t,k,v⟩:=r;obtain ⟨h5,h6⟩:=hi;simp only at h5 h6 hv;subst h5 h6 hv;rfl
      rw [this];exact hr
     have bn:prQ rs q b=none:=by
      cases I:prQ rs q b with
      |none=>rfl
      |some p=>
       have ax:=dp.1 hfi p (cA.2 ⟨b,l5,I⟩);have j5:=(Fu K _ _).1 (Vb I).2
       unfold HY at ax;rw [Mu]at ax;exact absurd (j5.2.2.trans g) ax
     have cu:prQ rs q y=none:=by
      unfold prQ at bn⊢;rw [show Bj y q.bq=Bj b q.bq from g.symm];cases I:Dc q (Fj rs q.ot) (Bj b q.bq)with
      |none=>rfl
      |some x=>rw [I]at bn;cases bn
     rw [e1,fW,fW,fW];simp [cu]
    |some i=>
     obtain ⟨h1,h2,h3⟩:=aq.1 hfi;have hi:Gy (HY (Bj y q.bq)) ((CU rs q).filterMap (prQ rs q))=(i:Int):=by unfold Gy;rw [hfi];rfl
     rw [hi,An A0]at h⊢;rw [Up,N5,BT h1,fg];obtain ⟨r,hr,I⟩:=cA.1 (pB h1);generalize ((CU rs q).filterMap (prQ rs q))[i]=p at h2 I;have h4:=(Fu K _ _).1 (Vb I).2
     unfold HY at h2;rw [G4]at h2;have cu:prQ rs q y=some ⟨y,p.r⟩:=by
      unfold prQ;rw [(Fu K (Bj y q.bq) p.r).2 ⟨h4.1,h4.2.1,h2⟩];rfl
     rw [e1,fW,vG];· simp [cu]
     · intro x hx
       obtain ⟨r9,d9,cO⟩:=cA.1 hx;rw [(Vb cO).1];exact hA r9 d9
     · intro x hx
       obtain ⟨r9,d9,cO⟩:=cA.1 hx;rw [(Vb cO).1];exact hB r9 d9
theorem fE(B:BI q)(G:BN rs)(m:GQ rs c)(I:Cn q c=true)(h:(Bv q c (CK rs q)).2=true):(Bv q c (CK rs q)).1=CK (EL rs c) q:=by
 by_cases g:q.kd=7
 · exact Z8 B G m g I h
 · exact Z9 B G m g I h
def GU(q:QM)(base:Int):Nat->C9×Int->List BR->Option (C9×Int)
 |_,st,[]=>some st
 |i,st,x::l=>if(Bb q st.1 x.cs).2.2=true/\base<=9223372036854775806 -(i:Int)/\x.p=base+1+(i:Int)then GU q base (i+1) ((Bb q st.1 x.cs).1,if(Bb q st.1 x.cs).2.1 then x.p else st.2) l else none
theorem Od(q:QM)(base:Int):∀(a:List BR) (i:Nat) (st:C9×Int) (b:List BR),GU q base i st (a++b)=(GU q base i st a).bind fun g=>GU q base (i+a.length) g b
 |[],i,st,b=>rfl
 |x::a,i,st,b=>by
  show(if(Bb q st.1 x.cs).2.2=true/\base<=9223372036854775806 -(i:Int)/\x.p=base+1+(i:Int)then GU q base (i+1) _ (a++b)else none)=(if(Bb q st.1 x.cs).2.2=true/\base<=9223372036854775806 -(i:Int)/\x.p=base+1+(i:Int)then GU q base (i+1) _ a else none).bind _;split;· rw [Od q base a (i+1) _ b,E4,show i+(a.length+1)=i+1+a.length by omega]
  · rfl
variable{l:List BR}
theorem J9{base:Int}{st g:C9×Int}{x:BR}(h:GU q base 0 st (l.take k)=some g)(m:l[k]?=some x):GU q base 0 st (l.take (k+1))=if(Bb q g.1 x.cs).2.2=true/\base<=9223372036854775806 -(k:Int)/\x.p=base+1+(k:Int)then some ((Bb q g.1 x.cs).1,if(Bb q g.1 x.cs).2.1 then x.p else g.2)else none:=by
 have B:=(C4.1 m).1;rw [Bl m,Od,h,CD,Pu A0,D4];rfl
theorem Mc{base:Int}{st:C9×Int}(h:GU q base 0 st (l.take k)=none):GU q base 0 st l=none:=by
 rw [<-K1 k l,Od,h];rfl
def BA(q:QM)(r:C9)(base:Int)(l:List BR):C9×Int×Bool:=match GU q base 0 (r,base) l with
 |some st=>(st.1,st.2,true)
 |none=>(C9.none,0,false)
theorem MQ(h:(Bb q r cs).2.2=true):Ht q r cs=some (Bb q r cs).1/\(Bb q r cs).2.1=cs.any (Da q):=by
 unfold Bb at*;split at h;· rename_i h9;rw [h9];exact ⟨rfl,rfl⟩
 · cases h
theorem RZ{q:QM}{base:Int}:∀(l:List BR) (i:Nat) (st st':C9×Int) (B:Int) (n:Nat),GU q base i st l=some st'->(∀x∈l,x.cs.length<=1000)->(-B<=st.1.val/\st.1.val<=B)->0<=B->st.1.rows.length<=n->(-(B+2000000000000*(l.length:Int))<=st'.1.val/\st'.1.val<=B+2000000000000*(l.length:Int))/\st'.1.rows.length<=n+2000*l.length
 |[],i,st,st',B,n,h,hl,h1,h2,h3=>by
  unfold GU at h;injection h with h
  subst h;simp only [Ks];exact ⟨⟨by omega,by omega⟩,h3⟩
 |x::l,i,st,st',B,n,h,hl,h1,h2,h3=>by
  unfold GU at h;split at h
  · rename_i h9
    have I:=XB _ _ _ B n (MQ h9.1).1 h1 h2 h3;have J:=hl x B4
    have m:=RZ l (i+1) _ st' (B+2000000000000) (n+2000) h (fun y G=>hl y (by simp [G])) ⟨by simp only;omega,by simp only;omega⟩ A0 (by simp only;omega);rw [E4];obtain ⟨⟨K,O⟩,g⟩:=m;refine ⟨⟨?_,?_⟩,by omega⟩<;>(push_cast;omega)
  · cases h
set_option maxHeartbeats 1000000 in
theorem Qk(q:QM)(hq:BI q)(base:Int)(hb:-9223372036854775808<=base/\base<=9223372036854775807){lv:A4}{ML:List A9}(hL:Ee ML lv l)(o8:l.length<=1000)(U:∀x∈l,x.cs.length<=1000)(hr:Di A rv r.rows)(hn:r.rows.length<=1000000)(hv:-1000000000000000000<=r.val/\r.val<=1000000000000000000):BS prog 80 #[.agg q.A95,.agg #[rv,I0 r.val,.bool r.fnd],I0 base,lv] [A,ML] (fun w H'=>∃af s',w= .tuple #[.agg #[af,I0 (BA q r base l).1.val,.bool (BA q r base l).1.fnd],I0 (BA q r base l).2.1,.bool (BA q r base l).2.2]/\Bc 5 80 af (BA q r base l).1.rows.length (Ae (BA q r base l).1.rows) s'/\H'=[s',A,ML]):=by
 have p8:=mL;obtain ⟨pv,cv,rfl,_⟩:=id hr;obtain ⟨pl,kv,rfl,⟨o9,l9⟩,dn⟩:=id hL;refine Se func80 ntmps80 [0,1,2,3] ?_;intro u R;refine A1<|Ze (Bx q.A95)<|AG fun bq=>Ze (Bx #[.slice pv r.rows.length cv,I0 r.val,.bool r.fnd])<|AG fun br=>Ze (Al GS #[_,_,_])<|AG fun bo=>Za Y<|A5 Y<|A1<|Zm Y<|A5 Y<|A1<|Zh 0 DS V rfl D3 Y<|Zl GF Y<|Zc [_] Y call76 Y V (Gm hr A0) ?_;rintro _ _ ⟨_,⟨s1,h1,rfl⟩,rfl⟩;obtain ⟨g1,c1,rfl⟩:=h1.form;refine Zh 0 DS V rfl D3 Y<|Xe (Zs D3 Y Y V (hi:=by(simp;done)))<|A6<|Zq<|A1<|Zm Y<|Zv (Ab HA Y)<|Zm Y<|Z0<|Zn [2,4,5,8,11,22,23,24] ?_;refine Zx<|AR<|Zb [11,24,2,4,5,8,22,23] ?_;refine BF (e0:=[(11,_),(24,_)]) (fun m e H=>∃(k:Nat) (g:C9×Int) (gk:B8) (ck:Nat) (sk:List A9),m=l.length -k/\(k<=l.length/\GU q base 0 (r,base) (l.take k)=some g/\Bc 5 80 (.slice gk g.1.rows.length ck) g.1.rows.length (Ae g.1.rows) sk)/\e=[(11,I0 g.2),(24,I0 (k:Int))]/\H=[[(br,.cells #[.slice gk g.1.rows.length ck,I0 g.1.val,.bool g.1.fnd] 61 (0,0))],sk]) (by exact ⟨0,(r,base),g1,c1,s1,rfl,⟨C7 _,by rw [J0];rfl,h1⟩,rfl,rfl⟩) Wp ?_;rintro _ _ _ ⟨k,g,gk,ck,sk,rfl,⟨hk,B,Z⟩,rfl,rfl⟩;obtain ⟨gy,gq⟩:=RZ (l.take k) 0 (r,base) g 1000000000000000000 1000000 B (fun x J=>U x (P2 J)) hv A0 hn;have gm:(l.take k).length=k:=by rw [CD];omega
 rw [gm]at gy gq;have d9:=Cy Z A0
 refine A1<|Zv (Ay Y Y)<|A6<|Zq<|Av Y (fun X=>?_) (fun X=>?_);·
  obtain ⟨x,J⟩:∃x,l[k]?=some x:=⟨_,BT X⟩;have j3:=U x (DO J)
  obtain ⟨cO,g2,l8,O,T2,j5,rfl,ic,l5,W⟩:=dn k x J;refine AC<|Zx<|Zq<|AR<|A1<|Zm Y<|BZ (Ad HA G3 Y Y A0)<|CS (cs:=[(g2,.cells O T2 j5)]) (by simp [ic]) (AB (cs:=#[_,_]) IH G3 Y A0 W) V rfl<|Ze (Al Tl #[_,_])<|AG fun bx=>Za Y<|Xe (Xw G3 #[I0 x.p,.slice x.q x.cs.length x.cap])<|A6<|A1<|Zo Wh (AB (cs:=#[_,_,_,_,_,_,_]) F1 CM Y B5 Ax)<|Zo Wh (AB (cs:=#[_,_,_]) CN B9 Y B5 Ax)<|Zo Wh (AB (cs:=#[_,_]) IH G3 Y B5 Ax)<|Zc [_,_,_] Y call48 Y V (JO q hq x.p x.q x.cap x.cs cO j3 d9 A0 A0) ?_;rintro _ _ ⟨_,⟨p9,s3,rfl,h3,rfl⟩,rfl⟩;obtain ⟨g3,c3,rfl⟩:=h3.form;refine Zm Y<|Zd Y V<|Zd Y V<|Zd Y V<|Ze (Al GS #[_,_,_])<|AG fun bn=>Xe (Xw B9 #[.slice g3 (Bb q g.1 x.cs).1.rows.length c3,I0 (Bb q g.1 x.cs).1.val,.bool (Bb q g.1 x.cs).1.fnd])<|Za Y<|AW Y<|Zn [2,4,5,8,11,12,13,14,15,16,22,23,24] ?_;refine Zx<|Zq<|A1<|Zm Y<|Zv (Br Y)<|Zm Y<|Aj (t:=39) Y V (fun K=>?_) (fun K=>?_);·
   have I:(Bb q g.1 x.cs).2.2=false:=by simpa using K
   refine A7 Y V<|A7 Y V<|A7 Y V<|A7 Y V<|Zv (AX Y Y)<|Zm Y<|A7 Y V<|A7 Y V<|A7 Y V<|A7 Y V<|A7 Y V<|A7 Y V<|A7 Y V<|Zv (AX Y Y)<|Z0<|Zn [2,4,5,8,11,13,14,15,22,23,24,53] ?_;refine Zx<|DR Y<|Zq<|Be ?_;have G:BA q r base l=(C9.none,0,false):=by unfold BA;rw [Mc (k:=k+1) (by rw [J9 B J,An (by(rw [I];rintro ⟨h,_⟩;cases h;done))])]
   refine Zg<|Zv (BM (vs:=[]) (cs:=#[_,_,_]) Y (AZ (pl:=#[(0,1),(1,1),(2,1)]) GS DS (fun _=>by kernel_rfl) rfl))<|Xe (Xw B9 _)<|Za Y<|A5 Y<|AJ<|Zt<|Ac<|Zt<|Zt<|Ac<|Zt<|I7 rfl results80 Y Wh (Au CN B9 Wn (rfl)) Y Y (by exact ⟨.slice none 0 0,[],by rw [G];rfl,by rw [G];exact Bi 5 _,rfl⟩)
  have I:(Bb q g.1 x.cs).2.2=true:=by simpa using K
  refine Zf Y Y<|Zf Y Y<|Gx Y (CQ (m:=9223372036854775806) Y Y A0 A0) V rfl ?_;refine Yg (Ef Y Y)<|Zv (AL Y Y)<|Zm Y<|Ao (t:=45) Y V (fun ax=>?_) (fun ax=>?_);·
   refine A7 Y V<|A7 Y V<|A7 Y V<|A7 Y V<|A7 Y V<|A7 Y V<|A7 Y V<|Zv (AX Y Y)<|Z0<|Zn [2,4,5,8,11,13,14,15,22,23,24,53] ?_;refine Zx<|DR Y<|Zq<|Be ?_;have G:BA q r base l=(C9.none,0,false):=by unfold BA;rw [Mc (k:=k+1) (by rw [J9 B J,An (by(rintro ⟨_,h8,h9⟩;omega))])]
   refine Zg<|Zv (BM (vs:=[]) (cs:=#[_,_,_]) Y (AZ (pl:=#[(0,1),(1,1),(2,1)]) GS DS (fun _=>by kernel_rfl) rfl))<|Xe (Xw B9 _)<|Za Y<|A5 Y<|AJ<|Zt<|Ac<|Zt<|Zt<|Ac<|Zt<|I7 rfl results80 Y Wh (Au CN B9 Wn (rfl)) Y Y (by exact ⟨.slice none 0 0,[],by rw [G];rfl,by rw [G];exact Bi 5 _,rfl⟩)
  refine Yf 0 HF V rfl AE Y<|Yl AH Y<|Zf Y Y<|Gx Y (Ha Y Y (IntWalk.i64_in _ A0)) V rfl ?_;refine Zf Y Y<|Gx Y (Ha Y Y (IntWalk.i64_in _ A0)) V rfl ?_;refine Yg (KI Y Y)<|Zv (AL Y Y)<|Z0<|Zn [2,4,5,8,11,13,14,15,22,23,24,53] ?_;refine Zx<|Av Y (fun cu=>?_) (fun cu=>?_);·
   refine Zq<|Be ?_;have G:BA q r base l=(C9.none,0,false):=by unfold BA;rw [Mc (k:=k+1) (by rw [J9 B J,An (by(rintro ⟨_,h8,h9⟩;omega))])]
   refine Zg<|Zv (BM (vs:=[]) (cs:=#[_,_,_]) Y (AZ (pl:=#[(0,1),(1,1),(2,1)]) GS DS (fun _=>by kernel_rfl) rfl))<|Xe (Xw B9 _)<|Za Y<|A5 Y<|AJ<|Zt<|Ac<|Zt<|Zt<|Ac<|Zt<|I7 rfl results80 Y Wh (Au CN B9 Wn (rfl)) Y Y (by exact ⟨.slice none 0 0,[],by rw [G];rfl,by rw [G];exact Bi 5 _,rfl⟩)
  refine AC<|Zx<|A1<|Zo Wh (AB (cs:=#[_,_,_]) CN B9 Y B5 Ax)<|Xe (BL B9 Y Y Hi Wu Ax Fi B5 (by exact BC _))<|A6<|A1<|Zm Y<|A6<|AQ Y (fun ht=>?_) (fun ht=>?_);·
   refine Zg<|Zh 0 HF V rfl AE Y<|Zl AH Y<|AW Y<|A8<|Zx<|Zg<|Ya (n:=1) Y Y<|Zm Y<|Z0<|Zn [11,24,2,4,5,8,22,23] ?_;refine Aa (e':=[(11,_),(24,_)]) (by exact ⟨k+1,((Bb q g.1 x.cs).1,x.p),g3,c3,s3,rfl,⟨by omega,by rw [J9 B J,As ⟨I,by omega,by omega⟩,ht];rfl,h3⟩,rfl,rfl⟩)
  refine AC<|A8<|Zx<|Zg<|Ya (n:=1) Y Y<|Zm Y<|Z0<|Zn [11,24,2,4,5,8,22,23] ?_;refine Aa (e':=[(11,_),(24,_)]) (by exact ⟨k+1,((Bb q g.1 x.cs).1,g.2),g3,c3,s3,rfl,⟨by omega,by rw [J9 B J,As ⟨I,by omega,by omega⟩,ht];rfl,h3⟩,rfl,rfl⟩)
 have ek:k=l.length:=by omega
 subst ek;rw [GC]at B;have G:BA q r base l=(g.1,g.2,true):=by unfold BA;rw [B]
 refine Az<|Zt<|Zt<|AV<|Zx<|A1<|Zo Wh (AB (cs:=#[_,_,_]) CN B9 Y B5 Ax)<|Zm Y<|Xe (Xw B9 _)<|Za Y<|A5 Y<|AJ<|I7 rfl results80 Y Wh (Au CN B9 Wn (rfl)) Y Y (by exact ⟨.slice gk _ ck,sk,by rw [G];rfl,by rw [G];exact Z,rfl⟩)
theorem lF(B:BI q)(G:BN rs)(m:GQ rs c)(g:c.ok)(h:(DC q c (CK rs q)).2=true):(DC q c (CK rs q)).1=CK (EL rs c) q:=by
 unfold DC at h⊢;cases ht:Da q c with
 |false=>
  rw [An B0];unfold Da at ht;rw [D2 g,Vc]at ht;exact (bB B m ht).symm
 |true=>
  rw [ht,As rfl]at h;rw [As rfl];unfold Da at ht;rw [Fm]at ht;split at h
  · rename_i h9
    rw [As h9];exact fE B G m ht.2 h9
  · cases h
theorem VR{q:QM}(G:BI q){rs:List AU}{cs:List Chg}(I:BN rs)(m:wV cs)(B:∀c∈cs,GQ rs c)(g:∀c∈cs,c.ok):∀i,i<=cs.length->∀r,Ht q (CK rs q) (cs.take i)=some r->r=CK (DL rs (cs.take i)) q
 |0,_,r,h=>by
  rw [J0]at h⊢;injection h with h
  exact h.symm
 |i+1,hi,r,h=>by
  obtain ⟨c,hc⟩:∃c,cs[i]?=some c:=⟨_,BT A0⟩;obtain ⟨J,h2⟩:=JM I m B i A0;cases hr:Ht q (CK rs q) (cs.take i)with
  |none=>
   have:=Pv (cs:=cs.take (i+1)) (k:=i) (q:=q) (r:=CK rs q) (by rw [V2,Pu A0];exact hr);rw [this]at h;cases h
  |some rk=>
   have e:=VR G I m B g i A0 rk hr;rw [K7 hr hc,e]at h;split at h
   · rename_i h9
     injection h with h
     rw [<-h,ED rs cs i c hc];exact lF G J (h2 i c (CT _) hc) (g c (DO hc)) h9
   · cases h
theorem rA(g:BI q){p rp:Int}(B:BN rs)(h:KZ rs p rp cs)(m:Ht q (CK rs q) cs=some r):r=CK (DL rs cs) q:=by
 have:=VR g B (QX h.ok.ord) h.fit (fun c hc=>by obtain ⟨i,hi⟩:=HB hc;exact h.ok.all i c hi) cs.length (CT _) r (by rw [GC];exact m);rwa [GC]at this
def NV(q:QM)(x:BR):Bool:=x.cs.any (Da q)
theorem kz{x:BR}(h:∀c∈x.cs,c.ok):NV q x=x.cs.any (Cn q):=by
 unfold NV;rw [pD,eA,eA];constructor
 · rintro ⟨c,hc,g⟩
   unfold Da at g;rw [Fm]at g;exact ⟨c,hc,g.2⟩
 · rintro ⟨c,hc,g⟩
   exact ⟨c,hc,by unfold Da;rw [D2 (h c hc),g];rfl⟩
structure jC(q:QM)(l:List BR)(base k:Nat)(s:Int):Prop where
 le:(base:Int)<=s/\s<=((base+k:Nat):Int)
 at_:s≠(base:Int)->∃(j:Nat) (x:BR),(j:Int)+1=s/\l[j]?=some x/\NV q x=true
 no:∀(j:Nat) (x:BR),s<=(j:Int)->j<base+k->l[j]?=some x->NV q x=false
theorem Pt{q:QM}(U:BI q){l:List BR}(I:En l){base:Nat}(hb:base<=l.length):∀k,base+k<=l.length->∀st,GU q (base:Int) 0 (CK (BQ (l.take base)) q,(base:Int)) ((l.drop base).take k)=some st->st.1=CK (BQ (l.take (base+k))) q/\jC q l base k st.2
 |0,_,st,h=>by
  rw [J0]at h;injection h with h
  subst h;exact ⟨V,⟨by simp only;omega,fun h=>absurd V h,fun j x B h2=>by simp only at B;omega⟩⟩
 |k+1,hk,st,h=>by
  obtain ⟨x,m⟩:∃x,l[base+k]?=some x:=⟨_,BT A0⟩;have J:(l.drop base)[k]?=some x:=by rw [S1];exact m
  obtain ⟨O,_⟩:=I _ x m;have hp:x.p=((base+k:Nat):Int)+1:=O.pos
  cases hr:GU q (base:Int) 0 (CK (BQ (l.take base)) q,(base:Int)) ((l.drop base).take k)with
  |none=>
   have:=Mc (l:=(l.drop base).take (k+1)) (k:=k) (q:=q) (base:=(base:Int)) (st:=(CK (BQ (l.take base)) q,(base:Int))) (by rw [V2,Pu A0];exact hr);rw [this]at h;cases h
  |some sk=>
   obtain ⟨e1,e2⟩:=Pt U I hb k A0 sk hr;rw [J9 hr J]at h;split at h
   · rename_i h9
     injection h with h
     subst h;have G:=MQ h9.1
     have B:=(I.rows (base+k) A0).1;rw [e1]at G;refine ⟨?_,?_⟩
     · have:=rA U B O G.1
       rw [show base+(k+1)=base+k+1 by omega,Bl m,Fq,<-this,e1]
     · have hT:(Bb q sk.1 x.cs).2.1=NV q x:=by rw [e1];exact G.2
       simp only [hT];obtain ⟨⟨a1,W⟩,X,Z⟩:=e2;cases ht:NV q x with
       |true=>
        simp only [Hh];refine ⟨by omega,fun _=>⟨base+k,x,hp.symm,m,ht⟩,fun j y K h6=>by omega⟩
       |false=>
        simp only [Mz,HP];refine ⟨by push_cast at W⊢;omega,X,fun j y K h6 g=>?_⟩;rcases FA j (base+k)with h8|h8
        · exact Z j y K h8 g
        · obtain rfl:j=base+k:=by omega
          rw [m]at g;injection g with g
          rw [<-g];exact ht
   · cases h
theorem Z7(g:1<=q.kd/\q.kd<=4)(c:Chg)(r:C9):(DC q c r).2=true:=by
 have:(Bv q c r).2=true:=by
  unfold Bv;split;· rfl
  · split
    · rfl
    · rw [As A0]
 unfold DC;rw [As this];split<;>rfl
theorem SX{q:QM}(g:1<=q.kd/\q.kd<=4):∀(cs:List Chg) (r:C9),∃m,Ht q r cs=some m
 |[],r=>⟨r,rfl⟩
 |c::cs,r=>by
  unfold Ht;rw [As (Z7 g c r)];exact SX g cs _
abbrev Bs:=List UInt8
def ZR(s:Bs):Bs:=sha (0::s)
def JH(a b:Bs):Bs:=sha (1::(a++b))
def DY(n:Nat):Nat:=2^Nat.log2 (n -1)
theorem PG(n:Nat):0<DY n:=eE _
variable{n:Nat}
theorem PH(h:2<=n):DY n<n:=by
 have:=Nat.log2_self_le (n:=n -1) A0;unfold DY;omega
theorem yG{e:Nat}(g:2^e<n)(h2:n<=2^(e+1)):DY n=2^e:=by
 unfold DY;congr 1;refine (Nat.log2_eq_iff (by have:=eE e;omega)).2 ⟨by omega,by omega⟩
def Dl(l:List Bs):Bs:=
 if h:2<=l.length then JH (Dl (l.take (DY l.length))) (Dl (l.drop (DY l.length)))
 else match l with
  |[]=>sha []
  |x::_=>ZR x
termination_by l.length
decreasing_by
 · have:=PH h;rw [CD];omega
 · have:=PG l.length;rw [CH];omega
theorem rT:Dl []=sha []:=by rw [Dl];rfl
theorem rR(x:Bs):Dl [x]=ZR x:=by rw [Dl];rfl
theorem lX{l:List Bs}(h:2<=l.length):Dl l=JH (Dl (l.take (DY l.length))) (Dl (l.drop (DY l.length))):=by
 rw [Dl,dif_pos h]
theorem VW{a b:List Bs}{e:Nat}(g:a.length=2^e)(h0:0<b.length)(B:b.length<=2^e):Dl (a++b)=JH (Dl a) (Dl b):=by
 have G:=eE e;have m:DY (a++b).length=a.length:=by
  rw [g];exact yG (by rw [BW];omega) (by rw [BW,fy];omega)
 rw [lX (by rw [BW];omega),m,Hb,X1];· rfl
 · rfl
structure JS(ps:List (List Bs)):Prop where
 pow:∀p∈ps,∃e,p.length=2^e
 lt:ps.Pairwise (fun a b=>b.length<a.length)
theorem wC:JS []:=⟨by simp,.nil⟩
theorem sQ{a b:Nat}(h:2^a<2^b):2*2^a<=2^b:=by
 have:=(Nat.pow_lt_pow_iff_right (a:=2) A0).1 h
 calc 2*2^a=2^(a+1):=by rw [fy];omega
  _<=2^b:=Nat.pow_le_pow_right A0 this
variable{p:List Bs}{ps:List (List Bs)}
theorem JS.tail(h:JS (p::ps)):JS ps:=⟨fun q g=>h.pow q (by simp [g]),(PJ.1 h.lt).2⟩
theorem JS.init(h:JS (ps++[p])):JS ps:=⟨fun q g=>h.pow q (by simp [g]),(PA.1 h.lt).1⟩
theorem JS.sum:∀{ps:List (List Bs)} {e:Nat},JS ps->(∀p∈ps,p.length<2^e)->ps.flatten.length<2^e
 |[],e,_,_=>by simpa using eE e
 |p::ps,e,h,hl=>by
  obtain ⟨e1,g⟩:=h.pow p B4;have h2:=hl p B4
  rw [g]at h2;have B:=sQ h2
  have G:=JS.sum (e:=e1) h.tail (fun q m=>by rw [<-g];exact (PJ.1 h.lt).1 q m);rw [CC,BW,g];omega
theorem JS.nonempty(h:JS ps)(g:ps≠[]):0<ps.flatten.length:=by
 cases ps with
 |nil=>exact absurd rfl g
 |cons p ps=>
  obtain ⟨e,m⟩:=h.pow p B4;have:=eE e
  rw [CC,BW];omega
theorem JS.root:∀{ps:List (List Bs)} {q:List Bs},JS (ps++[q])->ps.foldr (fun p o=>JH (Dl p) o) (Dl q)=Dl (ps.flatten++q)
 |[],q,_=>by simp
 |p::ps,q,h=>by
  rw [List.foldr_cons,JS.root (ps:=ps) (q:=q) h.tail,CC,Cd];obtain ⟨e,m⟩:=h.pow p B4;have G:(ps++[q]).flatten=ps.flatten++q:=by simp
  have B:JS (ps++[q]):=h.tail;have g:0<(ps++[q]).flatten.length:=JS.nonempty B B4
  have h2:=JS.sum (e:=e) B (fun r I=>by rw [<-m];exact (PJ.1 h.lt).1 r I);rw [G]at g h2;exact (VW m g A0).symm
structure O8(ls:List Bs)(ps:List (List Bs))(q:List Bs)(i:Nat):Prop where
 bin:JS ps
 pow:∃e,q.length=2^e
 le:∀p∈ps,q.length<=p.length
 flat:ps.flatten++q=ls.take i
variable{ls:List Bs}{i:Nat}
theorem nH{s:Bs}(h:JS ps)(m:ps.flatten=ls.take i)(G:ls[i]?=some s):O8 ls ps [s] (i+1):=
 ⟨h,⟨0,rfl⟩,fun p B=>by
   obtain ⟨e,g⟩:=h.pow p B;have:=eE e
   rw [g];simp;omega,by rw [NX,G,m];rfl⟩
theorem O8.step{q:List Bs}(h:O8 ls (ps++[p]) q i)(e:p.length=q.length):O8 ls ps (p++q) i/\Dl (p++q)=JH (Dl p) (Dl q):=by
 obtain ⟨e1,g⟩:=h.pow;have I:=eE e1
 refine ⟨⟨h.bin.init,⟨e1+1,by rw [BW,e,g,fy];omega⟩,?_,?_⟩,VW (e.trans g) A0 A0⟩
 · intro r B
   obtain ⟨e2,h2⟩:=h.bin.pow r (by simp [B]);have m:=(PA.1 h.bin.lt).2.2 r B p B4
   rw [e,g,h2]at m;have G:=sQ m
   rw [BW,e,g,h2];omega
 · rw [<-h.flat];simp
theorem O8.done{q:List Bs}(h:O8 ls ps q i)(I:∀m p,ps=m++[p]->p.length≠q.length):JS (ps++[q])/\(ps++[q]).flatten=ls.take i:=by
 refine ⟨⟨?_,?_⟩,by rw [<-h.flat];simp⟩
 · intro r B
   rcases C2.1 B with B|B
   · exact h.bin.pow r B
   · rw [C5]at B
     subst B;exact h.pow
 · rw [PA]
   refine ⟨h.bin.lt,List.pairwise_singleton _ _,?_⟩;intro a g b J;rw [C5]at J;subst J;rcases jt ps with rfl|⟨m,p,rfl⟩
   · simp at g
   · have K:=I m p B4
     have h2:=h.le p B4;have G:=h.bin.lt
     simp only [oR]at g G;rw [PA]at G;rcases C2.1 g with g|g
     · have:=G.2.2 a g p B4
       omega
     · rw [C5]at g
       subst g;omega
variable{xs:List A4}
theorem xK{cur:AM}(h:cur.toList.take xs.length=xs){x:A4}(m:xs[i]?=some x):cur[i]?=some x:=by
 have g:=(C4.1 m).1;rw [<-h,HH,As g,HR]at m;exact m
theorem vB(ps:List (List Bs))(o:Bs):(ps.map Dl).reverse.foldl (fun o r=>JH r o) o=ps.foldr (fun p o=>JH (Dl p) o) o:=by
 rw [List.foldl_reverse,List.foldr_map]
def Ed(M:List A9)(v:A4)(ls:List Bs):Prop:=∃p cap,v= .slice p ls.length cap/\(ls.length<=maxLen/\ls.length<=cap)/\∀(i:Nat) (s:Bs),ls[i]?=some s->∃g off cur T zz,p=some ⟨g,off,none⟩/\(g,Obj.cells cur T zz)∈M/\cur[off+i]?=some (GA s)
def rtV(p:List Bs):A4:=GA (Dl p)
def lnV(p:List Bs):A4:=I0 ((p.length:Nat):Int)
variable{e:AK}{s:List A9}
theorem Px{sz:Nat}{b:B8}{c:Nat}(h:Bc sz e (.slice b n c) n xs s)(k:Nat)(B:k<=n):Bc sz e (.slice b k c) k (xs.take (k*sz)) s:=by
 obtain ⟨G,h⟩:=h;refine ⟨by rw [CD,G,Pu (US _ B)],?_⟩;rcases h with⟨m,rfl,rfl⟩|⟨g,cap',cur,z,m,rfl,h2,h3,h4,h5,h6⟩
 · injection m with e1 e2 e3
   subst e1 e3;obtain rfl:k=0:=by omega
   exact .inl ⟨V,V,V⟩
 · injection m with e1 e2 e3
   subst e1 e3;refine .inr ⟨g,c,cur,z,V,V,by omega,h3,h4,?_,h6⟩;rw [<-h5,V2,Pu (US _ B)]
variable{v:A4}
theorem Lg(h:Bc 1 e v n xs s)(h0:0<n):∃g cap cur z,v=I2 g n cap/\s=[(g,.cells cur e z)]/\n<=cap/\∀(i:Nat) (x:A4),xs[i]?=some x->cur[i]?=some x:=by
 obtain ⟨I,⟨_,B,_⟩|⟨g,m,cur,z,B,rfl,h2,K,O,G,U⟩⟩:=h;· omega
 · rw [<-I]at G
   exact ⟨g,m,cur,z,B,V,h2,fun i x J=>xK G J⟩
theorem Ed.mono{M m:List A9}(h:Ed M v ls)(J:∀c∈M,c∈m):Ed m v ls:=by
 obtain ⟨p,cap,e,I,G⟩:=h;refine ⟨p,cap,e,I,fun i s K=>?_⟩;obtain ⟨g,off,cur,T,zz,e1,B,h2⟩:=G i s K;exact ⟨g,off,cur,T,zz,e1,J _ B,h2⟩
theorem Ho(h:Bc 1 e v ls.length (ls.map GA) s)(G:ls.length<=maxLen):Ed s v ls:=by
 rcases PF ls.length with h0|h0
 · obtain ⟨b,cap,rfl⟩:=h.form
   exact ⟨b,cap,rfl,⟨G,by omega⟩,fun i s m=>by rw [Lz h0]at m;simp at m⟩
 · obtain ⟨g,cap,cur,z,rfl,rfl,B,I⟩:=Lg h h0
   refine ⟨_,cap,V,⟨G,B⟩,fun i s m=>⟨g,0,cur,e,z,V,by simp,?_⟩⟩;rw [D4];exact I i _ (by rw [DQ,m];rfl)
theorem Ll(l:List Bs):(Dl l).length=32:=by
 rw [Dl];split;· exact X8 _
 · split<;>exact X8 _
theorem nR(s:Bs)(I:s.length<=140737488354000)(g:AK)(G:Nat×Nat):BJ prog 238 #[.string (str s)] [[(4,.cells (Ez.map Cw).toArray g G)]] (.string (str (ZR s))):=by
 refine Se func238 ntmps238 [0] ?_;intro u R;refine A1<|A5 Y<|A1<|Zc [_] Y call272 Y V (Qt (str [0])) ?_;rintro _ _ ⟨_,⟨B,rfl,rfl⟩,rfl⟩;refine Zm Y<|Ze (Ai (vs:=[_]) (cs:=[_]) DH Fk HT Y V rfl V rfl V)<|AG fun m=>Xr [_] Y call301 Y V (M4 m 0 1 B #[GA s] _ _ _ _ [s] [0] V B4 B4 It _ _)<|A5 Y<|AJ<|AP V results238 Y (by exact ⟨by simp [ZR],V⟩)
theorem Vr(a b:Bs)(I:a.length<=1000000000)(J:b.length<=1000000000)(g:AK)(G:Nat×Nat):BJ prog 239 #[.string (str a),.string (str b)] [[(4,.cells (Ez.map Cw).toArray g G)]] (.string (str (JH a b))):=by
 refine Se func239 ntmps239 [0,1] ?_;intro u R;refine A1<|A5 Y<|A1<|Zc [_] Y call272 Y V (Qt (str [1])) ?_;rintro _ _ ⟨_,⟨B,rfl,rfl⟩,rfl⟩;refine Zm Y<|Zm Y<|Ze (Ai (vs:=[_,_]) (cs:=[_,_]) DH Fk HT Y V rfl V rfl V)<|AG fun m=>Xr [_] Y call301 Y V (M4 m 0 2 B #[GA a,GA b] _ _ _ _ [a,b] [1] V B4 B4 It _ _)<|A5 Y<|AJ<|AP V results239 Y (by exact ⟨by simp [JH],V⟩)
end Go.Proofs.YthhakdmlpngcmaaGreatDoor
